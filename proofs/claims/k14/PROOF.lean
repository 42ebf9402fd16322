import PyProof.Rows.All
import Wide.All
import OpenK.AllK
import Wide.FinOn
import HandS.ForMost
import HandS.Exc
import HandS.ExcOwn
import HandS.ExcInit
import HandS.ExcField
import HandS.TryMany
import HandS.CallSlots
import HandS.Lambda
import HandS.Nested
import HandS.WordsExc
import HandS.TupAny
import HandS.TupMul
import HandS.TupLe
import HandS.Wide
import HandS.WideBits
import HandS.Style
import HandS.Flow
import HandS.Zip
import HandS.Conv
import HandS.Star
import HandS.Walk
import HandS.Rev
import HandS.RevRange
import HandS.IsInst
import KE.DatumOrd
import HandS.Head2
import HandS.HeadEnd
import HandS.HeadHook2
import HandS.EndTab
import KE.GoesNew
import HandS.Property
import KE.DataCmp
import KE.SortData
import PySem.Challenge.RW_leavelots_k14_contracts_refused
set_option Elab.async false
set_option linter.all false
set_option maxRecDepth 100000
set_option maxHeartbeats 8000000
/-! ### text La -/
/-! Values as data: what a Python value is worth, apart from where it stands. -/
namespace L3
open PySem PySem.Spec PyProof.Rows L2

/-- a value as data: fl is a list that nobody changes any more, rl one that is locked, loc n the n-th thing of the store, obj an instance that nobody changes any more -/
inductive D where
  | non | bl (b : Bool) | int (i : Int) | str (x : Str) | ref (a : Addr) | ty (n : String)
  | tup (xs : List D) | fl (xs : List D) | rl (xs : List D) | loc (n : Nat) | obj (C : Addr) (ns : List Str) (xs : List D)

/-- what may change: m where the store's things stand, x other things -/
structure Wo where
  m : List Addr
  x : List Addr
def Wo.has (ρ : Wo) (a : Addr) : Prop := a ∈ ρ.m ∨ a ∈ ρ.x
def Wo.cut (ρ : Wo) (n : Nat) : Wo := ⟨ρ.m.take n, ρ.x⟩
theorem Wo.cut_has {ρ : Wo} {n : Nat} {a : Addr} (h : ¬ ρ.has a) : ¬ (ρ.cut n).has a := fun z => h (z.elim (fun q => .inl (List.mem_of_mem_take q)) .inr)
/-- a tuple that stands for good -/
def StT (K : PySem.W.Frag) (H : Hp) (ρ : Wo) (a : Addr) (xs : List V) : Prop := (Rd H a (.tup xs) ∧ ¬ ρ.has a) ∨ SqT K (fun _ => none) a xs

mutual
/-- the value v is worth d -/
def R (K : PySem.W.Frag) (H : Hp) (ρ : Wo) : D → V → Prop
  | .non, v => v = .non
  | .bl b, v => v = .bl b
  | .int i, v => v = .int i
  | .str x, v => v = .str x
  | .ref a, v => v = .ref a
  | .ty n, v => v = .ty n
  | .tup ds, v => ∃ a xs, v = .ref a ∧ StT K H ρ a xs ∧ RL K H ρ ds xs
  | .fl ds, v => ∃ a xs, v = .ref a ∧ H a = some (.lst xs) ∧ ¬ ρ.has a ∧ RL K H ρ ds xs
  | .rl ds, v => ∃ a o xs, v = .ref a ∧ H a = some (.frz o (.lst xs)) ∧ ¬ ρ.has a ∧ RL K H ρ ds xs
  | .loc n, v => ∃ a, v = .ref a ∧ ρ.m[n]? = some a
  | .obj C ns ds, v => ∃ a dx xs, v = .ref a ∧ H a = some (.ins C dx (ns.zip xs)) ∧ ¬ ρ.has a ∧ ns.length = xs.length ∧ RL K H ρ ds xs
def RL (K : PySem.W.Frag) (H : Hp) (ρ : Wo) : List D → List V → Prop
  | [], vs => vs = []
  | d :: ds, vs => ∃ v r, vs = v :: r ∧ R K H ρ d v ∧ RL K H ρ ds r
end

/-- what may change -/
inductive Cell where
  | lst (xs : List D)
  | dk (kvs : List (Key × D))
  | obj (C : Addr) (ns : List Str) (xs : List D)
abbrev Store := List Cell

def CellR (K : PySem.W.Frag) (H : Hp) (ρ : Wo) (a : Addr) : Cell → Prop
  | .lst ds => ∃ xs, H a = some (.lst xs) ∧ RL K H ρ ds xs
  | .dk kds => ∃ kxs, H a = some (.dK kxs) ∧ kxs.map (·.1) = kds.map (·.1) ∧ RL K H ρ (kds.map (·.2)) (kxs.map (·.2))
  | .obj C ns ds => ∃ dx xs, H a = some (.ins C dx (ns.zip xs)) ∧ ns.length = xs.length ∧ RL K H ρ ds xs

/-- the heap goes on: what stands for good stands, what may change is there -/
structure Go (H : Hp) (ρ : Wo) (H' : Hp) (ρ' : Wo) : Prop where
  pre : ∃ new, ρ'.m = ρ.m ++ new ∧ ∀ a ∈ new, H a = none
  ex : ρ'.x = ρ.x
  keep : ∀ a o, H a = some o → a ∉ ρ.m → (∀ ps, o ≠ .tbl ps) → H' a = some o
  there : ∀ a, H' a = none → H a = none

theorem Go.refl (H : Hp) (ρ : Wo) : Go H ρ H ρ := ⟨⟨[], by simp, by simp⟩, rfl, fun _ _ h _ _ => h, fun _ h => h⟩
theorem Go.notInM {H H1 : Hp} {ρ ρ1 : Wo} (g : Go H ρ H1 ρ1) {a : Addr} {o : HO} (h : H a = some o) (n : a ∉ ρ.m) : a ∉ ρ1.m := fun z => by
  obtain ⟨new, e, f⟩ := g.pre
  rw [e] at z
  rcases List.mem_append.mp z with z | z
  · exact n z
  · rw [f a z] at h; cases h
/-- what is tracked and may not change doesn't come to be what may change -/
theorem Go.notIn {H H1 : Hp} {ρ ρ1 : Wo} (g : Go H ρ H1 ρ1) {a : Addr} {o : HO} (h : H a = some o) (n : ¬ ρ.has a) : ¬ ρ1.has a := fun z => by
  rcases z with z | z
  · exact g.notInM h (fun q => n (.inl q)) z
  · rw [g.ex] at z
    exact n (.inr z)
theorem Go.trans {H H1 H2 : Hp} {ρ ρ1 ρ2 : Wo} (a : Go H ρ H1 ρ1) (b : Go H1 ρ1 H2 ρ2) : Go H ρ H2 ρ2 := by
  obtain ⟨n1, e1, f1⟩ := id a.pre
  obtain ⟨n2, e2, f2⟩ := id b.pre
  refine ⟨⟨n1 ++ n2, by rw [e2, e1, List.append_assoc], fun x hx => ?_⟩, b.ex.trans a.ex, fun x o h hn ht => b.keep x o (a.keep x o h hn ht) (a.notInM h hn) ht, fun x h => a.there x (b.there x h)⟩
  rcases List.mem_append.mp hx with h | h
  · exact f1 x h
  · exact a.there x (f2 x h)
theorem Go.at {H H1 : Hp} {ρ ρ1 : Wo} (g : Go H ρ H1 ρ1) {n : Nat} {a : Addr} (h : ρ.m[n]? = some a) : ρ1.m[n]? = some a := by
  obtain ⟨new, e, _⟩ := g.pre
  rw [e, List.getElem?_append_left (List.getElem?_eq_some_iff.mp h).1]
  exact h
theorem Rd.go {H H1 : Hp} {ρ ρ1 : Wo} (g : Go H ρ H1 ρ1) {a : Addr} {u : HO} (h : Rd H a u) (n : ¬ ρ.has a) (nt : ∀ ps, u ≠ .tbl ps) : Rd H1 a u ∧ ¬ ρ1.has a := by
  rcases h with h | ⟨o, h⟩
  · exact ⟨.inl (g.keep _ _ h (fun q => n (.inl q)) nt), g.notIn h n⟩
  · exact ⟨.inr ⟨o, g.keep _ _ h (fun q => n (.inl q)) (fun ps q => by cases q)⟩, g.notIn h n⟩
theorem StT.go {K : PySem.W.Frag} {H H1 : Hp} {ρ ρ1 : Wo} (g : Go H ρ H1 ρ1) {a : Addr} {xs : List V} (h : StT K H ρ a xs) : StT K H1 ρ1 a xs := by
  rcases h with ⟨h, n⟩ | h
  · exact .inl (Rd.go g h n (fun ps q => by cases q))
  · exact .inr h
theorem SqT.wr {K : PySem.W.Frag} {H : Hp} {a : Addr} {xs : List V} (h : SqT K (fun _ => none) a xs) : SqT K H a xs := by
  rcases h with (h | ⟨o, h⟩) | h
  · cases h
  · cases h
  · exact .inr h
theorem StT.sq {K : PySem.W.Frag} {H : Hp} {ρ : Wo} {a : Addr} {xs : List V} (h : StT K H ρ a xs) : SqT K H a xs := by
  rcases h with ⟨h, _⟩ | h
  · exact .inl h
  · exact SqT.wr h
mutual
theorem R.go {K : PySem.W.Frag} {H H1 : Hp} {ρ ρ1 : Wo} (g : Go H ρ H1 ρ1) : ∀ (d : D) (v : V), R K H ρ d v → R K H1 ρ1 d v
  | .non, _, h => h
  | .bl _, _, h => h
  | .int _, _, h => h
  | .str _, _, h => h
  | .ref _, _, h => h
  | .ty _, _, h => h
  | .tup ds, _, ⟨a, xs, e, s, r⟩ => ⟨a, xs, e, s.go g, RL.go g ds xs r⟩
  | .fl ds, _, ⟨a, xs, e, h, n, r⟩ => ⟨a, xs, e, g.keep _ _ h (fun q => n (.inl q)) (fun ps q => by cases q), g.notIn h n, RL.go g ds xs r⟩
  | .rl ds, _, ⟨a, o, xs, e, h, n, r⟩ => ⟨a, o, xs, e, g.keep _ _ h (fun q => n (.inl q)) (fun ps q => by cases q), g.notIn h n, RL.go g ds xs r⟩
  | .loc _, _, ⟨a, e, h⟩ => ⟨a, e, g.at h⟩
  | .obj C ns ds, _, ⟨a, dx, xs, e, h, n, l, r⟩ => ⟨a, dx, xs, e, g.keep _ _ h (fun q => n (.inl q)) (fun ps q => by cases q), g.notIn h n, l, RL.go g ds xs r⟩
theorem RL.go {K : PySem.W.Frag} {H H1 : Hp} {ρ ρ1 : Wo} (g : Go H ρ H1 ρ1) : ∀ (ds : List D) (vs : List V), RL K H ρ ds vs → RL K H1 ρ1 ds vs
  | [], _, h => h
  | d :: ds, _, ⟨v, r, e, h1, h2⟩ => ⟨v, r, e, R.go g d v h1, RL.go g ds r h2⟩
end

theorem RL.len {K : PySem.W.Frag} {H : Hp} {ρ : Wo} : ∀ {ds : List D} {vs : List V}, RL K H ρ ds vs → vs.length = ds.length
  | [], _, h => by cases h; rfl
  | _ :: _, _, ⟨_, _, e, _, h2⟩ => by rw [e, List.length_cons, List.length_cons, RL.len h2]
theorem RL.get {K : PySem.W.Frag} {H : Hp} {ρ : Wo} : ∀ {ds : List D} {vs : List V} {i : Nat} {d : D}, RL K H ρ ds vs → ds[i]? = some d → ∃ v, vs[i]? = some v ∧ R K H ρ d v
  | [], _, _, _, _, e => by simp at e
  | _ :: _, _, 0, _, ⟨v, r, e, h1, _⟩, q => by simp at q; subst q; subst e; exact ⟨v, by simp, h1⟩
  | _ :: _, _, i + 1, d, ⟨v, r, e, _, h2⟩, q => by
    subst e
    obtain ⟨u, h3, h4⟩ := RL.get (i := i) (d := d) h2 (by simpa using q)
    exact ⟨u, by simpa using h3, h4⟩
theorem RL.getV {K : PySem.W.Frag} {H : Hp} {ρ : Wo} {ds : List D} {vs : List V} {i : Nat} {v : V} (h : RL K H ρ ds vs) (e : vs[i]? = some v) : ∃ d, ds[i]? = some d ∧ R K H ρ d v := by
  have hi : i < vs.length := (List.getElem?_eq_some_iff.mp e).1
  rw [h.len] at hi
  obtain ⟨u, h1, h2⟩ := h.get (List.getElem?_eq_getElem hi)
  rw [e] at h1; cases h1
  exact ⟨_, List.getElem?_eq_getElem hi, h2⟩
theorem RL.append {K : PySem.W.Frag} {H : Hp} {ρ : Wo} : ∀ {ds es : List D} {vs us : List V}, RL K H ρ ds vs → RL K H ρ es us → RL K H ρ (ds ++ es) (vs ++ us)
  | [], _, _, _, h, q => by cases h; exact q
  | _ :: _, _, _, _, ⟨v, r, e, h1, h2⟩, q => by subst e; exact ⟨v, _, rfl, h1, RL.append h2 q⟩
theorem RL.set {K : PySem.W.Frag} {H : Hp} {ρ : Wo} {d : D} {v : V} (q : R K H ρ d v) : ∀ {ds : List D} {vs : List V} (i : Nat), RL K H ρ ds vs → RL K H ρ (ds.set i d) (vs.set i v)
  | [], _, _, h => by cases h; exact rfl
  | _ :: _, _, 0, ⟨_, r, e, _, h2⟩ => by subst e; exact ⟨v, r, rfl, q, h2⟩
  | _ :: _, _, i + 1, ⟨u, r, e, h1, h2⟩ => by subst e; exact ⟨u, _, rfl, h1, RL.set q i h2⟩
theorem RL.take {K : PySem.W.Frag} {H : Hp} {ρ : Wo} : ∀ {ds : List D} {vs : List V} (n : Nat), RL K H ρ ds vs → RL K H ρ (ds.take n) (vs.take n)
  | _, _, 0, _ => by simp [RL]
  | [], _, _ + 1, h => by cases h; simp [RL]
  | _ :: _, _, n + 1, ⟨v, r, e, h1, h2⟩ => by subst e; exact ⟨v, _, rfl, h1, RL.take n h2⟩
theorem RL.drop {K : PySem.W.Frag} {H : Hp} {ρ : Wo} : ∀ {ds : List D} {vs : List V} (n : Nat), RL K H ρ ds vs → RL K H ρ (ds.drop n) (vs.drop n)
  | _, _, 0, h => h
  | [], _, _ + 1, h => by cases h; simp [RL]
  | _ :: _, _, n + 1, ⟨v, r, e, h1, h2⟩ => by subst e; exact RL.drop n h2
theorem RL.erase {K : PySem.W.Frag} {H : Hp} {ρ : Wo} : ∀ {ds : List D} {vs : List V} (n : Nat), RL K H ρ ds vs → RL K H ρ (ds.eraseIdx n) (vs.eraseIdx n)
  | [], _, _, h => by cases h; exact rfl
  | _ :: _, _, 0, ⟨v, r, e, h1, h2⟩ => by subst e; exact h2
  | _ :: _, _, n + 1, ⟨v, r, e, h1, h2⟩ => by subst e; exact ⟨v, _, rfl, h1, RL.erase n h2⟩
theorem RL.rep {K : PySem.W.Frag} {H : Hp} {ρ : Wo} {ds : List D} {vs : List V} (h : RL K H ρ ds vs) : ∀ k : Nat, RL K H ρ (List.replicate k ds).flatten (List.replicate k vs).flatten
  | 0 => rfl
  | k + 1 => by simp only [List.replicate_succ, List.flatten_cons]; exact h.append (RL.rep h k)

/-- what is a thing of the store is no table and no code object -/
def cellO : HO → Bool
  | .lst _ => true
  | .dK _ => true
  | .ins _ _ _ => true
  | _ => false
/-- what is known of the world for good: the code tables, objects that stand, values that are read -/
structure Tb where
  tabs : List NdefX.NTab
  hs : List (Addr × HO)
  vs : List (D × V)
structure Tb.Al (T : Tb) (K : PySem.W.Frag) (H : Hp) (ρ : Wo) : Prop where
  o : ∀ p ∈ T.hs, H p.1 = some p.2 ∧ ¬ ρ.has p.1 ∧ ∀ ps, p.2 ≠ .tbl ps
  v : ∀ q ∈ T.vs, R K H ρ q.1 q.2
theorem Tb.Al.go {T : Tb} {K : PySem.W.Frag} {H H1 : Hp} {ρ ρ1 : Wo} (x : T.Al K H ρ) (g : Go H ρ H1 ρ1) : T.Al K H1 ρ1 :=
  ⟨fun p hp => let ⟨h, n, t⟩ := x.o p hp; ⟨g.keep _ _ h (fun q => n (.inl q)) t, g.notIn h n, t⟩, fun q hq => R.go g _ _ (x.v q hq)⟩
/-- the world: the store stands at ρ, the code tables tell what they should -/
structure Ok (K : PySem.W.Frag) (T : Tb) (H : Hp) (ρ : Wo) (st : Store) : Prop where
  len : ρ.m.length = st.length
  nd : ρ.m.Nodup
  cell : ∀ (n : Nat) (a : Addr) (c : Cell), ρ.m[n]? = some a → st[n]? = some c → CellR K H ρ a c
  tab : NdefX.TabsN T.tabs H
  ext : ∀ a ∈ ρ.x, (∃ o, H a = some o ∧ cellO o = true) ∧ a ∉ ρ.m
  al : T.Al K H ρ
end L3

/-! ### text Lb -/
namespace L3
open PySem PySem.Spec PyProof.Rows L2

/-! ### results -/
inductive Res (α : Type) where
  | ok (a : α) (st : Store)
  | err (C : Addr) (p : Option (Str × D)) (st : Store)
  | bad
def Res.bind {α β : Type} (r : Res α) (f : α → Store → Res β) : Res β := match r with
  | .ok a st => f a st
  | .err C p st => .err C p st
  | .bad => .bad
@[simp] theorem Res.bind_ok {α β : Type} (a : α) (st : Store) (f : α → Store → Res β) : (Res.ok a st).bind f = f a st := rfl
@[simp] theorem Res.bind_err {α β : Type} (C : Addr) (p : Option (Str × D)) (st : Store) (f : α → Store → Res β) : (Res.err C p st).bind f = .err C p st := rfl
@[simp] theorem Res.bind_bad {α β : Type} (f : α → Store → Res β) : (Res.bad).bind f = .bad := rfl

def PayR (K : PySem.W.Frag) (H : Hp) (ρ : Wo) : Option (Str × D) → Option Addr → Prop
  | none, d => d = none
  | some (f, x), d => ∃ dx v, d = some dx ∧ H dx = some (.xd [(f, v)]) ∧ ¬ ρ.has dx ∧ R K H ρ x v
theorem PayR.go {K : PySem.W.Frag} {H H1 : Hp} {ρ ρ1 : Wo} (g : Go H ρ H1 ρ1) : ∀ (p : Option (Str × D)) (d : Option Addr), PayR K H ρ p d → PayR K H1 ρ1 p d
  | none, _, h => h
  | some (f, x), _, ⟨dx, v, e, h, n, r⟩ => ⟨dx, v, e, g.keep _ _ h (fun q => n (.inl q)) (fun ps q => by cases q), g.notIn h n, R.go g x v r⟩

section
variable (K : PySem.W.Frag) (T : Tb)
/-- what is wanted behind a result -/
def Post (W : WX) {α β : Type} (Rel : Hp → Wo → α → β → Prop) (σ : L2.St) (H : Hp) (ρ : Wo) (r : Res α) (Q : β → Hp → Prop) : Prop := match r with
  | .ok a st => ∀ b H' ρ', Go H ρ H' ρ' → Ok K T H' ρ' st → Rel H' ρ' a b → Q b H'
  | .err C p st => ∀ d H' ρ', Go H ρ H' ρ' → Ok K T H' ρ' st → PayR K H' ρ' p d → W (.ref C) d σ H'
  | .bad => False
end
section
variable {K : PySem.W.Frag} {T : Tb} {W : WX} {α β γ δ : Type} {Rel : Hp → Wo → α → β → Prop} {Rel2 : Hp → Wo → γ → δ → Prop} {σ : L2.St} {H H1 : Hp} {ρ ρ1 : Wo}
theorem Post.go {r : Res α} {Q : β → Hp → Prop} (h : Post K T W Rel σ H ρ r Q) (g : Go H ρ H1 ρ1) : Post K T W Rel σ H1 ρ1 r Q := by
  cases r with
  | ok a st => exact fun b H' ρ' g' => h b H' ρ' (g.trans g')
  | err C p st => exact fun d H' ρ' g' => h d H' ρ' (g.trans g')
  | bad => exact h
theorem Post.bind {r : Res α} {f : α → Store → Res γ} {Q : δ → Hp → Prop} {Q1 : β → Hp → Prop} (h : Post K T W Rel2 σ H ρ (r.bind f) Q)
    (k : ∀ a st b H' ρ', Go H ρ H' ρ' → Ok K T H' ρ' st → Rel H' ρ' a b → Post K T W Rel2 σ H' ρ' (f a st) Q → Q1 b H') : Post K T W Rel σ H ρ r Q1 := by
  cases r with
  | ok a st => exact fun b H' ρ' g o rel => k a st b H' ρ' g o rel (Post.go h g)
  | err C p st => exact h
  | bad => exact h
theorem Post.ok {a : α} {st : Store} {Q : β → Hp → Prop} (h : Post K T W Rel σ H ρ (.ok a st) Q) {b : β} (o : Ok K T H ρ st) (r : Rel H ρ a b) : Q b H := h b H ρ (Go.refl H ρ) o r
end

/-- the slots -/
abbrev Sl := List (Option D)
structure RS (K : PySem.W.Frag) (H : Hp) (ρ : Wo) (δ : Sl) (σ : L2.St) : Prop where
  len : δ.length = σ.length
  at' : ∀ (i : Nat) (d : D), δ[i]? = some (some d) → ∃ v, σ[i]? = some (some v) ∧ R K H ρ d v
theorem RS.go {K : PySem.W.Frag} {H H1 : Hp} {ρ ρ1 : Wo} {δ : Sl} {σ : L2.St} (r : RS K H ρ δ σ) (g : Go H ρ H1 ρ1) : RS K H1 ρ1 δ σ :=
  ⟨r.len, fun i d e => let ⟨v, h1, h2⟩ := r.at' i d e; ⟨v, h1, R.go g d v h2⟩⟩
theorem RS.set {K : PySem.W.Frag} {H : Hp} {ρ : Wo} {δ : Sl} {σ : L2.St} (r : RS K H ρ δ σ) {i : Nat} {d : D} {v : V} (q : R K H ρ d v) : RS K H ρ (δ.set i (some d)) (σ.set i (some v)) := by
  refine ⟨by rw [List.length_set, List.length_set, r.len], fun j e h => ?_⟩
  by_cases hj : i = j
  · subst hj
    have hl : i < δ.length := by
      rcases Nat.lt_or_ge i δ.length with h1 | h1
      · exact h1
      · rw [List.getElem?_eq_none (by rw [List.length_set]; exact h1)] at h; cases h
    rw [List.getElem?_set_self hl] at h
    cases h
    exact ⟨v, List.getElem?_set_self (by rw [← r.len]; exact hl), q⟩
  · rw [List.getElem?_set_ne hj] at h
    obtain ⟨u, h1, h2⟩ := r.at' j e h
    exact ⟨u, by rw [List.getElem?_set_ne hj]; exact h1, h2⟩
/-- slots may be forgotten -/
theorem RS.weak {K : PySem.W.Frag} {H : Hp} {ρ : Wo} {δ δ' : Sl} {σ : L2.St} (r : RS K H ρ δ σ) (l : δ'.length = δ.length) (h : ∀ (i : Nat) (d : D), δ'[i]? = some (some d) → δ[i]? = some (some d)) : RS K H ρ δ' σ :=
  ⟨l.trans r.len, fun i d e => r.at' i d (h i d e)⟩
theorem RS.unset {K : PySem.W.Frag} {H : Hp} {ρ : Wo} {δ : Sl} {σ : L2.St} (r : RS K H ρ δ σ) {i : Nat} {v : Option V} : RS K H ρ (δ.set i none) (σ.set i v) := by
  refine ⟨by rw [List.length_set, List.length_set, r.len], fun j e h => ?_⟩
  by_cases hj : i = j
  · subst hj
    by_cases hl : i < δ.length
    · rw [List.getElem?_set_self hl] at h; cases h
    · rw [List.getElem?_eq_none (by rw [List.length_set]; omega)] at h; cases h
  · rw [List.getElem?_set_ne hj] at h
    obtain ⟨u, h1, h2⟩ := r.at' j e h
    exact ⟨u, by rw [List.getElem?_set_ne hj]; exact h1, h2⟩

/-! ### readings by data -/
abbrev EM := Sl → Store → Res D
abbrev AM := Sl → Store → Res (List D)
abbrev TM := Sl → Store → Res Bool
section
variable (K : PySem.W.Frag) (T : Tb) (W : WX)
def rE (m : EM) : TE := fun σ H Q => ∃ ρ δ st, Ok K T H ρ st ∧ RS K H ρ δ σ ∧ Post K T W (R K) σ H ρ (m δ st) Q
def rA (m : AM) : TA := fun σ H Q => ∃ ρ δ st, Ok K T H ρ st ∧ RS K H ρ δ σ ∧ Post K T W (RL K) σ H ρ (m δ st) Q
def rT (m : TM) : TT := fun σ H Q => ∃ ρ δ st, Ok K T H ρ st ∧ RS K H ρ δ σ ∧ Post K T W (fun _ _ a b => a = b) σ H ρ (m δ st) Q
end
/-- where one stands, what the tables of code objects tell, what is wished of an exception -/
structure DE (X : Cx) (T : Tb) (W : WX) (e : Expr) (m : EM) : Prop where
  pe : PE X e (rE X.K T W m)
structure DA (X : Cx) (T : Tb) (W : WX) (es : List Expr) (m : AM) : Prop where
  pa : PA X es (rA X.K T W m)
structure DT (X : Cx) (T : Tb) (W : WX) (e : Expr) (m : TM) : Prop where
  pt : PT X e (rT X.K T W m)
structure DW (X : Cx) (T : Tb) (W : WX) (e : Expr) (m : TM) : Prop where
  pw : PW X e (rT X.K T W m)

theorem PE.imp {X : Cx} {e : Expr} {t t' : TE} (h : PE X e t) (k : ∀ σ H Q, t' σ H Q → t σ H Q) : PE X e t' := ⟨fun pins s σ H Q I q => h.run pins s σ H Q I (k _ _ _ q)⟩
theorem PA.imp {X : Cx} {e : List Expr} {t t' : TA} (h : PA X e t) (k : ∀ σ H Q, t' σ H Q → t σ H Q) : PA X e t' := ⟨fun pos pins s σ H Q I q => h.run pos pins s σ H Q I (k _ _ _ q)⟩
theorem PT.imp {X : Cx} {e : Expr} {t t' : TT} (h : PT X e t) (k : ∀ σ H Q, t' σ H Q → t σ H Q) : PT X e t' := ⟨fun pins s σ H Q I q => h.run pins s σ H Q I (k _ _ _ q)⟩
theorem PW.imp {X : Cx} {e : Expr} {t t' : TT} (h : PW X e t) (k : ∀ σ H Q, t' σ H Q → t σ H Q) : PW X e t' := ⟨fun wh pins s σ H Q I q => h.run wh pins s σ H Q I (k _ _ _ q)⟩

section
variable {X : Cx} {T : Tb} {W : WX} {a b c : Expr} {es : List Expr} {ma mb mc : EM} {mas : AM} {mt mu : TM} {pos p1 p2 : Pos}

/-! ### names, constants -/
def eV (i : Nat) : EM := fun δ st => match δ[i]? with
  | some (some d) => .ok d st
  | _ => .bad
def eC (d : D) : EM := fun _ st => .ok d st
theorem de_v (i : Nat) {x : Str} {pos : Pos} (hN : X.N[i]? = some x := by rfl) (hv : Vis X.env.scope x := by first | exact Or.inl rfl | exact Or.inr (Or.inl rfl) | exact Or.inr (Or.inr rfl)) (hd : (x == ("__debug__" : Str)) = false := by decide)
    (hcd : (x == ("__classdict__" : Str)) = false := by decide) : DE X T W (.Name x pos) (eV i) := by
  refine ⟨PE.imp (pe_var hN hv hd hcd) fun σ H Q ⟨ρ, δ, st, ok, rs, h⟩ => ?_⟩
  unfold eV at h
  split at h
  · rename_i d e
    obtain ⟨v, h1, h2⟩ := rs.at' _ _ e
    exact ⟨v, h1, h.ok ok h2⟩
  · exact h.elim
theorem de_c {d : D} {v : V} (h : PE X a (tC v)) (r : ∀ K H ρ, R K H ρ d v) : DE X T W a (eC d) :=
  ⟨PE.imp h fun σ H Q ⟨ρ, δ, st, ok, rs, h⟩ => h.ok ok (r _ _ _)⟩
theorem de_int {i : Int} {j : Nat} : DE X T W (.Constant (.int i) j pos) (eC (.int i)) := de_c pe_int fun _ _ _ => rfl
theorem de_bl {i : Bool} {j : Nat} : DE X T W (.Constant (.bool i) j pos) (eC (.bl i)) := de_c pe_bl fun _ _ _ => rfl
theorem de_non {j : Nat} : DE X T W (.Constant .none j pos) (eC .non) := de_c pe_non fun _ _ _ => rfl
theorem de_str {x : Str} {j : Nat} : DE X T W (.Constant (.str x) j pos) (eC (.str x)) := de_c pe_str fun _ _ _ => rfl
/-- a written tuple of the module -/
theorem de_glob {x : Str} {d : D} {v : V} {u : Value} (hg : Gl X x) (hm : X.mg x = some u) (r : RelV v u) (rd : ∀ H ρ, R X.K H ρ d v) (hd : (x == ("__debug__" : Str)) = false := by decide) : DE X T W (.Name x pos) (eC d) :=
  ⟨PE.imp (pe_glob hg hm r hd) fun σ H Q ⟨ρ, δ, st, ok, rs, h⟩ => h.ok ok (rd _ _)⟩

/-! ### operators -/
def e2 (f : D → D → Store → Res D) (ma mb : EM) : EM := fun δ st => (ma δ st).bind fun x st1 => (mb δ st1).bind fun y st2 => f x y st2
def e1 (f : D → Store → Res D) (ma : EM) : EM := fun δ st => (ma δ st).bind fun x st1 => f x st1
/-- a rule by values keeps to a function by data -/
def Tell2 (X : Cx) (T : Tb) (r : R2) (f : D → D → Store → Res D) : Prop :=
  ∀ (W : WX) (σ : L2.St) (H : Hp) (ρ : Wo) (st : Store) (x y : D) (v u : V) (Q : VK), Ok X.K T H ρ st → R X.K H ρ x v → R X.K H ρ y u → Post X.K T W (R X.K) σ H ρ (f x y st) Q → r v u H Q
def Tell1 (X : Cx) (T : Tb) (r : V → Hp → VK → Prop) (f : D → Store → Res D) : Prop :=
  ∀ (W : WX) (σ : L2.St) (H : Hp) (ρ : Wo) (st : Store) (x : D) (v : V) (Q : VK), Ok X.K T H ρ st → R X.K H ρ x v → Post X.K T W (R X.K) σ H ρ (f x st) Q → r v H Q
theorem two {r : R2} {f : D → D → Store → Res D} (hf : Tell2 X T r f) {σ : L2.St} {H : Hp} {Q : VK} (h : rE X.K T W (e2 f ma mb) σ H Q) : tOp r (rE X.K T W ma) (rE X.K T W mb) σ H Q := by
  obtain ⟨ρ, δ, st, ok, rs, h⟩ := h
  refine ⟨ρ, δ, st, ok, rs, Post.bind h fun x st1 v H1 ρ1 g1 ok1 rx h1 => ⟨ρ1, δ, st1, ok1, rs.go g1, Post.bind h1 fun y st2 u H2 ρ2 g2 ok2 ry h2 => ?_⟩⟩
  exact hf W σ H2 ρ2 st2 x y v u Q ok2 (R.go g2 x v rx) ry h2
theorem de_op {op : Operator} {r : R2} {f : D → D → Store → Res D} (ho : OpR X (binaryOp op) r) (hf : Tell2 X T r f) (ha : DE X T W a ma) (hb : DE X T W b mb) : DE X T W (.BinOp a op b pos) (e2 f ma mb) :=
  ⟨PE.imp (pe_op ho ha.pe hb.pe) fun _ _ _ h => two hf h⟩
theorem de_un {op : UnaryOp} {r : V → Hp → VK → Prop} {f : D → Store → Res D} (ho : UnR X (unaryOp op) r) (hf : Tell1 X T r f) (ha : DE X T W a ma) : DE X T W (.UnaryOp op a pos) (e1 f ma) :=
  ⟨PE.imp (pe_un ho ha.pe) fun σ H Q ⟨ρ, δ, st, ok, rs, h⟩ => ⟨ρ, δ, st, ok, rs, Post.bind h fun x st1 v H1 ρ1 g1 ok1 rx h1 => hf W σ H1 ρ1 st1 x v Q ok1 rx h1⟩⟩
theorem de_cmp {op : CmpOp} {r : R2} {f : D → D → Store → Res D} (ho : OpR X (compareOp op) r) (hf : Tell2 X T r f) (ha : DE X T W a ma) (hb : DE X T W b mb) (hm : behindInMarks op b = false := by first | exact nomark _ (by decide) (by decide) | rfl) : DE X T W (.Compare a [op] [b] pos) (e2 f ma mb) :=
  ⟨PE.imp (pe_cmpR ho ha.pe hb.pe hm) fun _ _ _ h => two hf h⟩
/-- as a test -/
def t2 (f : D → D → Store → Res D) (ma mb : EM) : TM := fun δ st => (e2 f ma mb δ st).bind fun x st1 => match x with
  | .bl k => .ok k st1
  | _ => .bad
theorem rT_of {m : EM} {σ : L2.St} {H : Hp} {Q : Bool → Hp → Prop} (h : rT X.K T W (fun δ st => (m δ st).bind fun x st1 => match x with | .bl k => .ok k st1 | _ => .bad) σ H Q) : rE X.K T W m σ H fun x H' => ∃ k, x = .bl k ∧ Q k H' := by
  obtain ⟨ρ, δ, st, ok, rs, h⟩ := h
  refine ⟨ρ, δ, st, ok, rs, Post.bind h fun x st1 v H1 ρ1 g1 ok1 rx h1 => ?_⟩
  cases x with
  | bl k => exact ⟨k, rx, h1.ok ok1 rfl⟩
  | _ => exact h1.elim
theorem dt_cmp {op : CmpOp} {r : R2} {f : D → D → Store → Res D} (ho : OpR X (compareOp op) r) (hf : Tell2 X T r f) (ha : DE X T W a ma) (hb : DE X T W b mb) (hm : behindInMarks op b = false := by first | exact nomark _ (by decide) (by decide) | rfl) : DT X T W (.Compare a [op] [b] pos) (t2 f ma mb) :=
  ⟨PT.imp (pt_cmpR ho ha.pe hb.pe hm) fun _ _ _ h => two hf (rT_of h)⟩
end
end L3

/-! ### text Lc -/
namespace L3
open PySem PySem.Spec PyProof.Rows L2

/-! ### new things -/
section
variable {K : PySem.W.Frag} {T : Tb} {H : Hp} {ρ : Wo} {st : Store} {p : Addr} {o : HO}
theorem Ok.thereC (ok : Ok K T H ρ st) {a : Addr} (h : ρ.has a) : ∃ o, H a = some o ∧ cellO o = true := by
  rcases h with h | h
  · obtain ⟨n, hn, e⟩ := List.getElem_of_mem h
    have hs : n < st.length := by rw [← ok.len]; exact hn
    have := ok.cell n a st[n] (by rw [← e]; exact List.getElem?_eq_getElem hn) (List.getElem?_eq_getElem hs)
    cases q : st[n] with
    | lst ds => rw [q] at this; obtain ⟨xs, h1, _⟩ := this; exact ⟨_, h1, rfl⟩
    | dk kds => rw [q] at this; obtain ⟨xs, h1, _⟩ := this; exact ⟨_, h1, rfl⟩
    | obj C ns ds => rw [q] at this; obtain ⟨dx, xs, h1, _⟩ := this; exact ⟨_, h1, rfl⟩
  · exact (ok.ext a h).1
theorem Ok.there (ok : Ok K T H ρ st) {a : Addr} (z : ρ.has a) : ∃ o, H a = some o := (ok.thereC z).imp fun _ h => h.1
theorem Ok.new (ok : Ok K T H ρ st) (h : H p = none) : ¬ ρ.has p := fun z => by
  obtain ⟨o, e⟩ := ok.there z
  rw [h] at e; cases e
theorem go_new (h : H p = none) : Go H ρ (upd H p o) ρ :=
  ⟨⟨[], by simp, by simp⟩, rfl, fun a u e _ _ => by rw [upd_ne (ne_of_none e h)]; exact e, fun a e => by
    by_cases q : a = p
    · subst q; rw [upd_same] at e; cases e
    · rw [upd_ne q] at e; exact e⟩
theorem CellR.go {H1 : Hp} {ρ1 : Wo} (g : Go H ρ H1 ρ1) {a : Addr} (hk : ∀ o, H a = some o → H1 a = some o) : ∀ (c : Cell), CellR K H ρ a c → CellR K H1 ρ1 a c
  | .lst ds, ⟨xs, h, r⟩ => ⟨xs, hk _ h, RL.go g ds xs r⟩
  | .dk kds, ⟨kxs, h, e, r⟩ => ⟨kxs, hk _ h, e, RL.go g _ _ r⟩
  | .obj C ns ds, ⟨dx, xs, h, l, r⟩ => ⟨dx, xs, hk _ h, l, RL.go g _ _ r⟩
theorem Ok.alloc (ok : Ok K T H ρ st) (h : H p = none) : Ok K T (upd H p o) ρ st :=
  ⟨ok.len, ok.nd, fun n a c h1 h2 => (ok.cell n a c h1 h2).go (go_new h) fun u e => by rw [upd_ne (ne_of_none e h)]; exact e, ok.tab.ext fun b u e => by rw [upd_ne (ne_of_none e h)]; exact e, fun a ha => let ⟨⟨u, e, z⟩, n⟩ := ok.ext a ha; ⟨⟨u, by rw [upd_ne (ne_of_none e h)]; exact e, z⟩, n⟩, ok.al.go (go_new h)⟩
end

/-! ### lists and tuples -/
/-- the items of a list that is read -/
def lsOf : D → Store → Option (List D)
  | .fl xs, _ => some xs
  | .rl xs, _ => some xs
  | .loc n, st => match st[n]? with
    | some (.lst xs) => some xs
    | _ => none
  | _, _ => none
/-- .. of a list that isn't locked -/
def trOf : D → Store → Option (List D)
  | .fl xs, _ => some xs
  | .loc n, st => match st[n]? with
    | some (.lst xs) => some xs
    | _ => none
  | _, _ => none
section
variable {K : PySem.W.Frag} {T : Tb} {H : Hp} {ρ : Wo} {st : Store}
theorem locAt (ok : Ok K T H ρ st) {n : Nat} {v : V} {c : Cell} (h : R K H ρ (.loc n) v) (e : st[n]? = some c) : ∃ a, v = .ref a ∧ ρ.m[n]? = some a ∧ CellR K H ρ a c := by
  obtain ⟨a, rfl, ha⟩ := h
  exact ⟨a, rfl, ha, ok.cell n a c ha e⟩
theorem trAt (ok : Ok K T H ρ st) {d : D} {v : V} {ds : List D} (h : R K H ρ d v) (e : trOf d st = some ds) : ∃ a xs, v = .ref a ∧ H a = some (.lst xs) ∧ RL K H ρ ds xs := by
  cases d with
  | fl xs => cases e; obtain ⟨a, xs, e, h, _, r⟩ := h; exact ⟨a, xs, e, h, r⟩
  | loc n =>
    simp only [trOf] at e
    split at e
    · rename_i xs q
      cases e
      obtain ⟨a, rfl, _, xs, h, r⟩ := locAt ok h q
      exact ⟨a, xs, rfl, h, r⟩
    · cases e
  | _ => cases e
theorem lsAt (ok : Ok K T H ρ st) {d : D} {v : V} {ds : List D} (h : R K H ρ d v) (e : lsOf d st = some ds) : ∃ a xs, v = .ref a ∧ SqL K H a xs ∧ RL K H ρ ds xs := by
  cases d with
  | fl xs => cases e; obtain ⟨a, xs, e, h, _, r⟩ := h; exact ⟨a, xs, e, .of h, r⟩
  | rl xs => cases e; obtain ⟨a, o, xs, e, h, _, r⟩ := h; exact ⟨a, xs, e, .inl (.inr ⟨o, h⟩), r⟩
  | loc n =>
    simp only [lsOf] at e
    split at e
    · rename_i xs q
      cases e
      obtain ⟨a, rfl, _, xs, h, r⟩ := locAt ok h q
      exact ⟨a, xs, rfl, .of h, r⟩
    · cases e
  | _ => cases e
theorem tupAt {ds : List D} {v : V} (h : R K H ρ (.tup ds) v) : ∃ a xs, v = .ref a ∧ SqT K H a xs ∧ RL K H ρ ds xs := by
  obtain ⟨a, xs, e, s, r⟩ := h
  exact ⟨a, xs, e, s.sq, r⟩
end
section
variable {K : PySem.W.Frag} {T : Tb} {W : WX} {σ : L2.St} {H : Hp} {ρ : Wo} {st : Store} {Q : VK}
/-- a new list, a new tuple is given out -/
theorem Post.newL {ds : List D} {xs : List V} (ok : Ok K T H ρ st) (r : RL K H ρ ds xs) (h : Post K T W (R K) σ H ρ (.ok (.fl ds) st) Q) : ∀ p, H p = none → Q (.ref p) (upd H p (.lst xs)) := fun p hp =>
  h (.ref p) _ ρ (go_new hp) (ok.alloc hp) ⟨p, xs, rfl, upd_same, ok.new hp, RL.go (go_new hp) _ _ r⟩
theorem Post.newT {ds : List D} {xs : List V} (ok : Ok K T H ρ st) (r : RL K H ρ ds xs) (h : Post K T W (R K) σ H ρ (.ok (.tup ds) st) Q) : ∀ p, H p = none → Q (.ref p) (upd H p (.tup xs)) := fun p hp =>
  h (.ref p) _ ρ (go_new hp) (ok.alloc hp) ⟨p, xs, rfl, .inl ⟨.inl upd_same, ok.new hp⟩, RL.go (go_new hp) _ _ r⟩
end

theorem line1 {n : Nat} (h : n ≤ 1000000) : n ≤ sizeLine := by rw [sizeLine_eq]; omega

/-! ### + - * // % ** on data -/
def dAdd (x y : D) (st : Store) : Res D := match x, y with
  | .int i, .int j => .ok (.int (i + j)) st
  | .str a, .str b => if a.length + b.length ≤ 1000000 then .ok (.str (a ++ b)) st else .bad
  | .tup a, .tup b => if a.length + b.length ≤ 1000000 then .ok (.tup (a ++ b)) st else .bad
  | x, y => match trOf x st, trOf y st with
    | some a, some b => if a.length + b.length ≤ 1000000 then .ok (.fl (a ++ b)) st else .bad
    | _, _ => .bad
def dSub (x y : D) (st : Store) : Res D := match x, y with
  | .int i, .int j => .ok (.int (i - j)) st
  | _, _ => .bad
def dMul (x y : D) (st : Store) : Res D := match x, y with
  | .int i, .int j => if i.natAbs < 2 ^ 64 ∨ j.natAbs < 2 ^ 64 then .ok (.int (i * j)) st else .bad
  | .tup a, .int k => if k = 1 then .ok (.tup a) st else if a ≠ [] ∧ 2 ≤ k ∧ k ≤ 1000 ∧ a.length ≤ 1000 then .ok (.tup (List.replicate k.toNat a).flatten) st else .bad
  | x, .int k => match trOf x st with
    | some a => if 0 ≤ k ∧ k ≤ 1000 ∧ a.length ≤ 1000 then .ok (.fl (List.replicate k.toNat a).flatten) st else .bad
    | _ => .bad
  | _, _ => .bad
def dDiv (x y : D) (st : Store) : Res D := match x, y with
  | .int i, .int j => if 0 < j ∧ j < 1073741824 then .ok (.int (i / j)) st else .bad
  | _, _ => .bad
def dMod (x y : D) (st : Store) : Res D := match x, y with
  | .int i, .int j => if 0 < j then .ok (.int (i % j)) st else .bad
  | _, _ => .bad
def dPow (x y : D) (st : Store) : Res D := match x, y with
  | .int i, .int j => if 0 ≤ j ∧ j ≤ 1000 ∧ i.natAbs < 2 ^ 64 then .ok (.int (i ^ j.toNat)) st else .bad
  | _, _ => .bad
section
variable {X : Cx} {T : Tb}
def rAddD (K : PySem.W.Frag) : R2 := fun x y H Q => (∃ i j, x = .int i ∧ y = .int j ∧ Q (.int (i + j)) H) ∨ (∃ i j, x = .str i ∧ y = .str j ∧ i.length + j.length ≤ sizeLine ∧ Q (.str (i ++ j)) H) ∨ rCatA K x y H Q ∨ rCat x y H Q
theorem op_addD : OpR X (binaryOp .Add) (rAddD X.K) := op_add.or (op_add_str.or (op_catA.or op_cat))
theorem tell_add : Tell2 X T (rAddD X.K) dAdd := by
  intro W σ H ρ st x y v u Q ok rx ry h
  unfold dAdd at h
  split at h
  · cases rx; cases ry
    exact .inl ⟨_, _, rfl, rfl, h.ok ok rfl⟩
  · cases rx; cases ry
    split at h
    · exact .inr (.inl ⟨_, _, rfl, rfl, line1 (by assumption), h.ok ok rfl⟩)
    · exact h.elim
  · rename_i a b
    split at h
    · rename_i hz
      obtain ⟨p, xs, rfl, h1, r1⟩ := tupAt rx
      obtain ⟨q, ys, rfl, h2, r2⟩ := tupAt ry
      refine .inr (.inr (.inl ⟨p, q, xs, ys, rfl, rfl, h1, h2, line1 (by rw [r1.len, r2.len]; exact hz), fun e => ?_, fun e1 e2 => ?_, fun _ _ => Post.newT ok (r1.append r2) h⟩))
      · subst e
        have : a = [] := List.length_eq_zero_iff.mp (by rw [← r1.len]; rfl)
        subst this
        exact h.ok ok ry
      · subst e2
        have : b = [] := List.length_eq_zero_iff.mp (by rw [← r2.len]; rfl)
        subst this
        rw [List.append_nil] at h
        exact h.ok ok rx
    · exact h.elim
  · split at h
    · rename_i a b e1 e2
      split at h
      · rename_i hz
        obtain ⟨p, xs, rfl, h1, r1⟩ := trAt ok rx e1
        obtain ⟨q, ys, rfl, h2, r2⟩ := trAt ok ry e2
        exact .inr (.inr (.inr ⟨p, q, xs, ys, rfl, rfl, h1, h2, line1 (by rw [r1.len, r2.len]; exact hz), Post.newL ok (r1.append r2) h⟩))
      · exact h.elim
    · exact h.elim
theorem tell_sub : Tell2 X T (rI0 fun i j => .int (i - j)) dSub := by
  intro W σ H ρ st x y v u Q ok rx ry h
  unfold dSub at h
  split at h
  · cases rx; cases ry
    exact ⟨_, _, rfl, rfl, h.ok ok rfl⟩
  · exact h.elim
theorem tuple_mul1 (l : Addr) (items : Array Value) (n : Nat) (dd : Option Addr) (sl : Array (Option Value)) (u : Tok) :
    Meets (Builtin.«tuple.__mul__» ⟨[.ref l, .int 1 u], []⟩) (fun _ R s => s.heap.get? l = some { cls := .type "tuple", dict := dd, data := .seq items n, slots := sl } ∧
      R (.ok (.ret (Value.ref l))) s) :=
  .of_wp fun prog w A R s h => by
    obtain ⟨hp, g, d, tk, os⟩ := s
    obtain ⟨hl, h⟩ := h
    have f1 := AutoSeq1.idx_int
    have c1 : (items.isEmpty || (1 : Int) == 1) = true := by simp
    wp_walk using wpAny_loadPart' hl
    repeat (first
      | (refine wpAny_ite_true (decide_eq_true c1) ?_; wp_walk using wpAny_loadPart' hl)
      | (refine wpAny_ite_false (decide_eq_false (by decide)) ?_; wp_walk using wpAny_loadPart' hl))
    exact ⟨_, rfl, h⟩
/-- a tuple once: itself -/
def rRepT1 (K : PySem.W.Frag) : R2 := fun x y H Q => ∃ l xs, x = .ref l ∧ y = .int 1 ∧ SqT K H l xs ∧ Q (.ref l) H
theorem op_repT1 : OpR X (binaryOp .Mult) (rRepT1 X.K) := by
  intro pins s σ H x y v u Q I rx ry h
  obtain ⟨l, xs, rfl, rfl, hT, q⟩ := h
  cases rx
  obtain ⟨t, rfl⟩ := ry
  obtain ⟨its, r, ⟨⟨cls, dd, data, sl⟩, ho, hc, n, hd⟩, hs⟩ := I.tuple hT
  simp only at hc hd
  subst hc hd
  exact wpAny_binaryOp_repeat_ref (T := "tuple") (U := "int") (by decide) ⟨_, ho, rfl⟩ (fun s' => typeIs_int s' 1 t) noFill_tuple_mul F.fills_int_mul F.slot_int_rmul repeat_tuple F.slot_int_index.lookup
    (call_meets F.slot_int_rmul (typeIs_int s 1 t) F.entry_int_rmul (F.args_int_rmul_2 _ _) (int_rmul_tuple 1 t l its.toArray n dd sl)
      ⟨ho, rfl, ⟨_, ho, rfl⟩, call_meets F.slot_tuple_mul ⟨_, ho, rfl⟩ F.entry_tuple_mul (F.args_tuple_mul_2 _ _) (tuple_mul1 l its.toArray n dd sl t) ⟨ho, .ref l, H, I, rfl, q⟩⟩)
def rMulD (K : PySem.W.Frag) : R2 := fun x y H Q => rI CMul (fun i j => .int (i * j)) x y H Q ∨ rRepT K x y H Q ∨ rRep x y H Q ∨ rRepT1 K x y H Q
theorem op_mulD : OpR X (binaryOp .Mult) (rMulD X.K) := op_mul.or (op_repT.or (op_rep.or op_repT1))
theorem natAbs_lt {i : Int} (h : i.natAbs < 2 ^ 64) : -(2 ^ 64) < i ∧ i < 2 ^ 64 := by omega
theorem tell_mul : Tell2 X T (rMulD X.K) dMul := by
  intro W σ H ρ st x y v u Q ok rx ry h
  unfold dMul at h
  split at h
  · cases rx; cases ry
    split at h
    · rename_i hz
      exact .inl ⟨_, _, rfl, rfl, hz.elim (fun z => .inl (natAbs_lt z)) (fun z => .inr (natAbs_lt z)), h.ok ok rfl⟩
    · exact h.elim
  · rename_i a k
    cases ry
    split at h
    · rename_i hk
      subst hk
      obtain ⟨p, xs, rfl, h1, r1⟩ := tupAt rx
      exact .inr (.inr (.inr ⟨p, xs, rfl, rfl, h1, h.ok ok rx⟩))
    split at h
    · rename_i hz
      obtain ⟨p, xs, rfl, h1, r1⟩ := tupAt rx
      refine .inr (.inl ⟨p, k, xs, rfl, rfl, h1, fun e => ?_, hz.2.1, hz.2.2.1, by rw [r1.len]; exact hz.2.2.2, Post.newT ok (r1.rep _) h⟩)
      subst e
      exact hz.1 (List.length_eq_zero_iff.mp (by rw [← r1.len]; rfl))
    · exact h.elim
  · rename_i k _ _
    cases ry
    split at h
    · rename_i a e1
      split at h
      · rename_i hz
        obtain ⟨p, xs, rfl, h1, r1⟩ := trAt ok rx e1
        refine .inr (.inr (.inl ⟨p, k, xs, rfl, rfl, h1, by omega, by omega, ?_, Post.newL ok (r1.rep _) h⟩))
        have h2 : xs.length ≤ 1000 := by rw [r1.len]; exact hz.2.2
        have h3 : k.toNat ≤ 1000 := by omega
        exact line1 (Nat.le_trans (Nat.mul_le_mul h2 h3) (by decide))
      · exact h.elim
    · exact h.elim
  · exact h.elim
theorem tell_div : Tell2 X T (rI CDiv fun i j => .int (i / j)) dDiv := by
  intro W σ H ρ st x y v u Q ok rx ry h
  unfold dDiv at h
  split at h
  · cases rx; cases ry
    split at h
    · exact ⟨_, _, rfl, rfl, by assumption, h.ok ok rfl⟩
    · exact h.elim
  · exact h.elim
theorem tell_mod : Tell2 X T (rI (fun _ j => 0 < j) fun i j => .int (i % j)) dMod := by
  intro W σ H ρ st x y v u Q ok rx ry h
  unfold dMod at h
  split at h
  · cases rx; cases ry
    split at h
    · exact ⟨_, _, rfl, rfl, by assumption, h.ok ok rfl⟩
    · exact h.elim
  · exact h.elim
theorem tell_pow : Tell2 X T (rI CPow fun i j => .int (i ^ j.toNat)) dPow := by
  intro W σ H ρ st x y v u Q ok rx ry h
  unfold dPow at h
  split at h
  · cases rx; cases ry
    split at h
    · rename_i hz
      exact ⟨_, _, rfl, rfl, ⟨hz.1, by omega, hz.2.2⟩, h.ok ok rfl⟩
    · exact h.elim
  · exact h.elim
variable {W : WX} {a b : Expr} {ma mb : EM} {pos : Pos}
theorem de_add (ha : DE X T W a ma) (hb : DE X T W b mb) : DE X T W (.BinOp a .Add b pos) (e2 dAdd ma mb) := de_op op_addD tell_add ha hb
theorem de_sub (ha : DE X T W a ma) (hb : DE X T W b mb) : DE X T W (.BinOp a .Sub b pos) (e2 dSub ma mb) := de_op op_sub tell_sub ha hb
theorem de_mul (ha : DE X T W a ma) (hb : DE X T W b mb) : DE X T W (.BinOp a .Mult b pos) (e2 dMul ma mb) := de_op op_mulD tell_mul ha hb
theorem de_div (ha : DE X T W a ma) (hb : DE X T W b mb) : DE X T W (.BinOp a .FloorDiv b pos) (e2 dDiv ma mb) := de_op op_fdiv tell_div ha hb
theorem de_mod (ha : DE X T W a ma) (hb : DE X T W b mb) : DE X T W (.BinOp a .Mod b pos) (e2 dMod ma mb) := de_op op_mod tell_mod ha hb
theorem de_pow (ha : DE X T W a ma) (hb : DE X T W b mb) : DE X T W (.BinOp a .Pow b pos) (e2 dPow ma mb) := de_op op_pow tell_pow ha hb
def dNeg (x : D) (st : Store) : Res D := match x with
  | .int i => .ok (.int (-i)) st
  | _ => .bad
theorem de_neg (ha : DE X T W a ma) : DE X T W (.UnaryOp .USub a pos) (e1 dNeg ma) := de_un un_neg (fun W σ H ρ st x v Q ok rx h => by
  unfold dNeg at h
  split at h
  · cases rx; exact ⟨_, rfl, h.ok ok rfl⟩
  · exact h.elim) ha
end

/-! ### == != over data -/
mutual
/-- the data of the library -/
def toP : D → Option PyData
  | .non => some .none
  | .bl b => some (.bool b)
  | .int i => some (.int i)
  | .str x => some (.str x)
  | .tup ds => (toPs ds).map .tuple
  | .fl ds => (toPs ds).map .list
  | .rl ds => (toPs ds).map .list
  | _ => none
def toPs : List D → Option (List PyData)
  | [] => some []
  | d :: ds => match toP d, toPs ds with
    | some p, some ps => some (p :: ps)
    | _, _ => none
end
/-- .. of a value at the top -/
def toPd (d : D) (st : Store) : Option PyData := match d with
  | .loc n => match st[n]? with
    | some (.lst ds) => (toPs ds).map .list
    | _ => none
  | d => toP d
mutual
theorem toP_ok {K : PySem.W.Frag} {H : Hp} {ρ : Wo} : ∀ (d : D) (p : PyData) (v : V), toP d = some p → R K H ρ d v → Dp K H v p
  | .non, _, _, e, h => by cases e; cases h; exact .non
  | .bl b, _, _, e, h => by cases e; cases h; exact .bl b
  | .int i, _, _, e, h => by cases e; cases h; exact .int i
  | .str x, _, _, e, h => by cases e; cases h; exact .str x
  | .tup ds, _, _, e, ⟨a, xs, e1, s, r⟩ => by
    simp only [toP, Option.map_eq_some_iff] at e
    obtain ⟨ps, e2, rfl⟩ := e
    subst e1
    exact .tup s.sq (toPs_ok ds ps xs e2 r)
  | .fl ds, _, _, e, ⟨a, xs, e1, s, _, r⟩ => by
    simp only [toP, Option.map_eq_some_iff] at e
    obtain ⟨ps, e2, rfl⟩ := e
    subst e1
    exact .lst (.of s) (toPs_ok ds ps xs e2 r)
  | .rl ds, _, _, e, ⟨a, o, xs, e1, s, _, r⟩ => by
    simp only [toP, Option.map_eq_some_iff] at e
    obtain ⟨ps, e2, rfl⟩ := e
    subst e1
    exact .lst (.inl (.inr ⟨o, s⟩)) (toPs_ok ds ps xs e2 r)
  | .ref _, _, _, e, _ => by cases e
  | .ty _, _, _, e, _ => by cases e
  | .loc _, _, _, e, _ => by cases e
  | .obj _ _ _, _, _, e, _ => by cases e
theorem toPs_ok {K : PySem.W.Frag} {H : Hp} {ρ : Wo} : ∀ (ds : List D) (ps : List PyData) (vs : List V), toPs ds = some ps → RL K H ρ ds vs → DpAll K H vs ps
  | [], _, _, e, h => by cases e; cases h; exact .nil
  | d :: ds, _, _, e, ⟨v, r, e1, h1, h2⟩ => by
    simp only [toPs] at e
    split at e
    · rename_i p ps q1 q2
      cases e
      subst e1
      exact .cons (toP_ok d p v q1 h1) (toPs_ok ds ps r q2 h2)
    · cases e
end
theorem toPd_ok {K : PySem.W.Frag} {T : Tb} {H : Hp} {ρ : Wo} {st : Store} (ok : Ok K T H ρ st) {d : D} {p : PyData} {v : V} (e : toPd d st = some p) (h : R K H ρ d v) : Dp K H v p := by
  unfold toPd at e
  split at e
  · rename_i n
    split at e
    · rename_i ds q
      simp only [Option.map_eq_some_iff] at e
      obtain ⟨ps, e2, rfl⟩ := e
      obtain ⟨a, rfl, _, xs, h1, r⟩ := locAt ok h q
      exact .lst (.of h1) (toPs_ok ds ps xs e2 r)
    · cases e
  · exact toP_ok _ _ _ e h
def dEq (x y : D) (st : Store) : Res D := match x, y with
  | .str a, .str b => .ok (.bl (decide (a = b))) st
  | x, y => match toPd x st, toPd y st with
    | some p, some q => if SeqAt.shaped p = true ∧ SeqAt.shaped q = true then .ok (.bl (PyData.eqv p q)) st else .bad
    | _, _ => .bad
def dNe (x y : D) (st : Store) : Res D := match x, y with
  | .str a, .str b => .ok (.bl (!decide (a = b))) st
  | x, y => match toPd x st, toPd y st with
    | some p, some q => if SeqAt.shaped p = true ∧ SeqAt.shaped q = true then .ok (.bl (!PyData.eqv p q)) st else .bad
    | _, _ => .bad
section
variable {X : Cx} {T : Tb}
def rEqS (K : PySem.W.Frag) : R2 := fun x y H Q => rEq x y H Q ∨ rEqD K x y H Q
def rNeS (K : PySem.W.Frag) : R2 := fun x y H Q => rNe x y H Q ∨ rNeD K x y H Q
theorem op_eqS (hu : X.A.units + 64 < cLine) : OpR X (compareOp .Eq) (rEqS X.K) := OpR.or op_eq (op_eqD hu)
theorem op_neS (hu : X.A.units + 64 < cLine) : OpR X (compareOp .NotEq) (rNeS X.K) := OpR.or op_ne (op_neD hu)
theorem str_dec (a b : Str) : decide ((V.str a) = V.str b) = decide (a = b) := by
  rw [Bool.eq_iff_iff, decide_eq_true_iff, decide_eq_true_iff]
  exact ⟨fun e => by cases e; rfl, fun e => by rw [e]⟩
theorem tell_eq : Tell2 X T (rEqS X.K) dEq := by
  intro W σ H ρ st x y v u Q ok rx ry h
  unfold dEq at h
  split at h
  · cases rx; cases ry
    exact .inl ⟨rfl, by rw [str_dec]; exact h.ok ok rfl⟩
  · split at h
    · rename_i p q e1 e2
      split at h
      · rename_i hz
        exact .inr ⟨p, q, toPd_ok ok e1 rx, toPd_ok ok e2 ry, hz.1, hz.2, h.ok ok rfl⟩
      · exact h.elim
    · exact h.elim
theorem tell_ne : Tell2 X T (rNeS X.K) dNe := by
  intro W σ H ρ st x y v u Q ok rx ry h
  unfold dNe at h
  split at h
  · cases rx; cases ry
    exact .inl ⟨rfl, by rw [str_dec]; exact h.ok ok rfl⟩
  · split at h
    · rename_i p q e1 e2
      split at h
      · rename_i hz
        exact .inr ⟨p, q, toPd_ok ok e1 rx, toPd_ok ok e2 ry, hz.1, hz.2, h.ok ok rfl⟩
      · exact h.elim
    · exact h.elim
end
/-! ### < <= > >= over ints, is None -/
def dLt (x y : D) (st : Store) : Res D := match x, y with
  | .int i, .int j => .ok (.bl (decide (i < j))) st
  | .str a, .str b => .ok (.bl (decide (a.cps.toList < b.cps.toList))) st
  | _, _ => .bad
def dLe (x y : D) (st : Store) : Res D := match x, y with
  | .int i, .int j => .ok (.bl (decide (i ≤ j))) st
  | _, _ => .bad
def dGt (x y : D) (st : Store) : Res D := match x, y with
  | .int i, .int j => .ok (.bl (decide (j < i))) st
  | _, _ => .bad
def dGe (x y : D) (st : Store) : Res D := match x, y with
  | .int i, .int j => .ok (.bl (decide (j ≤ i))) st
  | _, _ => .bad
def isN : D → Bool
  | .non => true
  | _ => false
def dIsN (x y : D) (st : Store) : Res D := match y with
  | .non => .ok (.bl (isN x)) st
  | _ => .bad
def dNotN (x y : D) (st : Store) : Res D := match y with
  | .non => .ok (.bl (!isN x)) st
  | _ => .bad
section
variable {X : Cx} {T : Tb}
def rLtD : R2 := fun x y H Q => (∃ i j, x = .int i ∧ y = .int j ∧ Q (.bl (decide (i < j))) H) ∨ (∃ i j, x = .str i ∧ y = .str j ∧ Q (.bl (decide (i.cps.toList < j.cps.toList))) H)
theorem op_ltD : OpR X (compareOp .Lt) rLtD := op_lt.or op_lt_str
theorem tell_lt : Tell2 X T rLtD dLt := by
  intro W σ H ρ st x y v u Q ok rx ry h
  unfold dLt at h
  split at h
  · cases rx; cases ry; exact .inl ⟨_, _, rfl, rfl, h.ok ok rfl⟩
  · cases rx; cases ry; exact .inr ⟨_, _, rfl, rfl, h.ok ok rfl⟩
  · exact h.elim
theorem tell_le : Tell2 X T (rI0 fun i j => .bl (decide (i ≤ j))) dLe := by
  intro W σ H ρ st x y v u Q ok rx ry h
  unfold dLe at h
  split at h
  · cases rx; cases ry; exact ⟨_, _, rfl, rfl, h.ok ok rfl⟩
  · exact h.elim
theorem tell_gt : Tell2 X T (rI0 fun i j => .bl (decide (j < i))) dGt := by
  intro W σ H ρ st x y v u Q ok rx ry h
  unfold dGt at h
  split at h
  · cases rx; cases ry; exact ⟨_, _, rfl, rfl, h.ok ok rfl⟩
  · exact h.elim
theorem tell_ge : Tell2 X T (rI0 fun i j => .bl (decide (j ≤ i))) dGe := by
  intro W σ H ρ st x y v u Q ok rx ry h
  unfold dGe at h
  split at h
  · cases rx; cases ry; exact ⟨_, _, rfl, rfl, h.ok ok rfl⟩
  · exact h.elim
theorem isN_ok {K : PySem.W.Frag} {H : Hp} {ρ : Wo} : ∀ {d : D} {v : V}, R K H ρ d v → decide (v = .non) = isN d
  | .non, _, h => by cases h; rfl
  | .bl _, _, h => by cases h; rfl
  | .int _, _, h => by cases h; rfl
  | .str _, _, h => by cases h; rfl
  | .ref _, _, h => by cases h; rfl
  | .ty _, _, h => by cases h; rfl
  | .tup _, _, ⟨_, _, e, _⟩ => by subst e; rfl
  | .fl _, _, ⟨_, _, e, _⟩ => by subst e; rfl
  | .rl _, _, ⟨_, _, _, e, _⟩ => by subst e; rfl
  | .loc _, _, ⟨_, e, _⟩ => by subst e; rfl
  | .obj _ _ _, _, ⟨_, _, _, e, _⟩ => by subst e; rfl
theorem tell_isN : Tell2 X T (fun x y H Q => y = .non ∧ Q (.bl (decide (x = .non))) H) dIsN := by
  intro W σ H ρ st x y v u Q ok rx ry h
  unfold dIsN at h
  split at h
  · cases ry; exact ⟨rfl, by rw [isN_ok rx]; exact h.ok ok rfl⟩
  · exact h.elim
theorem tell_notN : Tell2 X T (fun x y H Q => y = .non ∧ Q (.bl (!decide (x = .non))) H) dNotN := by
  intro W σ H ρ st x y v u Q ok rx ry h
  unfold dNotN at h
  split at h
  · cases ry; exact ⟨rfl, by rw [isN_ok rx]; exact h.ok ok rfl⟩
  · exact h.elim
end
/-! ### in, not in: flat things in a list or tuple -/
def fV : D → Option V
  | .non => some .non
  | .bl b => some (.bl b)
  | .int i => some (.int i)
  | .str x => some (.str x)
  | _ => none
def fVs : List D → Option (List V)
  | [] => some []
  | d :: ds => match fV d, fVs ds with
    | some v, some vs => some (v :: vs)
    | _, _ => none
theorem fV_ok {K : PySem.W.Frag} {H : Hp} {ρ : Wo} {d : D} {v w : V} (e : fV d = some w) (h : R K H ρ d v) : v = w ∧ flatV w = true := by
  cases d <;> simp only [fV] at e <;> first | (cases e; done) | (cases e; cases h; exact ⟨rfl, rfl⟩)
theorem fVs_ok {K : PySem.W.Frag} {H : Hp} {ρ : Wo} : ∀ {ds : List D} {vs ws : List V}, fVs ds = some ws → RL K H ρ ds vs → vs = ws ∧ ws.all flatV = true
  | [], _, _, e, h => by cases e; cases h; exact ⟨rfl, rfl⟩
  | d :: ds, _, _, e, ⟨v, r, e1, h1, h2⟩ => by
    simp only [fVs] at e
    split at e
    · rename_i w ws q1 q2
      cases e
      obtain ⟨a1, a2⟩ := fV_ok q1 h1
      obtain ⟨b1, b2⟩ := fVs_ok q2 h2
      subst e1 a1 b1
      exact ⟨rfl, by rw [List.all_cons, a2, b2]; rfl⟩
    · cases e
/-- the items of a list or a tuple -/
def sqOf : D → Store → Option (List D)
  | .tup xs, _ => some xs
  | d, st => lsOf d st
theorem sqAt {K : PySem.W.Frag} {T : Tb} {H : Hp} {ρ : Wo} {st : Store} (ok : Ok K T H ρ st) {d : D} {v : V} {ds : List D} (h : R K H ρ d v) (e : sqOf d st = some ds) : ∃ a xs, v = .ref a ∧ (SqL K H a xs ∨ SqT K H a xs) ∧ RL K H ρ ds xs := by
  unfold sqOf at e
  split at e
  · cases e
    obtain ⟨a, xs, e, s, r⟩ := tupAt h
    exact ⟨a, xs, e, .inr s, r⟩
  · obtain ⟨a, xs, e, s, r⟩ := lsAt ok h e
    exact ⟨a, xs, e, .inl s, r⟩
def occ (j i : Str) : Bool := !(Builtin.Str.occurrences j i 0 j.length 1).isEmpty
def dIn (neg : Bool) (x y : D) (st : Store) : Res D := match x, y with
  | .str i, .str j => .ok (.bl (if neg then !(occ j i) else occ j i)) st
  | x, y => match sqOf y st with
    | some ys => match fV x, fVs ys with
      | some v, some vs => .ok (.bl (if neg then !inV v vs else inV v vs)) st
      | _, _ => .bad
    | _ => .bad
section
variable {X : Cx} {T : Tb}
def rInD (K : PySem.W.Frag) (neg : Bool) : R2 := fun x y H Q => (∃ i j, x = .str i ∧ y = .str j ∧ Q (.bl (if neg then !(occ j i) else occ j i)) H) ∨ rIn K neg x y H Q
theorem op_inD : OpR X (compareOp .In) (rInD X.K false) := OpR.or (op_in_str) op_in_seq
theorem op_notInD : OpR X (compareOp .NotIn) (rInD X.K true) := OpR.or (op_notIn_str) op_notIn_seq
theorem tell_in {neg : Bool} : Tell2 X T (rInD X.K neg) (dIn neg) := by
  intro W σ H ρ st x y v u Q ok rx ry h
  unfold dIn at h
  split at h
  · cases rx; cases ry
    exact .inl ⟨_, _, rfl, rfl, h.ok ok rfl⟩
  · split at h
    · rename_i ys e1
      split at h
      · rename_i w ws e2 e3
        obtain ⟨a, xs, rfl, s, r⟩ := sqAt ok ry e1
        obtain ⟨rfl, f1⟩ := fV_ok e2 rx
        obtain ⟨rfl, f2⟩ := fVs_ok e3 r
        exact .inr ⟨a, _, rfl, s, f1, f2, h.ok ok rfl⟩
      · exact h.elim
    · exact h.elim
end
end L3

/-! ### text Ld -/
namespace L3
open PySem PySem.Spec PyProof.Rows L2

section
variable {X : Cx} {T : Tb} {W : WX} {a b c e : Expr} {es rest : List Expr} {ma mb mc me : EM} {mas : AM} {mt mu : TM} {pos p1 p2 : Pos}
/-! ### comparisons in short -/
variable (hu : X.A.units + 64 < cLine)
theorem de_eq (hu : X.A.units + 64 < cLine) (ha : DE X T W a ma) (hb : DE X T W b mb) : DE X T W (.Compare a [.Eq] [b] pos) (e2 dEq ma mb) := de_cmp (op_eqS hu) tell_eq ha hb
theorem de_ne (hu : X.A.units + 64 < cLine) (ha : DE X T W a ma) (hb : DE X T W b mb) : DE X T W (.Compare a [.NotEq] [b] pos) (e2 dNe ma mb) := de_cmp (op_neS hu) tell_ne ha hb
theorem de_lt (ha : DE X T W a ma) (hb : DE X T W b mb) : DE X T W (.Compare a [.Lt] [b] pos) (e2 dLt ma mb) := de_cmp op_ltD tell_lt ha hb
theorem de_le (ha : DE X T W a ma) (hb : DE X T W b mb) : DE X T W (.Compare a [.LtE] [b] pos) (e2 dLe ma mb) := de_cmp op_le tell_le ha hb
theorem de_gt (ha : DE X T W a ma) (hb : DE X T W b mb) : DE X T W (.Compare a [.Gt] [b] pos) (e2 dGt ma mb) := de_cmp op_gt tell_gt ha hb
theorem de_ge (ha : DE X T W a ma) (hb : DE X T W b mb) : DE X T W (.Compare a [.GtE] [b] pos) (e2 dGe ma mb) := de_cmp op_ge tell_ge ha hb
theorem de_isN (ha : DE X T W a ma) (hb : DE X T W b mb) : DE X T W (.Compare a [.Is] [b] pos) (e2 dIsN ma mb) := de_cmp op_isN tell_isN ha hb
theorem de_notN (ha : DE X T W a ma) (hb : DE X T W b mb) : DE X T W (.Compare a [.IsNot] [b] pos) (e2 dNotN ma mb) := de_cmp op_notN tell_notN ha hb
theorem de_in (ha : DE X T W a ma) (hb : DE X T W b mb) (hm : behindInMarks .In b = false := by rfl) : DE X T W (.Compare a [.In] [b] pos) (e2 (dIn false) ma mb) := de_cmp op_inD tell_in ha hb hm
theorem de_notIn (ha : DE X T W a ma) (hb : DE X T W b mb) (hm : behindInMarks .NotIn b = false := by rfl) : DE X T W (.Compare a [.NotIn] [b] pos) (e2 (dIn true) ma mb) := de_cmp op_notInD tell_in ha hb hm
theorem dt_eq (hu : X.A.units + 64 < cLine) (ha : DE X T W a ma) (hb : DE X T W b mb) : DT X T W (.Compare a [.Eq] [b] pos) (t2 dEq ma mb) := dt_cmp (op_eqS hu) tell_eq ha hb
theorem dt_ne (hu : X.A.units + 64 < cLine) (ha : DE X T W a ma) (hb : DE X T W b mb) : DT X T W (.Compare a [.NotEq] [b] pos) (t2 dNe ma mb) := dt_cmp (op_neS hu) tell_ne ha hb
theorem dt_lt (ha : DE X T W a ma) (hb : DE X T W b mb) : DT X T W (.Compare a [.Lt] [b] pos) (t2 dLt ma mb) := dt_cmp op_ltD tell_lt ha hb
theorem dt_le (ha : DE X T W a ma) (hb : DE X T W b mb) : DT X T W (.Compare a [.LtE] [b] pos) (t2 dLe ma mb) := dt_cmp op_le tell_le ha hb
theorem dt_gt (ha : DE X T W a ma) (hb : DE X T W b mb) : DT X T W (.Compare a [.Gt] [b] pos) (t2 dGt ma mb) := dt_cmp op_gt tell_gt ha hb
theorem dt_ge (ha : DE X T W a ma) (hb : DE X T W b mb) : DT X T W (.Compare a [.GtE] [b] pos) (t2 dGe ma mb) := dt_cmp op_ge tell_ge ha hb
theorem dt_isN (ha : DE X T W a ma) (hb : DE X T W b mb) : DT X T W (.Compare a [.Is] [b] pos) (t2 dIsN ma mb) := dt_cmp op_isN tell_isN ha hb
theorem dt_notN (ha : DE X T W a ma) (hb : DE X T W b mb) : DT X T W (.Compare a [.IsNot] [b] pos) (t2 dNotN ma mb) := dt_cmp op_notN tell_notN ha hb
theorem dt_in (ha : DE X T W a ma) (hb : DE X T W b mb) (hm : behindInMarks .In b = false := by rfl) : DT X T W (.Compare a [.In] [b] pos) (t2 (dIn false) ma mb) := dt_cmp op_inD tell_in ha hb hm
theorem dt_notIn (ha : DE X T W a ma) (hb : DE X T W b mb) (hm : behindInMarks .NotIn b = false := by rfl) : DT X T W (.Compare a [.NotIn] [b] pos) (t2 (dIn true) ma mb) := dt_cmp op_notInD tell_in ha hb hm

/-! ### and, or, not, if -/
def tVal (m : EM) : TM := fun δ st => (m δ st).bind fun x st1 => match x with
  | .bl k => .ok k st1
  | _ => .bad
theorem dt_val (h : DE X T W a ma) (he : ∀ whole, isTrue a X.env whole = (do let v ← whole; standAt a.pos; holding [v] (truthy v)) := by intro _; rfl) : DT X T W a (tVal ma) :=
  ⟨PT.imp (pt_val h.pe he) fun _ _ _ h => rT_of h⟩
def tAndM (t u : TM) : TM := fun δ st => (t δ st).bind fun k st1 => if k = true then u δ st1 else .ok false st1
def tOrM (t u : TM) : TM := fun δ st => (t δ st).bind fun k st1 => if k = true then .ok true st1 else u δ st1
def tNotM (t : TM) : TM := fun δ st => (t δ st).bind fun k st1 => .ok (!k) st1
theorem dw_and1 (h : DT X T W a mt) : DW X T W (.BoolOp .And [a] pos) mt := ⟨pw_and1 h.pt⟩
theorem dw_or1 (h : DT X T W a mt) : DW X T W (.BoolOp .Or [a] pos) mt := ⟨pw_or1 h.pt⟩
theorem dw_and (h : DT X T W a mt) (h2 : DW X T W (.BoolOp .And (b :: rest) pos) mu) : DW X T W (.BoolOp .And (a :: b :: rest) pos) (tAndM mt mu) :=
  ⟨PW.imp (pw_and h.pt h2.pw) fun σ H Q ⟨ρ, δ, st, ok, rs, h⟩ => ⟨ρ, δ, st, ok, rs, Post.bind h fun k st1 k' H1 ρ1 g1 ok1 e h1 => by
    subst e
    cases k with
    | true => exact ⟨ρ1, δ, st1, ok1, rs.go g1, h1⟩
    | false => exact h1.ok ok1 rfl⟩⟩
theorem dw_or (h : DT X T W a mt) (h2 : DW X T W (.BoolOp .Or (b :: rest) pos) mu) : DW X T W (.BoolOp .Or (a :: b :: rest) pos) (tOrM mt mu) :=
  ⟨PW.imp (pw_or h.pt h2.pw) fun σ H Q ⟨ρ, δ, st, ok, rs, h⟩ => ⟨ρ, δ, st, ok, rs, Post.bind h fun k st1 k' H1 ρ1 g1 ok1 e h1 => by
    subst e
    cases k with
    | false => exact ⟨ρ1, δ, st1, ok1, rs.go g1, h1⟩
    | true => exact h1.ok ok1 rfl⟩⟩
theorem DW.dt (h : DW X T W a mt) : DT X T W a mt := ⟨h.pw.pt⟩
theorem dt_not (h : DT X T W a mt) : DT X T W (.UnaryOp .Not a pos) (tNotM mt) :=
  ⟨PT.imp (pt_not h.pt) fun σ H Q ⟨ρ, δ, st, ok, rs, h⟩ => ⟨ρ, δ, st, ok, rs, Post.bind h fun k st1 k' H1 ρ1 g1 ok1 e h1 => by
    subst e
    exact h1.ok ok1 rfl⟩⟩
/-- .. as values: all but the last a bool -/
def eAndM (m n : EM) : EM := fun δ st => (m δ st).bind fun x st1 => match x with
  | .bl k => if k = true then n δ st1 else .ok (.bl false) st1
  | _ => .bad
def eOrM (m n : EM) : EM := fun δ st => (m δ st).bind fun x st1 => match x with
  | .bl k => if k = true then .ok (.bl true) st1 else n δ st1
  | _ => .bad
def eNotM (m : EM) : EM := fun δ st => (m δ st).bind fun x st1 => match x with
  | .bl k => .ok (.bl (!k)) st1
  | _ => .bad
theorem de_one {op : BoolOp} (h : DE X T W a ma) : DE X T W (.BoolOp op [a] pos) ma := ⟨pe_one h.pe⟩
theorem de_and (h : DE X T W a ma) (h2 : DE X T W (.BoolOp .And (b :: rest) pos) mb) : DE X T W (.BoolOp .And (a :: b :: rest) pos) (eAndM ma mb) :=
  ⟨PE.imp (pe_and h.pe h2.pe) fun σ H Q ⟨ρ, δ, st, ok, rs, h⟩ => ⟨ρ, δ, st, ok, rs, Post.bind h fun x st1 v H1 ρ1 g1 ok1 rx h1 => by
    cases x with
    | bl k =>
      cases rx
      cases k with
      | true => exact ⟨true, rfl, by rw [if_pos rfl]; exact ⟨ρ1, δ, st1, ok1, rs.go g1, h1⟩⟩
      | false => exact ⟨false, rfl, by rw [if_neg Bool.false_ne_true]; exact h1.ok ok1 rfl⟩
    | _ => exact h1.elim⟩⟩
theorem de_or (h : DE X T W a ma) (h2 : DE X T W (.BoolOp .Or (b :: rest) pos) mb) : DE X T W (.BoolOp .Or (a :: b :: rest) pos) (eOrM ma mb) :=
  ⟨PE.imp (pe_or h.pe h2.pe) fun σ H Q ⟨ρ, δ, st, ok, rs, h⟩ => ⟨ρ, δ, st, ok, rs, Post.bind h fun x st1 v H1 ρ1 g1 ok1 rx h1 => by
    cases x with
    | bl k =>
      cases rx
      cases k with
      | false => exact ⟨false, rfl, by rw [if_neg Bool.false_ne_true]; exact ⟨ρ1, δ, st1, ok1, rs.go g1, h1⟩⟩
      | true => exact ⟨true, rfl, by rw [if_pos rfl]; exact h1.ok ok1 rfl⟩
    | _ => exact h1.elim⟩⟩
theorem de_not (h : DE X T W a ma) : DE X T W (.UnaryOp .Not a pos) (eNotM ma) :=
  ⟨PE.imp (pe_not h.pe) fun σ H Q ⟨ρ, δ, st, ok, rs, h⟩ => ⟨ρ, δ, st, ok, rs, Post.bind h fun x st1 v H1 ρ1 g1 ok1 rx h1 => by
    cases x with
    | bl k => cases rx; exact ⟨k, rfl, h1.ok ok1 rfl⟩
    | _ => exact h1.elim⟩⟩
def eIf (t : TM) (m n : EM) : EM := fun δ st => (t δ st).bind fun k st1 => if k = true then m δ st1 else n δ st1
theorem de_if {cnd : Expr} (h : DT X T W cnd mt) (ha : DE X T W a ma) (hb : DE X T W b mb) : DE X T W (.IfExp cnd a b pos) (eIf mt ma mb) :=
  ⟨PE.imp (pe_ifExp h.pt ha.pe hb.pe) fun σ H Q ⟨ρ, δ, st, ok, rs, h⟩ => ⟨ρ, δ, st, ok, rs, Post.bind h fun k st1 k' H1 ρ1 g1 ok1 e h1 => by
    subst e
    cases k with
    | true => rw [if_pos rfl]; exact ⟨ρ1, δ, st1, ok1, rs.go g1, h1⟩
    | false => rw [if_neg Bool.false_ne_true]; exact ⟨ρ1, δ, st1, ok1, rs.go g1, h1⟩⟩⟩

/-! ### arguments, displays -/
def aNil : AM := fun _ st => .ok [] st
def aCons (m : EM) (n : AM) : AM := fun δ st => (m δ st).bind fun x st1 => (n δ st1).bind fun xs st2 => .ok (x :: xs) st2
def aStar (m : EM) (n : AM) : AM := fun δ st => (m δ st).bind fun x st1 => match sqOf x st1 with
  | some xs => (n δ st1).bind fun ys st2 => .ok (xs ++ ys) st2
  | _ => .bad
theorem da_nil : DA X T W [] aNil := ⟨PA.imp pa_nil fun σ H Q ⟨ρ, δ, st, ok, rs, h⟩ => h.ok ok rfl⟩
theorem da_cons (h : DE X T W e me) (h2 : DA X T W es mas) (hs : starEach (e :: es) X.env = (false, eval e X.env) :: starEach es X.env := by rfl) : DA X T W (e :: es) (aCons me mas) :=
  ⟨PA.imp (pa_cons h.pe h2.pa hs) fun σ H Q ⟨ρ, δ, st, ok, rs, h⟩ => ⟨ρ, δ, st, ok, rs, Post.bind h fun x st1 v H1 ρ1 g1 ok1 rx h1 =>
    ⟨ρ1, δ, st1, ok1, rs.go g1, Post.bind h1 fun xs st2 vs H2 ρ2 g2 ok2 rxs h2 => h2.ok ok2 ⟨v, vs, rfl, R.go g2 x v rx, rxs⟩⟩⟩⟩
theorem da_star (h : DE X T W e me) (h2 : DA X T W es mas) (hs : starEach (.Starred e p1 :: es) X.env = (true, eval e X.env) :: starEach es X.env := by rfl) : DA X T W (.Starred e p1 :: es) (aStar me mas) :=
  ⟨PA.imp (StX.pa_star h.pe h2.pa hs) fun σ H Q ⟨ρ, δ, st, ok, rs, h⟩ => ⟨ρ, δ, st, ok, rs, Post.bind h fun x st1 v H1 ρ1 g1 ok1 rx h1 => by
    split at h1
    · rename_i xs e1
      obtain ⟨p, vs, rfl, s, r⟩ := sqAt ok1 rx e1
      exact ⟨p, vs, rfl, s.symm, ⟨ρ1, δ, st1, ok1, rs.go g1, Post.bind h1 fun ys st2 us H2 ρ2 g2 ok2 rys h2 => h2.ok ok2 ((RL.go g2 _ _ r).append rys)⟩⟩
    · exact h1.elim⟩⟩
def eTup (m : AM) : EM := fun δ st => (m δ st).bind fun xs st1 => if xs.length ≤ 1000000 then .ok (.tup xs) st1 else .bad
/-- a list that nobody changes, a list that may change -/
def eLst (m : AM) : EM := fun δ st => (m δ st).bind fun xs st1 => if xs.length ≤ 1000000 then .ok (.fl xs) st1 else .bad
theorem de_tup {x1 : Nat} (h : DA X T W es mas) : DE X T W (.Tuple es x1 pos) (eTup mas) :=
  ⟨PE.imp (pe_tup h.pa) fun σ H Q ⟨ρ, δ, st, ok, rs, h⟩ => ⟨ρ, δ, st, ok, rs, Post.bind h fun xs st1 vs H1 ρ1 g1 ok1 rx h1 => by
    split at h1
    · rename_i hz
      exact ⟨line1 (by rw [rx.len]; exact hz), Post.newT ok1 rx h1⟩
    · exact h1.elim⟩⟩
theorem de_lst (h : DA X T W es mas) : DE X T W (.List es pos) (eLst mas) :=
  ⟨PE.imp (pe_lst h.pa) fun σ H Q ⟨ρ, δ, st, ok, rs, h⟩ => ⟨ρ, δ, st, ok, rs, Post.bind h fun xs st1 vs H1 ρ1 g1 ok1 rx h1 => by
    split at h1
    · rename_i hz
      exact ⟨line1 (by rw [rx.len]; exact hz), Post.newL ok1 rx h1⟩
    · exact h1.elim⟩⟩

/-! ### subscripts, slices -/
def dIx (x y : D) (st : Store) : Res D := match y with
  | .int i => match x with
    | .str z => if z.length ≤ 1000000 then (match atI z.cps.toList i with
      | some c => .ok (.str ⟨#[c]⟩) st
      | _ => .bad) else .bad
    | x => match sqOf x st with
      | some xs => match atI xs i with
        | some d => .ok d st
        | _ => .bad
      | _ => .bad
  | _ => .bad
theorem atI_RL {K : PySem.W.Frag} {H : Hp} {ρ : Wo} {ds : List D} {vs : List V} {i : Int} {d : D} (r : RL K H ρ ds vs) (e : atI ds i = some d) : ∃ v, atI vs i = some v ∧ R K H ρ d v := by
  unfold atI at e ⊢
  rw [r.len]
  cases q : ixN ds.length i with
  | none => rw [q] at e; cases e
  | some j =>
    rw [q] at e
    exact r.get e
theorem tell_ix : Tell2 X T (rIx X.K) dIx := by
  intro W σ H ρ st x y v u Q ok rx ry h
  unfold dIx at h
  split at h
  · rename_i i
    cases ry
    split at h
    · rename_i z
      cases rx
      split at h
      · rename_i hz
        split at h
        · rename_i c e1
          exact .inr (.inr ⟨z, i, c, rfl, rfl, line1 hz, e1, h.ok ok rfl⟩)
        · exact h.elim
      · exact h.elim
    · split at h
      · rename_i xs e1
        split at h
        · rename_i d e2
          obtain ⟨p, vs, rfl, s, r⟩ := sqAt ok rx e1
          obtain ⟨w, e3, rw'⟩ := atI_RL r e2
          rcases s with s | s
          · exact .inl ⟨p, vs, i, w, rfl, rfl, s, e3, h.ok ok rw'⟩
          · exact .inr (.inl ⟨p, vs, i, w, rfl, rfl, s, e3, h.ok ok rw'⟩)
        · exact h.elim
      · exact h.elim
  · exact h.elim
theorem de_ix (ha : DE X T W a ma) (hb : DE X T W b mb) (hs : PlainIx b := by exact fun _ _ => rfl) : DE X T W (.Subscript a b pos) (e2 dIx ma mb) :=
  ⟨PE.imp (pe_ix ix_seq ha.pe hb.pe hs) fun _ _ _ h => two tell_ix h⟩
/-- an end of a slice -/
structure DO (X : Cx) (T : Tb) (W : WX) (e : Option Expr) (m : Sl → Store → Res (Option Int)) : Prop where
  po : PO X e fun σ H Q => ∃ ρ δ st, Ok X.K T H ρ st ∧ RS X.K H ρ δ σ ∧ Post X.K T W (fun _ _ a b => a = b) σ H ρ (m δ st) Q
theorem PO.imp {X : Cx} {e : Option Expr} {t t' : TO} (h : PO X e t) (k : ∀ σ H Q, t' σ H Q → t σ H Q) : PO X e t' := ⟨fun pins s σ H Q I q => h.run pins s σ H Q I (k _ _ _ q)⟩
def oNone : Sl → Store → Res (Option Int) := fun _ st => .ok none st
def oSome (m : EM) : Sl → Store → Res (Option Int) := fun δ st => (m δ st).bind fun x st1 => match x with
  | .int i => .ok (some i) st1
  | _ => .bad
theorem do_none : DO X T W none oNone := ⟨PO.imp po_none fun σ H Q ⟨ρ, δ, st, ok, rs, h⟩ => h.ok ok rfl⟩
theorem do_some (h : DE X T W a ma) : DO X T W (some a) (oSome ma) := ⟨PO.imp (po_some h.pe) fun σ H Q ⟨ρ, δ, st, ok, rs, h⟩ => ⟨ρ, δ, st, ok, rs, Post.bind h fun x st1 v H1 ρ1 g1 ok1 rx h1 => by
  cases x with
  | int i => cases rx; exact ⟨i, rfl, h1.ok ok1 rfl⟩
  | _ => exact h1.elim⟩⟩
def cutD {α : Type} (xs : List α) (lo hi : Option Int) : List α := (xs.drop (HT.sIx xs.length 0 lo)).take (HT.sIx xs.length xs.length hi - HT.sIx xs.length 0 lo)
theorem cut_RL {K : PySem.W.Frag} {H : Hp} {ρ : Wo} {ds : List D} {vs : List V} (r : RL K H ρ ds vs) (lo hi : Option Int) : RL K H ρ (cutD ds lo hi) (cutV vs lo hi) := by
  unfold cutD cutV
  rw [r.len]
  exact (r.drop _).take _
def dCut (x : D) (lo hi : Option Int) (st : Store) : Res D := match x with
  | .str z => if z.length ≤ 1000000 then .ok (.str (cutS z lo hi)) st else .bad
  | .tup xs => .ok (.tup (cutD xs lo hi)) st
  | x => match lsOf x st with
    | some xs => .ok (.fl (cutD xs lo hi)) st
    | _ => .bad
def eCut (m : EM) (l h : Sl → Store → Res (Option Int)) : EM := fun δ st => (m δ st).bind fun x st1 => (l δ st1).bind fun lo st2 => (h δ st2).bind fun hi st3 => dCut x lo hi st3
theorem de_cut {lo hi : Option Expr} {ml mh : Sl → Store → Res (Option Int)} (ha : DE X T W a ma) (hl : DO X T W lo ml) (hh : DO X T W hi mh) : DE X T W (.Subscript a (.Slice lo hi none p2) pos) (eCut ma ml mh) := by
  refine ⟨PE.imp (pe_slice (sl_str.or (sl_tupA.or sl_list)) ha.pe hl.po hh.po) fun σ H Q ⟨ρ, δ, st, ok, rs, h⟩ => ⟨ρ, δ, st, ok, rs, Post.bind h fun x st1 v H1 ρ1 g1 ok1 rx h1 =>
    ⟨ρ1, δ, st1, ok1, rs.go g1, Post.bind h1 fun l st2 l' H2 ρ2 g2 ok2 e2 h2 => ⟨ρ2, δ, st2, ok2, (rs.go g1).go g2, Post.bind h2 fun u st3 u' H3 ρ3 g3 ok3 e3 h3 => ?_⟩⟩⟩⟩
  subst e2 e3
  replace rx := R.go g3 x v (R.go g2 x v rx)
  unfold dCut at h3
  split at h3
  · rename_i z
    cases rx
    split at h3
    · rename_i hz
      exact .inl ⟨z, rfl, line1 hz, h3.ok ok3 rfl⟩
    · exact h3.elim
  · rename_i xs
    obtain ⟨p, vs, rfl, s, r⟩ := tupAt rx
    refine .inr (.inl ⟨p, vs, rfl, s, fun e => ?_, fun _ => Post.newT ok3 (cut_RL r l u) h3⟩)
    have : cutD xs l u = xs := by
      rw [r.len] at e
      unfold cutD
      rw [e.1, e.2, List.drop_zero, Nat.sub_zero, List.take_length]
    rw [this] at h3
    exact h3.ok ok3 rx
  · split at h3
    · rename_i xs e1
      obtain ⟨p, vs, rfl, s, r⟩ := lsAt ok3 rx e1
      exact .inr (.inr ⟨p, vs, rfl, s, Post.newL ok3 (cut_RL r l u) h3⟩)
    · exact h3.elim

/-! ### built-ins -/
def TellN (X : Cx) (T : Tb) (r : List V → Hp → VK → Prop) (f : List D → Store → Res D) : Prop :=
  ∀ (W : WX) (σ : L2.St) (H : Hp) (ρ : Wo) (st : Store) (xs : List D) (vs : List V) (Q : VK), Ok X.K T H ρ st → RL X.K H ρ xs vs → Post X.K T W (R X.K) σ H ρ (f xs st) Q → r vs H Q
def eN (f : List D → Store → Res D) (m : AM) : EM := fun δ st => (m δ st).bind fun xs st1 => f xs st1
theorem de_bi {x : Str} {id : String} {r : List V → Hp → VK → Prop} {f : List D → Store → Res D} (hc : CallR X (.builtin id) r) (hf : TellN X T r f) (hg : Gl X x) (hm : X.mg x = none) (hv : bootBuiltins x = some (.builtin id)) (ha : DA X T W (e :: es) mas)
    (hn : x ≠ "__name__" := by decide) (hdb : (x == ("__debug__" : Str)) = false := by decide) (he : starEach (e :: es) X.env = (false, eval e X.env) :: starEach es X.env := by rfl) (hpl : (backTo pos (starEach es X.env)).any (·.1) = false := by rfl) :
    DE X T W (.Call (.Name x p1) (e :: es) [] pos) (eN f mas) :=
  ⟨PE.imp (pe_callB hc hg hm hv ha.pa hn hdb he hpl) fun σ H Q ⟨ρ, δ, st, ok, rs, h⟩ => ⟨ρ, δ, st, ok, rs, Post.bind h fun xs st1 vs H1 ρ1 g1 ok1 rx h1 => hf W σ H1 ρ1 st1 xs vs Q ok1 rx h1⟩⟩
theorem de_bt {x : Str} {id : String} {r : List V → Hp → VK → Prop} {f : List D → Store → Res D} (hc : CallR X (.type id) r) (hf : TellN X T r f) (hg : Gl X x) (hm : X.mg x = none) (hv : bootBuiltins x = some (.type id)) (ha : DA X T W (e :: es) mas)
    (hn : x ≠ "__name__" := by decide) (hdb : (x == ("__debug__" : Str)) = false := by decide) (he : starEach (e :: es) X.env = (false, eval e X.env) :: starEach es X.env := by rfl) (hpl : (backTo pos (starEach es X.env)).any (·.1) = false := by rfl) :
    DE X T W (.Call (.Name x p1) (e :: es) [] pos) (eN f mas) :=
  ⟨PE.imp (pe_callTy hc hg hm hv ha.pa hn hdb he hpl) fun σ H Q ⟨ρ, δ, st, ok, rs, h⟩ => ⟨ρ, δ, st, ok, rs, Post.bind h fun xs st1 vs H1 ρ1 g1 ok1 rx h1 => hf W σ H1 ρ1 st1 xs vs Q ok1 rx h1⟩⟩
end
end L3

/-! ### text Le -/
namespace L3
open PySem PySem.Spec PyProof.Rows L2

/-! ### statements -/
inductive SRes where
  | nx (δ : Sl) (st : Store)
  | rt (d : D) (st : Store)
  | bk (δ : Sl) (st : Store)
  | ct (δ : Sl) (st : Store)
  | err (C : Addr) (p : Option (Str × D)) (δ : Sl) (st : Store)
  | bad
abbrev SM := Sl → Store → SRes
section
variable (K : PySem.W.Frag) (T : Tb) (W : WX)
def PostS (H : Hp) (ρ : Wo) (r : SRes) (Dn : Ends) : Prop := match r with
  | .nx δ st => ∀ σ' H' ρ', Go H ρ H' ρ' → Ok K T H' ρ' st → RS K H' ρ' δ σ' → Dn.nx σ' H'
  | .rt d st => ∀ v H' ρ', Go H ρ H' ρ' → Ok K T H' ρ' st → R K H' ρ' d v → Dn.rt v H'
  | .bk δ st => ∀ σ' H' ρ', Go H ρ H' ρ' → Ok K T H' ρ' st → RS K H' ρ' δ σ' → Dn.bk σ' H'
  | .ct δ st => ∀ σ' H' ρ', Go H ρ H' ρ' → Ok K T H' ρ' st → RS K H' ρ' δ σ' → Dn.ct σ' H'
  | .err C p δ st => ∀ σ' d H' ρ', Go H ρ H' ρ' → Ok K T H' ρ' st → RS K H' ρ' δ σ' → PayR K H' ρ' p d → W (.ref C) d σ' H'
  | .bad => False
def rS (m : SM) : TS := fun Dn σ H => ∃ ρ δ st, Ok K T H ρ st ∧ RS K H ρ δ σ ∧ PostS K T W H ρ (m δ st) Dn
end
structure DS (X : Cx) (T : Tb) (W : WX) (s : Stmt) (m : SM) : Prop where
  ps : PS X s (rS X.K T W m)
structure DB (X : Cx) (T : Tb) (W : WX) (s : List Stmt) (m : SM) : Prop where
  ps : PSs X s (rS X.K T W m)
theorem PS.imp {X : Cx} {e : Stmt} {t t' : TS} (h : PS X e t) (k : ∀ D σ H, t' D σ H → t D σ H) : PS X e t' := ⟨fun pins s σ H D I q => h.run pins s σ H D I (k _ _ _ q)⟩
theorem PSs.imp {X : Cx} {e : List Stmt} {t t' : TS} (h : PSs X e t) (k : ∀ D σ H, t' D σ H → t D σ H) : PSs X e t' := ⟨fun pins s σ H D I q => h.run pins s σ H D I (k _ _ _ q)⟩
section
variable {K : PySem.W.Frag} {T : Tb} {W : WX} {H H1 : Hp} {ρ ρ1 : Wo} {Dn D2 : Ends}
theorem PostS.go {r : SRes} (h : PostS K T W H ρ r Dn) (g : Go H ρ H1 ρ1) : PostS K T W H1 ρ1 r Dn := by
  cases r with
  | nx δ st => exact fun a b c g' => h a b c (g.trans g')
  | rt δ st => exact fun a b c g' => h a b c (g.trans g')
  | bk δ st => exact fun a b c g' => h a b c (g.trans g')
  | ct δ st => exact fun a b c g' => h a b c (g.trans g')
  | err C p δ st => exact fun a b c e g' => h a b c e (g.trans g')
  | bad => exact h
end
/-- an expression, then a statement's end -/
def sBind {α : Type} (r : Res α) (δ : Sl) (f : α → Store → SRes) : SRes := match r with
  | .ok a st => f a st
  | .err C p st => .err C p δ st
  | .bad => .bad
@[simp] theorem sBind_ok {α : Type} (a : α) (st : Store) (δ : Sl) (f : α → Store → SRes) : sBind (.ok a st) δ f = f a st := rfl
@[simp] theorem sBind_err {α : Type} (C : Addr) (p : Option (Str × D)) (st : Store) (δ : Sl) (f : α → Store → SRes) : sBind (.err C p st) δ f = .err C p δ st := rfl
@[simp] theorem sBind_bad {α : Type} (δ : Sl) (f : α → Store → SRes) : sBind (.bad) δ f = .bad := rfl
theorem PostS.bind {K : PySem.W.Frag} {T : Tb} {W : WX} {α β : Type} {Rel : Hp → Wo → α → β → Prop} {σ : L2.St} {δ : Sl} {H : Hp} {ρ : Wo} {r : Res α} {f : α → Store → SRes} {Dn : Ends} {Q1 : β → Hp → Prop}
    (h : PostS K T W H ρ (sBind r δ f) Dn) (rs : RS K H ρ δ σ) (k : ∀ a st b H' ρ', Go H ρ H' ρ' → Ok K T H' ρ' st → Rel H' ρ' a b → PostS K T W H' ρ' (f a st) Dn → Q1 b H') : Post K T W Rel σ H ρ r Q1 := by
  cases r with
  | ok a st => exact fun b H' ρ' g o rel => k a st b H' ρ' g o rel (PostS.go h g)
  | err C p st => exact fun d H' ρ' g o pr => h σ d H' ρ' g o (rs.go g) pr
  | bad => exact h
/-- one statement, then the others -/
def sSeq (m n : SM) : SM := fun δ st => match m δ st with
  | .nx δ' st' => n δ' st'
  | r => r
theorem PostS.seq {K : PySem.W.Frag} {T : Tb} {W : WX} {H : Hp} {ρ : Wo} {m n : SM} {δ : Sl} {st : Store} {Dn : Ends} (h : PostS K T W H ρ (sSeq m n δ st) Dn) :
    PostS K T W H ρ (m δ st) { Dn with nx := rS K T W n Dn } := by
  unfold sSeq at h
  cases q : m δ st with
  | nx δ' st' => rw [q] at h; exact fun σ' H' ρ' g o rs => ⟨ρ', δ', st', o, rs, PostS.go h g⟩
  | rt d st' => rw [q] at h; exact h
  | bk d st' => rw [q] at h; exact h
  | ct d st' => rw [q] at h; exact h
  | err C p d st' => rw [q] at h; exact h
  | bad => rw [q] at h; exact h
section
variable {X : Cx} {T : Tb} {W : WX} {a b c e : Expr} {es : List Expr} {s : Stmt} {ss s1 s2 : List Stmt} {ma mb mc me : EM} {mas : AM} {mt mu : TM} {m n : SM} {pos p1 p2 : Pos}
def sNil : SM := fun δ st => .nx δ st
theorem db_nil : DB X T W [] sNil := ⟨PSs.imp pss_nil fun D σ H ⟨ρ, δ, st, ok, rs, h⟩ => h σ H ρ (Go.refl _ _) ok rs⟩
theorem db_cons (h1 : DS X T W s m) (h2 : DB X T W ss n) : DB X T W (s :: ss) (sSeq m n) :=
  ⟨PSs.imp (pss_cons h1.ps h2.ps) fun D σ H ⟨ρ, δ, st, ok, rs, h⟩ => ⟨ρ, δ, st, ok, rs, PostS.seq h⟩⟩
theorem db_one (h1 : DS X T W s m) : DB X T W [s] m := ⟨pss_one h1.ps⟩
theorem ds_pass : DS X T W (.Pass pos) sNil := ⟨PS.imp ps_pass fun D σ H ⟨ρ, δ, st, ok, rs, h⟩ => h σ H ρ (Go.refl _ _) ok rs⟩
def sBrk : SM := fun δ st => .bk δ st
def sCnt : SM := fun δ st => .ct δ st
theorem ds_break : DS X T W (.Break pos) sBrk := ⟨PS.imp ps_break fun D σ H ⟨ρ, δ, st, ok, rs, h⟩ => h σ H ρ (Go.refl _ _) ok rs⟩
theorem ds_continue : DS X T W (.Continue pos) sCnt := ⟨PS.imp ps_continue fun D σ H ⟨ρ, δ, st, ok, rs, h⟩ => h σ H ρ (Go.refl _ _) ok rs⟩
theorem ds_doc {x : Str} {j : Nat} : DS X T W (.Expr (.Constant (.str x) j p1) pos) sNil := ⟨PS.imp ps_doc fun D σ H ⟨ρ, δ, st, ok, rs, h⟩ => h σ H ρ (Go.refl _ _) ok rs⟩
def sDrop (m : EM) : SM := fun δ st => sBind (m δ st) δ fun _ st1 => .nx δ st1
theorem ds_expr (h : DE X T W e me) (hs : swapsWith e none pos.line X.env = pure false := by rfl) : DS X T W (.Expr e pos) (sDrop me) :=
  ⟨PS.imp (ps_expr h.pe hs) fun D σ H ⟨ρ, δ, st, ok, rs, h⟩ => ⟨ρ, δ, st, ok, rs, PostS.bind h rs fun x st1 v H1 ρ1 g1 ok1 rx h1 => h1 σ H1 ρ1 (Go.refl _ _) ok1 (rs.go g1)⟩⟩
def sRet (m : EM) : SM := fun δ st => sBind (m δ st) δ fun d st1 => .rt d st1
theorem ds_ret (h : DE X T W e me) : DS X T W (.Return (some e) pos) (sRet me) :=
  ⟨PS.imp (ps_ret h.pe) fun D σ H ⟨ρ, δ, st, ok, rs, h⟩ => ⟨ρ, δ, st, ok, rs, PostS.bind h rs fun x st1 v H1 ρ1 g1 ok1 rx h1 => h1 v H1 ρ1 (Go.refl _ _) ok1 rx⟩⟩
def sRetN : SM := fun _ st => .rt .non st
theorem ds_retN : DS X T W (.Return none pos) sRetN := ⟨PS.imp ps_retN fun D σ H ⟨ρ, δ, st, ok, rs, h⟩ => h .non H ρ (Go.refl _ _) ok rfl⟩
def sIf (t : TM) (m n : SM) : SM := fun δ st => sBind (t δ st) δ fun k st1 => if k = true then m δ st1 else n δ st1
theorem ds_if (h : DT X T W c mt) (h1 : DB X T W s1 m) (h2 : DB X T W s2 n) : DS X T W (.If c s1 s2 pos) (sIf mt m n) :=
  ⟨PS.imp (ps_if h.pt h1.ps h2.ps) fun D σ H ⟨ρ, δ, st, ok, rs, h⟩ => ⟨ρ, δ, st, ok, rs, PostS.bind h rs fun k st1 k' H1 ρ1 g1 ok1 e h1 => by
    subst e
    cases k with
    | true => exact ⟨ρ1, δ, st1, ok1, rs.go g1, h1⟩
    | false => exact ⟨ρ1, δ, st1, ok1, rs.go g1, h1⟩⟩⟩
/-! ### targets -/
/-- a store to a target: the value, the slots and the store behind it -/
abbrev GM := D → Sl → Store → SRes
def rG (K : PySem.W.Frag) (T : Tb) (W : WX) (g : GM) : TG := fun v σ H Q => ∃ ρ δ st d, Ok K T H ρ st ∧ RS K H ρ δ σ ∧ R K H ρ d v ∧ PostS K T W H ρ (g d δ st) { nx := Q, rt := fun _ _ => False }
structure DG (X : Cx) (T : Tb) (W : WX) (tg : Expr) (g : GM) : Prop where
  pg : PG X tg (rG X.K T W g)
theorem PG.imp {X : Cx} {e : Expr} {t t' : TG} (h : PG X e t) (k : ∀ v σ H Q, t' v σ H Q → t v σ H Q) : PG X e t' := ⟨fun pins s σ H v u Q I r q => h.run pins s σ H v u Q I r (k _ _ _ _ q)⟩
def gNm (i : Nat) : GM := fun d δ st => .nx (δ.set i (some d)) st
theorem dg_name (i : Nat) {x : Str} (hN : X.N.Nodup) (hi : X.N[i]? = some x := by rfl) (hx : Loc X.env.scope x := by first | exact Or.inl rfl | exact Or.inr rfl) (hf : X.fn x = true ∨ X.env.scope.names.lookup x = some .local := by first | exact .inl rfl | exact .inr rfl) :
    DG X T W (.Name x pos) (gNm i) :=
  ⟨PG.imp (pg_name hN hi hx hf) fun v σ H Q ⟨ρ, δ, st, d, ok, rs, rd, h⟩ => h _ H ρ (Go.refl _ _) ok (rs.set rd)⟩
/-- e to a target -/
def sAsg (m : EM) (g : GM) : SM := fun δ st => sBind (m δ st) δ fun d st1 => match g d δ st1 with
  | .nx δ' st' => .nx δ' st'
  | _ => .bad
theorem ds_asg {g : GM} {tg : Expr} (h : DE X T W e me) (hg : DG X T W tg g) (hs : swapsWithSole [tg] e pos.line X.env = pure false := by rfl) (hw : swappedStores [tg] e X.env = pure none := by rfl) (h1 : (assignEach [tg] X.env).map (·.2) = [assign tg X.env] := by rfl) : DS X T W (.Assign [tg] e pos) (sAsg me g) :=
  ⟨PS.imp (ps_asg h.pe hg.pg hs hw h1) fun D σ H ⟨ρ, δ, st, ok, rs, h⟩ => ⟨ρ, δ, st, ok, rs, PostS.bind h rs fun x st1 v H1 ρ1 g1 ok1 rx h1 => by
    refine ⟨ρ1, δ, st1, x, ok1, rs.go g1, rx, ?_⟩
    cases q : g x δ st1 with
    | nx δ' st' => rw [q] at h1; exact h1
    | _ => rw [q] at h1; exact h1.elim⟩⟩
def sSet (i : Nat) (m : EM) : SM := fun δ st => sBind (m δ st) δ fun d st1 => .nx (δ.set i (some d)) st1
theorem ds_set (i : Nat) {x : Str} (hN : X.N.Nodup) (h : DE X T W e me) (hi : X.N[i]? = some x := by rfl) (hx : Loc X.env.scope x := by first | exact Or.inl rfl | exact Or.inr rfl) (hs : swapsWith e (some (.Name x p1)) pos.line X.env = pure false := by rfl)
    (hf : X.fn x = true ∨ X.env.scope.names.lookup x = some .local := by first | exact .inl rfl | exact .inr rfl) : DS X T W (.Assign [.Name x p1] e pos) (sSet i me) :=
  ⟨PS.imp (ps_set hN hi hx h.pe hs hf) fun D σ H ⟨ρ, δ, st, ok, rs, h⟩ => ⟨ρ, δ, st, ok, rs, PostS.bind h rs fun x st1 v H1 ρ1 g1 ok1 rx h1 => h1 _ H1 ρ1 (Go.refl _ _) ok1 ((rs.go g1).set rx)⟩⟩
end

/-! ### a def -/
mutual
/-- no thing of the store from n0 on is in it -/
def shut (n0 : Nat) : D → Bool
  | .loc n => decide (n < n0)
  | .tup ds => shutL n0 ds
  | .fl ds => shutL n0 ds
  | .rl ds => shutL n0 ds
  | .obj _ _ ds => shutL n0 ds
  | _ => true
def shutL (n0 : Nat) : List D → Bool
  | [] => true
  | d :: ds => shut n0 d && shutL n0 ds
end
def shutC (n0 : Nat) : Cell → Bool
  | .lst ds => shutL n0 ds
  | .dk kds => shutL n0 (kds.map (·.2))
  | .obj _ _ ds => shutL n0 ds
mutual
theorem R.shut {K : PySem.W.Frag} {H : Hp} {ρ : Wo} {n0 : Nat} : ∀ (d : D) (v : V), L3.shut n0 d = true → R K H ρ d v → R K H (ρ.cut n0) d v
  | .non, _, _, h => h
  | .bl _, _, _, h => h
  | .int _, _, _, h => h
  | .str _, _, _, h => h
  | .ref _, _, _, h => h
  | .ty _, _, _, h => h
  | .tup ds, _, c, ⟨a, xs, e, s, r⟩ => ⟨a, xs, e, s.elim (fun z => .inl ⟨z.1, Wo.cut_has z.2⟩) .inr, RL.shut ds xs c r⟩
  | .fl ds, _, c, ⟨a, xs, e, h, n, r⟩ => ⟨a, xs, e, h, Wo.cut_has n, RL.shut ds xs c r⟩
  | .rl ds, _, c, ⟨a, o, xs, e, h, n, r⟩ => ⟨a, o, xs, e, h, Wo.cut_has n, RL.shut ds xs c r⟩
  | .loc n, _, c, ⟨a, e, h⟩ => ⟨a, e, by show (ρ.m.take n0)[n]? = some a; rw [List.getElem?_take_of_lt (of_decide_eq_true c)]; exact h⟩
  | .obj C ns ds, _, c, ⟨a, dx, xs, e, h, n, l, r⟩ => ⟨a, dx, xs, e, h, Wo.cut_has n, l, RL.shut ds xs c r⟩
theorem RL.shut {K : PySem.W.Frag} {H : Hp} {ρ : Wo} {n0 : Nat} : ∀ (ds : List D) (vs : List V), shutL n0 ds = true → RL K H ρ ds vs → RL K H (ρ.cut n0) ds vs
  | [], _, _, h => h
  | d :: ds, _, c, ⟨v, r, e, h1, h2⟩ => by
    rw [shutL, Bool.and_eq_true] at c
    exact ⟨v, r, e, R.shut d v c.1 h1, RL.shut ds r c.2 h2⟩
end
theorem CellR.shut {K : PySem.W.Frag} {H : Hp} {ρ : Wo} {n0 : Nat} {a : Addr} : ∀ (c : Cell), shutC n0 c = true → CellR K H ρ a c → CellR K H (ρ.cut n0) a c
  | .lst ds, c, ⟨xs, h, r⟩ => ⟨xs, h, RL.shut _ _ c r⟩
  | .dk kds, c, ⟨kxs, h, e, r⟩ => ⟨kxs, h, e, RL.shut _ _ c r⟩
  | .obj C ns ds, c, ⟨dx, xs, h, l, r⟩ => ⟨dx, xs, h, l, RL.shut _ _ c r⟩
theorem Ok.shut {K : PySem.W.Frag} {T : Tb} {H : Hp} {ρ : Wo} {st : Store} {n0 : Nat} (ok : Ok K T H ρ st) (c : (st.take n0).all (shutC n0) = true) (al : T.Al K H (ρ.cut n0)) : Ok K T H (ρ.cut n0) (st.take n0) := by
  refine ⟨by show (ρ.m.take n0).length = _; rw [List.length_take, List.length_take, ok.len], ok.nd.sublist (List.take_sublist _ _), fun n a x h1 h2 => ?_, ok.tab, fun a ha => ⟨(ok.ext a ha).1, fun z => (ok.ext a ha).2 (List.mem_of_mem_take z)⟩, al⟩
  replace h1 : (ρ.m.take n0)[n]? = some a := h1
  have hn : n < n0 := by
    have := (List.getElem?_eq_some_iff.mp h1).1
    rw [List.length_take] at this
    omega
  have hm := List.mem_of_getElem? h2
  rw [List.getElem?_take_of_lt hn] at h1 h2
  exact (ok.cell n a x h1 h2).shut x (List.all_eq_true.mp c x hm)
/-- what leaves a def that began with n0 things: what it made itself and nobody holds goes, a list that it gives back is one that nobody changes -/
def leave (n0 : Nat) (d : D) (st : Store) : Res D :=
  if st.length = n0 then .ok d st
  else if (st.take n0).all (shutC n0) = true then
    match d with
    | .loc n => if n < n0 then .ok d (st.take n0) else match st[n]? with
      | some (.lst xs) => if shutL n0 xs = true then .ok (.fl xs) (st.take n0) else .bad
      | some (.obj C ns xs) => if shutL n0 xs = true then .ok (.obj C ns xs) (st.take n0) else .bad
      | _ => .bad
    | d => if shut n0 d = true then .ok d (st.take n0) else .bad
  else .bad
/-- .. and keeps a list, an instance that it gives back as one that may change: it is the n0-th then -/
def leaveN (n0 : Nat) (d : D) (st : Store) : Res D := match d with
  | .loc n => if n = n0 ∧ st.length = n0 + 1 then .ok d st else .bad
  | _ => .bad
def payShut (n0 : Nat) : Option (Str × D) → Bool
  | none => true
  | some (_, d) => shut n0 d
def leaveE (n0 : Nat) (C : Addr) (p : Option (Str × D)) (st : Store) : Res D :=
  if st.length = n0 then .err C p st
  else if (st.take n0).all (shutC n0) = true ∧ payShut n0 p = true then .err C p (st.take n0) else .bad
def endF (lv : Nat → D → Store → Res D) (n0 : Nat) (r : SRes) : Res D := match r with
  | .nx _ st => lv n0 .non st
  | .rt d st => lv n0 d st
  | .err C p _ st => leaveE n0 C p st
  | _ => .bad
/-- a way to leave is sound -/
def Leaves (lv : Nat → D → Store → Res D) : Prop := ∀ (K : PySem.W.Frag) (T : Tb) (W : WX) (σ : L2.St) (H0 H : Hp) (ρ0 ρ : Wo) (d : D) (v : V) (st : Store) (Q : VK),
  T.Al K H0 ρ0 → Go H0 ρ0 H ρ → Ok K T H ρ st → R K H ρ d v → Post K T W (R K) σ H0 ρ0 (lv ρ0.m.length d st) Q → Q v H
theorem Go.cut {H H1 : Hp} {ρ ρ1 : Wo} (g : Go H ρ H1 ρ1) : Go H ρ H1 (ρ1.cut ρ.m.length) := by
  obtain ⟨new, e, f⟩ := id g.pre
  exact ⟨⟨[], by show ρ1.m.take _ = _; rw [e]; simp, by simp⟩, g.ex, g.keep, g.there⟩
theorem leaves_leave : Leaves leave := by
  intro K T W σ H0 H ρ0 ρ d v st Q al0 g ok r h
  unfold leave at h
  split at h
  · exact h v H ρ g ok r
  · split at h
    · rename_i hc
      have ok2 := ok.shut hc (al0.go g.cut)
      split at h
      · rename_i n
        split at h
        · rename_i hn
          exact h v H _ g.cut ok2 (R.shut (.loc n) v (decide_eq_true hn) r)
        · rename_i hn
          have notin : ∀ a, ρ.m[n]? = some a → ¬ (ρ.cut ρ0.m.length).has a := fun a ha m => by
            rcases m with m | m
            rotate_left
            · exact (ok.ext a m).2 (List.mem_of_getElem? ha)
            replace m : a ∈ ρ.m.take ρ0.m.length := m
            obtain ⟨j, hj, e⟩ := List.getElem_of_mem m
            rw [List.length_take] at hj
            rw [List.getElem_take] at e
            have h1 : ρ.m[j]? = some a := by rw [← e]; exact List.getElem?_eq_getElem (by omega)
            obtain ⟨l1, e1⟩ := List.getElem?_eq_some_iff.mp h1
            obtain ⟨l2, e2⟩ := List.getElem?_eq_some_iff.mp ha
            have := (List.getElem_inj ok.nd).mp (e1.trans e2.symm)
            omega
          split at h
          · rename_i xs q
            split at h
            · rename_i hs
              obtain ⟨a, rfl, ha, ys, h1, r1⟩ := locAt ok r q
              exact h _ H _ g.cut ok2 ⟨a, ys, rfl, h1, notin a ha, RL.shut _ _ hs r1⟩
            · exact h.elim
          · rename_i C ns xs q
            split at h
            · rename_i hs
              obtain ⟨a, rfl, ha, dx, ys, h1, l1, r1⟩ := locAt ok r q
              exact h _ H _ g.cut ok2 ⟨a, dx, ys, rfl, h1, notin a ha, l1, RL.shut _ _ hs r1⟩
            · exact h.elim
          · exact h.elim
      · split at h
        · rename_i hs
          exact h v H _ g.cut ok2 (R.shut _ v hs r)
        · exact h.elim
    · exact h.elim
theorem leaves_leaveN : Leaves leaveN := by
  intro K T W σ H0 H ρ0 ρ d v st Q al0 g ok r h
  unfold leaveN at h
  split at h
  · split at h
    · exact h v H ρ g ok r
    · exact h.elim
  · exact h.elim
theorem leaveE_ok {K : PySem.W.Frag} {T : Tb} {W : WX} {σ : L2.St} {H0 H : Hp} {ρ0 ρ : Wo} {C : Addr} {p : Option (Str × D)} {dd : Option Addr} {st : Store} {Q : VK}
    (al0 : T.Al K H0 ρ0) (g : Go H0 ρ0 H ρ) (ok : Ok K T H ρ st) (r : PayR K H ρ p dd) (h : Post K T W (R K) σ H0 ρ0 (leaveE ρ0.m.length C p st) Q) : W (.ref C) dd σ H := by
  unfold leaveE at h
  split at h
  · exact h dd H ρ g ok r
  · split at h
    · rename_i hc
      refine h dd H _ g.cut (ok.shut hc.1 (al0.go g.cut)) ?_
      cases p with
      | none => exact r
      | some fd =>
        obtain ⟨f, d⟩ := fd
        obtain ⟨dx, v, e, h1, n, r1⟩ := r
        exact ⟨dx, v, e, h1, Wo.cut_has n, R.shut d v hc.2 r1⟩
    · exact h.elim

/-- a def's promise by data: it does what mf does -/
structure FnD (P : Program) (w : World) (K : PySem.W.Frag) (mg : Str → Option Value) (base : Heap) (tabs : List NdefX.NTab) (k : Nat) (f : Addr) (fd : FuncData) (ps : List Str) (mf : List D → Store → Res D) : Prop where
  len : ∀ ds st, ds.length ≠ ps.length → mf ds st = .bad
  run : ∀ (T : Tb) (A : Around) (outer : List Env) (s : Shared) (H : Hp) (args : Args) (us : List Value) (vs : List V) (ds : List D) (ρ : Wo) (st : Store) (Q : VK) (E : XK), T.tabs = tabs → Room k A → A.guards = some [] → Env0 P w K mg base A outer s H → BindsTo s fd args (ps.zip us) → Vals vs us →
    Ok K T H ρ st → RL K H ρ ds vs → Post K T (fun c d _ H => E c d H) (R K) [] H ρ (mf ds st) Q → codeAny (model P w) A (.call (.ref f) args) (L2.CR (L2.CX P w) outer P w H s Q E) s
theorem FnD.mono {P : Program} {w : World} {K : PySem.W.Frag} {mg : Str → Option Value} {base : Heap} {tabs : List NdefX.NTab} {j k : Nat} {f : Addr} {fd : FuncData} {ps : List Str} {mf : List D → Store → Res D} (F : FnD P w K mg base tabs j f fd ps mf) (h : j ≤ k) : FnD P w K mg base tabs k f fd ps mf :=
  ⟨F.len, fun T A outer s H args us vs ds ρ st Q E ht hr => F.run T A outer s H args us vs ds ρ st Q E ht (hr.mono h)⟩
/-- the slots at the beginning -/
def beg (n : Nat) (ds : List D) : Sl := ds.map some ++ List.replicate (n - ds.length) none
/-- what a def of n slots and k parameters does, by its body -/
def fnM (lv : Nat → D → Store → Res D) (n k : Nat) (m : SM) (ds : List D) (st : Store) : Res D := if ds.length = k then endF lv st.length (m (beg n ds) st) else .bad
theorem RS.beg {K : PySem.W.Frag} {H : Hp} {ρ : Wo} {ds : List D} {vs : List V} {N : List Str} (r : RL K H ρ ds vs) : RS K H ρ (L3.beg N.length ds) (L2.start N vs) := by
  unfold L3.beg L2.start
  refine ⟨by simp only [List.length_append, List.length_map, List.length_replicate, r.len], fun i d e => ?_⟩
  by_cases hi : i < ds.length
  · rw [List.getElem?_append_left (by rw [List.length_map]; exact hi), List.getElem?_map] at e
    cases q : ds[i]? with
    | none => rw [q] at e; cases e
    | some d' =>
      rw [q] at e
      cases e
      obtain ⟨v, h1, h2⟩ := r.get q
      exact ⟨v, by rw [List.getElem?_append_left (by rw [List.length_map, r.len]; exact hi), List.getElem?_map, h1]; rfl, h2⟩
  · rw [List.getElem?_append_right (by rw [List.length_map]; omega), List.getElem?_replicate] at e
    split at e <;> cases e
/-- the code object of the function at f -/
def codeOf (K : PySem.W.Frag) (f : Addr) : Option Value := match K.lookup f with
  | some ⟨_, _, .func fd, _⟩ => some fd.code
  | _ => none
/-- THE RULE for a def: its body -/
theorem FnD.of {P : Program} {w : World} {K : PySem.W.Frag} {mg : Str → Option Value} {base : Heap} {tabs : List NdefX.NTab} {x qual : Str} {stm : Stmt} {f : Addr} {fd : FuncData} {N ps : List Str} {k n kp : Nat} {m : SM} {lv : Nat → D → Store → Res D}
    (F : Fun K x qual stm f fd) (S : FnScope N ps (defScope stm)) (hn : N.length = n) (hp : ps.length = kp) (hl : Leaves lv)
    (hbody : ∀ (T : Tb) (cdv : Value) (A : Around) (outer : List Env) (s : Shared) (H : Hp) (E : XK) (X : Cx), T.tabs = tabs → codeOf K f = some cdv → X = cxOf (L2.CX P w) P w K mg base N qual (defScope stm) f cdv A outer s H E → Room k X.A → X.A.guards = some [] →
      Takes X (fun c d _ H => E c d H) → PassesOwn (model X.prog X.w) X.A X.env X.xe → DB X T (fun c d _ H => E c d H) (defBody stm) m) : FnD P w K mg base tabs (k + 1) f fd ps (fnM lv n kp m) := by
  subst hn hp
  refine ⟨fun ds st h => if_neg h, fun T A outer s H args us vs ds ρ st Q E hT hr hg e0 hb r ok rd h => ?_⟩
  have hlen : ds.length = ps.length := by
    by_cases q : ds.length = ps.length
    · exact q
    · rw [show fnM lv N.length ps.length m ds st = .bad from if_neg q] at h
      exact h.elim
  rw [show fnM lv N.length ps.length m ds st = endF lv st.length (m (beg N.length ds) st) from if_pos hlen] at h
  obtain ⟨oc, od, kV, doc, pm, an, cdv, ct, osl, rfl, lk, hcd⟩ := F.ex
  refine LamX.run_ofS (N := N) (ps := ps) (vs := vs) lk hcd S hr e0 hb r (by rw [rd.len, hlen]) fun hr' => ?_
  refine ⟨_, (hbody T cdv A outer s H E _ hT (by unfold codeOf; rw [lk]) rfl hr' hg (takes_of rfl rfl rfl rfl) (passes_of rfl)).ps, ρ, beg N.length ds, st, ok, RS.beg rd, ?_⟩
  rw [← ok.len] at h
  cases q : m (beg N.length ds) st with
  | nx δ' st' =>
    rw [q] at h
    exact fun σ' H' ρ' g o rs => hl _ _ _ _ _ _ _ _ .non .non st' Q ok.al g o rfl h
  | rt d st' =>
    rw [q] at h
    exact fun v H' ρ' g o rd => hl _ _ _ _ _ _ _ _ d v st' Q ok.al g o rd h
  | err C p δ' st' =>
    rw [q] at h
    exact fun σ' d H' ρ' g o rs pr => leaveE_ok (σ := []) ok.al g o pr h
  | bk d st' => rw [q] at h; exact h.elim
  | ct d st' => rw [q] at h; exact h.elim
  | bad => rw [q] at h; exact h.elim
/-! ### calls of defs -/
/-- items by their places -/
def perm {α : Type} (is : List Nat) (l : List α) : List α := is.filterMap fun i => l[i]?
theorem perm_vals {vs : List V} {us : List Value} (r : Vals vs us) : ∀ is : List Nat, Vals (perm is vs) (perm is us)
  | [] => .nil
  | i :: is => by
    unfold perm
    rw [List.filterMap_cons, List.filterMap_cons]
    cases q : vs[i]? with
    | none => rw [Vals.none_of r q]; exact perm_vals r is
    | some v =>
      obtain ⟨u, e, h⟩ := r.get q
      rw [e]
      exact .cons h (perm_vals r is)
theorem perm_RL {K : PySem.W.Frag} {H : Hp} {ρ : Wo} {ds : List D} {vs : List V} (r : RL K H ρ ds vs) : ∀ is : List Nat, RL K H ρ (perm is ds) (perm is vs)
  | [] => rfl
  | i :: is => by
    unfold perm
    rw [List.filterMap_cons, List.filterMap_cons]
    cases q : ds[i]? with
    | none =>
      have : vs[i]? = none := by
        rw [List.getElem?_eq_none_iff] at q ⊢
        rw [r.len]; exact q
      rw [this]; exact perm_RL r is
    | some d =>
      obtain ⟨v, e, h⟩ := r.get q
      rw [e]
      exact ⟨v, _, rfl, h, perm_RL r is⟩
/-- how a call binds: nu values, the keywords ks; is: which of all of them goes to which parameter -/
structure BindD (K : PySem.W.Frag) (fd : FuncData) (ps ks : List Str) (nu : Nat) (is : List Nat) : Prop where
  to : ∀ (s : Shared) (us ws : List Value), K.In s.heap → us.length = nu → ws.length = ks.length → BindsTo s fd ⟨us, ks.zip ws⟩ (ps.zip (perm is (us ++ ws)))
section
variable {X : Cx} {T : Tb} {W : WX} {e : Expr} {es : List Expr} {kws : List Keyword} {me : EM} {mas mks : AM} {pos p1 p2 kpos : Pos} {k : Nat} {f : Addr} {fd : FuncData} {ps ks : List Str} {nu : Nat} {is : List Nat} {mf : List D → Store → Res D} {x : Str} {nm : Option Str}
/-- keywords' values -/
structure DK (X : Cx) (T : Tb) (W : WX) (kws : List Keyword) (m : AM) : Prop where
  pk : PK X kws (rA X.K T W m)
theorem PK.imp {X : Cx} {e : List Keyword} {t t' : TA} (h : PK X e t) (k : ∀ σ H Q, t' σ H Q → t σ H Q) : PK X e t' := ⟨fun pos pins s σ H Q I q => h.run pos pins s σ H Q I (k _ _ _ q)⟩
theorem dk_nil : DK X T W [] aNil := ⟨PK.imp pk_nil fun σ H Q ⟨ρ, δ, st, ok, rs, h⟩ => h.ok ok rfl⟩
theorem dk_cons (h : DE X T W e me) (h2 : DK X T W kws mks) : DK X T W (⟨nm, e, kpos⟩ :: kws) (aCons me mks) :=
  ⟨PK.imp (pk_cons h.pe h2.pk) fun σ H Q ⟨ρ, δ, st, ok, rs, h⟩ => ⟨ρ, δ, st, ok, rs, Post.bind h fun x st1 v H1 ρ1 g1 ok1 rx h1 =>
    ⟨ρ1, δ, st1, ok1, rs.go g1, Post.bind h1 fun xs st2 vs H2 ρ2 g2 ok2 rxs h2 => h2.ok ok2 ⟨v, vs, rfl, R.go g2 x v rx, rxs⟩⟩⟩⟩
/-- the callee runs -/
theorem run_fnD {pins : List (Addr × Obj)} {σ : L2.St} {H : Hp} {s : Shared} {Q : VK} {us ws : List Value} {vs zs : List V} {ds es : List D} {ρ : Wo} {st : Store} (F : FnD X.prog X.w X.K X.mg X.base T.tabs k f fd ps mf) (hr : Room k X.A) (hgd : X.A.guards = some []) (tk : Takes X W)
    (hb : BindD X.K fd ps ks nu is) (I : Inv X pins σ H s) (r : Vals vs us) (rz : Vals zs ws) (l1 : vs.length = nu) (l2 : zs.length = ks.length) (ok : Ok X.K T H ρ st) (rd : RL X.K H ρ ds vs) (re : RL X.K H ρ es zs) (h : Post X.K T W (R X.K) σ H ρ (mf (perm is (ds ++ es)) st) Q) :
    wpAny (model X.prog X.w) X.A (call (.ref f) us (ks.zip ws)) (EP X pins σ Q) X.xe s := by
  refine wpAny_call (codeAny_mono (F.run T X.A X.stack s H ⟨us, ks.zip ws⟩ (perm is (us ++ ws)) (perm is (vs ++ zs)) (perm is (ds ++ es)) ρ st Q (WE W σ) rfl hr hgd I.env0 (hb.to s us ws I.kIn (by rw [← r.length]; exact l1) (by rw [← rz.length]; exact l2))
    (perm_vals (r.append rz) is) ok (perm_RL (rd.append re) is) ?_) fun r s' hq => ?_)
  · cases q : mf (perm is (ds ++ es)) st with
    | ok d st' => rw [q] at h; exact h
    | err C p st' => rw [q] at h; exact fun d H' ρ' g o pr => h d H' ρ' g o pr
    | bad => rw [q] at h; exact h
  · cases r with
    | error e => exact passAt tk σ pins H s e s' I hq
    | ok fl =>
      cases fl with
      | ret u => exact I.after hq
      | next => exact False.elim hq
      | brk => exact False.elim hq
      | cont => exact False.elim hq
def eCall (mf : List D → Store → Res D) (nu nk : Nat) (is : List Nat) (m n : AM) : EM := fun δ st => (m δ st).bind fun xs st1 => (n δ st1).bind fun ys st2 => if xs.length = nu ∧ ys.length = nk then mf (perm is (xs ++ ys)) st2 else .bad
/-- f(e, ..) -/
def eCall1 (mf : List D → Store → Res D) (m : AM) : EM := fun δ st => (m δ st).bind fun xs st1 => mf xs st1
theorem de_call (F : FnD X.prog X.w X.K X.mg X.base T.tabs k f fd ps mf) (hr : Room k X.A) (hgd : X.A.guards = some []) (tk : Takes X W) (hg : Gl X x) (hm : X.mg x = some (.ref f)) (hk : PySem.W.keepIn X.K (.ref f) = true) (hb : Binds X.K fd ps [])
    (ha : DA X T W (e :: es) mas) (hdb : (x == ("__debug__" : Str)) = false := by decide) (he : starEach (e :: es) X.env = (false, eval e X.env) :: starEach es X.env := by rfl) (hpl : (backTo pos (starEach es X.env)).any (·.1) = false := by rfl) :
    DE X T W (.Call (.Name x p1) (e :: es) [] pos) (eCall1 mf mas) := by
  refine ⟨⟨fun pins s σ H Q I ⟨ρ, δ, st, ok, rs, h⟩ => ?_⟩⟩
  refine wpAny_Call_Name_kw (ld_glob I hg hm ?_ hdb)
  refine PySem.W.callWith_K (h₀ := X.base) I.ok.mod.kin hk (thn (ha.pa.run pos pins s σ H (fun vs H1 => ∃ ρ1 ds st1, Ok X.K T H1 ρ1 st1 ∧ RL X.K H1 ρ1 ds vs ∧ Post X.K T W (R X.K) σ H1 ρ1 (mf ds st1) Q) I
    ⟨ρ, δ, st, ok, rs, Post.bind h fun xs st1 vs H1 ρ1 g1 ok1 rx h1 => ⟨ρ1, xs, st1, ok1, rx, h1⟩⟩) fun us s1 ⟨vs, H1, I1, r, ρ1, ds, st1, ok1, rd, h1⟩ => ⟨I1.kIn, ?_⟩) he hpl
  have hlen : ds.length = ps.length := by
    by_cases q : ds.length = ps.length
    · exact q
    · rw [F.len _ _ q] at h1
      exact h1.elim
  refine wpAny_call (codeAny_mono (F.run T X.A X.stack s1 H1 ⟨us, []⟩ us vs ds ρ1 st1 Q (WE W σ) rfl hr hgd I1.env0 ?_ r ok1 rd ?_) fun r s' hq => ?_)
  · have := hb s1 us I1.kIn (by rw [List.append_nil, ← r.length, rd.len, hlen])
    rwa [List.append_nil] at this
  · cases q : mf ds st1 with
    | ok d st' => rw [q] at h1; exact h1
    | err C p st' => rw [q] at h1; exact fun d H' ρ' g o pr => h1 d H' ρ' g o pr
    | bad => rw [q] at h1; exact h1
  · cases r with
    | error e => exact passAt tk σ pins H1 s1 e s' I1 hq
    | ok fl =>
      cases fl with
      | ret u => exact I1.after hq
      | next => exact False.elim hq
      | brk => exact False.elim hq
      | cont => exact False.elim hq
/-- f() -/
theorem de_call0 (F : FnD X.prog X.w X.K X.mg X.base T.tabs k f fd [] mf) (hr : Room k X.A) (hgd : X.A.guards = some []) (tk : Takes X W) (hg : Gl X x) (hm : X.mg x = some (.ref f)) (hk : PySem.W.keepIn X.K (.ref f) = true) (hb : Binds X.K fd [] [])
    (hdb : (x == ("__debug__" : Str)) = false := by decide) : DE X T W (.Call (.Name x p1) [] [] pos) (eCall1 mf aNil) := by
  refine ⟨⟨fun pins s σ H Q I ⟨ρ, δ, st, ok, rs, h1⟩ => ?_⟩⟩
  refine wpAny_Call_Name_kw (ld_glob I hg hm ?_ hdb)
  refine PySem.W.callWith_K0 I.kIn hk ?_
  refine wpAny_call (codeAny_mono (F.run T X.A X.stack s H ⟨[], []⟩ [] [] [] ρ st Q (WE W σ) rfl hr hgd I.env0 (hb s [] I.kIn rfl) .nil ok rfl ?_) fun r s' hq => ?_)
  · replace h1 : Post X.K T W (R X.K) σ H ρ (mf [] st) Q := h1
    cases q : mf [] st with
    | ok d st' => rw [q] at h1; exact h1
    | err C p st' => rw [q] at h1; exact fun d H' ρ' g o pr => h1 d H' ρ' g o pr
    | bad => rw [q] at h1; exact h1
  · cases r with
    | error e => exact passAt tk σ pins H s e s' I hq
    | ok fl =>
      cases fl with
      | ret u => exact I.after hq
      | next => exact False.elim hq
      | brk => exact False.elim hq
      | cont => exact False.elim hq
/-- f(e, .., k = v, ..) -/
theorem de_callK (F : FnD X.prog X.w X.K X.mg X.base T.tabs k f fd ps mf) (hr : Room k X.A) (hgd : X.A.guards = some []) (tk : Takes X W) (hg : Gl X x) (hm : X.mg x = some (.ref f)) (hk : PySem.W.keepIn X.K (.ref f) = true) (hb : BindD X.K fd ps ks nu is)
    (ha : DA X T W (e :: es) mas) (hkw : DK X T W kws mks) (hall : (backToKw pos (keywordEach kws X.env)).all (·.1.isSome) = true := by rfl) (hks : (backToKw pos (keywordEach kws X.env)).filterMap (·.1) = ks := by rfl)
    (hdb : (x == ("__debug__" : Str)) = false := by decide) (he : starEach (e :: es) X.env = (false, eval e X.env) :: starEach es X.env := by rfl)
    (hpl : ((backTo pos (starEach (e :: es) X.env)).any (·.1) || (backToKw pos (keywordEach kws X.env)).any (·.1.isNone)) = false := by rfl) :
    DE X T W (.Call (.Name x p1) (e :: es) kws pos) (eCall mf nu ks.length is mas mks) := by
  refine ⟨⟨fun pins s σ H Q I ⟨ρ, δ, st, ok, rs, h⟩ => ?_⟩⟩
  refine wpAny_Call_Name_kw (ld_glob I hg hm ?_ hdb)
  refine PySem.W.callWith_KW (h₀ := X.base) I.ok.mod.kin hk hall (thn (ha.pa.run pos pins s σ H (fun vs H1 => ∃ ρ1 ds st1, Ok X.K T H1 ρ1 st1 ∧ RS X.K H1 ρ1 δ σ ∧ RL X.K H1 ρ1 ds vs ∧ Post X.K T W (R X.K) σ H1 ρ1 ((mks δ st1).bind fun ys st2 => if ds.length = nu ∧ ys.length = ks.length then mf (perm is (ds ++ ys)) st2 else .bad) Q) I
    ⟨ρ, δ, st, ok, rs, Post.bind h fun xs st1 vs H1 ρ1 g1 ok1 rx h1 => ⟨ρ1, xs, st1, ok1, rs.go g1, rx, h1⟩⟩) fun us s1 ⟨vs, H1, I1, r, ρ1, ds, st1, ok1, rs1, rd, h1⟩ => ?_) hpl he
  refine thn (hkw.pk.run pos pins s1 σ H1 (fun zs H2 => ∃ ρ2 es st2, Ok X.K T H2 ρ2 st2 ∧ RL X.K H2 ρ2 ds vs ∧ RL X.K H2 ρ2 es zs ∧ ds.length = nu ∧ es.length = ks.length ∧ Post X.K T W (R X.K) σ H2 ρ2 (mf (perm is (ds ++ es)) st2) Q) I1
    ⟨ρ1, δ, st1, ok1, rs1, Post.bind h1 fun ys st2 zs H2 ρ2 g2 ok2 ry h2 => ?_⟩) fun ws s2 ⟨zs, H2, I2, rz, ρ2, es, st2, ok2, rd2, re2, l1, l2, h2⟩ => ⟨I2.kIn, ?_⟩
  · split at h2
    · rename_i hl
      exact ⟨ρ2, ys, st2, ok2, RL.go g2 _ _ rd, ry, hl.1, hl.2, h2⟩
    · exact h2.elim
  · rw [hks]
    exact run_fnD F hr hgd tk hb I2 r rz (by rw [rd2.len]; exact l1) (by rw [re2.len]; exact l2) ok2 rd2 re2 h2
/-- f(k = v, ..) -/
theorem de_callK0 (F : FnD X.prog X.w X.K X.mg X.base T.tabs k f fd ps mf) (hr : Room k X.A) (hgd : X.A.guards = some []) (tk : Takes X W) (hg : Gl X x) (hm : X.mg x = some (.ref f)) (hk : PySem.W.keepIn X.K (.ref f) = true) (hb : BindD X.K fd ps ks 0 is)
    (hkw : DK X T W kws mks) (hall : (backToKw pos (keywordEach kws X.env)).all (·.1.isSome) = true := by rfl) (hks : (backToKw pos (keywordEach kws X.env)).filterMap (·.1) = ks := by rfl)
    (hdb : (x == ("__debug__" : Str)) = false := by decide)
    (hpl : ((backTo pos (starEach [] X.env)).any (·.1) || (backToKw pos (keywordEach kws X.env)).any (·.1.isNone)) = false := by rfl) :
    DE X T W (.Call (.Name x p1) [] kws pos) (eCall mf 0 ks.length is aNil mks) := by
  refine ⟨⟨fun pins s σ H Q I ⟨ρ, δ, st, ok, rs, h⟩ => ?_⟩⟩
  refine wpAny_Call_Name_kw (ld_glob I hg hm ?_ hdb)
  refine PySem.W.callWith_KW0 (h₀ := X.base) I.ok.mod.kin hk hall ?_ hpl
  refine thn (hkw.pk.run pos pins s σ H (fun zs H2 => ∃ ρ2 es st2, Ok X.K T H2 ρ2 st2 ∧ RL X.K H2 ρ2 es zs ∧ es.length = ks.length ∧ Post X.K T W (R X.K) σ H2 ρ2 (mf (perm is ([] ++ es)) st2) Q) I
    ⟨ρ, δ, st, ok, rs, Post.bind (f := fun ys st2 => if ([] : List D).length = 0 ∧ ys.length = ks.length then mf (perm is ([] ++ ys)) st2 else .bad) h fun ys st2 zs H2 ρ2 g2 ok2 ry h2 => ?_⟩) fun ws s2 ⟨zs, H2, I2, rz, ρ2, es, st2, ok2, re2, l2, h2⟩ => ⟨I2.kIn, ?_⟩
  · split at h2
    · rename_i hl
      exact ⟨ρ2, ys, st2, ok2, ry, hl.2, h2⟩
    · exact h2.elim
  · rw [hks]
    exact run_fnD (us := []) (vs := []) (ds := []) F hr hgd tk hb I2 .nil rz rfl (by rw [re2.len]; exact l2) ok2 rfl re2 h2
end
end L3

/-! ### text Lf -/
namespace L3
open PySem PySem.Spec PyProof.Rows L2

/-! ### names as targets -/
inductive Nm where
  | one (i : Nat)
  | tup (ts : List Nm)
mutual
def Nm.slots : Nm → List Nat
  | .one i => [i]
  | .tup ts => Nm.slotsL ts
def Nm.slotsL : List Nm → List Nat
  | [] => []
  | t :: ts => t.slots ++ Nm.slotsL ts
end
mutual
/-- the names get a value -/
def Nm.put : Nm → D → Sl → Option Sl
  | .one i, d, δ => some (δ.set i (some d))
  | .tup ts, .tup ds, δ => Nm.putL ts ds δ
  | .tup _, _, _ => none
def Nm.putL : List Nm → List D → Sl → Option Sl
  | [], [], δ => some δ
  | t :: ts, d :: ds, δ => match t.put d δ with
    | some δ' => Nm.putL ts ds δ'
    | none => none
  | _, _, _ => none
end
/-- the rule of the target keeps to it: what is wanted is wanted of any slots that bear it, unlike at its own places alone -/
def rN (K : PySem.W.Frag) (t : Nm) : TG := fun v σ H Q => ∃ T ρ st δ δ' d, Ok K T H ρ st ∧ RS K H ρ δ σ ∧ R K H ρ d v ∧ t.put d δ = some δ' ∧ ∀ σ', RS K H ρ δ' σ' → wipe σ' t.slots = wipe σ t.slots → Q σ' H
structure DN (X : Cx) (tg : Expr) (t : Nm) : Prop where
  pg : PG X tg (rN X.K t)
structure DNs (X : Cx) (tgs : List Expr) (ts : List Nm) : Prop where
  pg : PGs X tgs fun vs σ H Q => ∃ T ρ st δ δ' ds, Ok X.K T H ρ st ∧ RS X.K H ρ δ σ ∧ RL X.K H ρ ds vs ∧ Nm.putL ts ds δ = some δ' ∧ ∀ σ', RS X.K H ρ δ' σ' → wipe σ' (Nm.slotsL ts) = wipe σ (Nm.slotsL ts) → Q σ' H
theorem PGs.imp {X : Cx} {e : List Expr} {t t' : TGs} (h : PGs X e t) (k : ∀ v σ H Q, t' v σ H Q → t v σ H Q) : PGs X e t' := ⟨fun pins s σ H v u Q I r q => h.run pins s σ H v u Q I r (k _ _ _ _ q)⟩
theorem wipe_set (σ : L2.St) (i : Nat) (v : Option V) (is : List Nat) (h : i ∈ is) : wipe (σ.set i v) is = wipe σ is := by
  induction is with
  | nil => cases h
  | cons j js ih =>
    unfold wipe
    by_cases hj : i = j
    · subst hj
      by_cases hm : i ∈ js
      · rw [ih hm]
      · have : ∀ (σ : L2.St) (ks : List Nat), i ∉ ks → wipe (σ.set i v) ks = (wipe σ ks).set i v := by
          intro σ ks hk
          induction ks with
          | nil => rfl
          | cons k ks ihk =>
            unfold wipe
            have h1 : i ≠ k := fun z => hk (by rw [z]; exact List.mem_cons_self)
            have h2 : i ∉ ks := fun z => hk (List.mem_cons_of_mem _ z)
            rw [ihk h2, List.set_comm _ _ h1]
        rw [this σ js hm, List.set_set]
    · rw [ih ((List.mem_cons.mp h).resolve_left hj)]
theorem wipe_app (σ : L2.St) (is js : List Nat) : wipe σ (is ++ js) = wipe (wipe σ js) is := by
  induction is with
  | nil => rfl
  | cons i is ih =>
    show (wipe σ (is ++ js)).set i none = (wipe (wipe σ js) is).set i none
    rw [ih]
theorem wipe_get (σ : L2.St) (is : List Nat) (k : Nat) (hk : k < σ.length) : (wipe σ is)[k]? = if k ∈ is then some none else σ[k]? := by
  induction is with
  | nil => rw [if_neg (by simp)]; rfl
  | cons i is ih =>
    unfold wipe
    by_cases h : i = k
    · subst h
      rw [List.getElem?_set_self (by rw [wipe_length]; exact hk), if_pos List.mem_cons_self]
    · rw [List.getElem?_set_ne h, ih]
      by_cases h2 : k ∈ is
      · rw [if_pos h2, if_pos (List.mem_cons_of_mem _ h2)]
      · rw [if_neg h2, if_neg (fun z => (List.mem_cons.mp z).elim (fun q => h q.symm) h2)]
/-- alike but at some places -/
theorem wipe_len {σ σ' : L2.St} {is : List Nat} (h : wipe σ' is = wipe σ is) : σ'.length = σ.length := by
  have := congrArg List.length h
  rw [wipe_length, wipe_length] at this
  exact this
theorem wipe_mono {σ σ' : L2.St} {is js : List Nat} (h : wipe σ' is = wipe σ is) (hs : ∀ i ∈ is, i ∈ js) : wipe σ' js = wipe σ js := by
  have hl := wipe_len h
  refine List.ext_getElem? fun k => ?_
  by_cases hk : k < σ.length
  · rw [wipe_get _ _ _ hk, wipe_get _ _ _ (by rw [hl]; exact hk)]
    by_cases hj : k ∈ js
    · rw [if_pos hj, if_pos hj]
    · rw [if_neg hj, if_neg hj]
      have this : (wipe σ' is)[k]? = (wipe σ is)[k]? := by rw [h]
      rw [wipe_get _ _ _ hk, wipe_get _ _ _ (by rw [hl]; exact hk), if_neg (fun z => hj (hs k z)), if_neg (fun z => hj (hs k z))] at this
      exact this
  · rw [List.getElem?_eq_none (by rw [wipe_length]; omega), List.getElem?_eq_none (by rw [wipe_length]; omega)]
section
variable {X : Cx} {e : Expr} {es : List Expr} {pos : Pos} {t : Nm} {ts : List Nm}
theorem dn_name (i : Nat) {x : Str} (hN : X.N.Nodup) (hi : X.N[i]? = some x := by rfl) (hx : Loc X.env.scope x := by first | exact Or.inl rfl | exact Or.inr rfl) (hf : X.fn x = true ∨ X.env.scope.names.lookup x = some .local := by first | exact .inl rfl | exact .inr rfl) :
    DN X (.Name x pos) (.one i) :=
  ⟨PG.imp (pg_name hN hi hx hf) fun v σ H Q ⟨T, ρ, st, δ, δ', d, ok, rs, rd, e, h⟩ => by
    cases e
    exact h _ (rs.set rd) (wipe_set _ _ _ _ (by simp [Nm.slots]))⟩
theorem dns_nil : DNs X [] [] := ⟨PGs.imp pgs_nil fun vs σ H Q ⟨T, ρ, st, δ, δ', ds, ok, rs, rd, e, h⟩ => by
  cases ds with
  | nil => cases e; exact ⟨rd, h _ rs rfl⟩
  | cons d ds => cases e⟩
theorem dns_cons (h1 : DN X e t) (h2 : DNs X es ts) (hs : (assignEach (e :: es) X.env).map (·.2) = assign e X.env :: (assignEach es X.env).map (·.2) := by rfl) : DNs X (e :: es) (t :: ts) :=
  ⟨PGs.imp (pgs_cons h1.pg h2.pg hs) fun vs σ H Q ⟨T, ρ, st, δ, δ', ds, ok, rs, rd, e, h⟩ => by
    cases ds with
    | nil => cases e
    | cons d ds =>
      obtain ⟨v, r, rfl, r1, r2⟩ := rd
      simp only [Nm.putL] at e
      split at e
      · rename_i δ1 e1
        refine ⟨v, r, rfl, T, ρ, st, δ, δ1, d, ok, rs, r1, e1, fun σ1 rs1 w1 => ⟨T, ρ, st, δ1, δ', ds, ok, rs1, r2, e, fun σ2 rs2 w2 => h σ2 rs2 ?_⟩⟩
        simp only [Nm.slotsL]
        exact (wipe_mono w2 fun i hi => List.mem_append_right _ hi).trans (wipe_mono w1 fun i hi => List.mem_append_left _ hi)
      · cases e⟩
theorem putL_len : ∀ {ts : List Nm} {ds : List D} {δ δ' : Sl}, Nm.putL ts ds δ = some δ' → ds.length = ts.length
  | [], [], _, _, _ => rfl
  | [], _ :: _, _, _, e => by cases e
  | _ :: _, [], _, _, e => by cases e
  | t :: ts, d :: ds, δ, δ', e => by
    simp only [Nm.putL] at e
    split at e
    · rw [List.length_cons, List.length_cons, putL_len e]
    · cases e
theorem dn_tup {k : Nat} (hc : X.calm = true) (h : DNs X es ts) (hn : (assignEach es X.env).length = ts.length := by rfl) (hst : (assignEach es X.env).findIdx? (·.1) = none := by rfl) : DN X (.Tuple es k pos) (.tup ts) :=
  ⟨PG.imp (pg_tup hc h.pg hn hst) fun v σ H Q ⟨T, ρ, st, δ, δ', d, ok, rs, rd, e, h⟩ => by
    cases d with
    | tup ds =>
      simp only [Nm.put] at e
      obtain ⟨a, xs, rfl, s, r⟩ := tupAt rd
      exact ⟨a, xs, rfl, s, by rw [r.len, putL_len e], T, ρ, st, δ, δ', ds, ok, rs, r, e, h⟩
    | _ => cases e⟩
end
def gNms (t : Nm) : GM := fun d δ st => match t.put d δ with
  | some δ' => .nx δ' st
  | none => .bad
theorem DN.dg {X : Cx} {T : Tb} {W : WX} {tg : Expr} {t : Nm} (h : DN X tg t) : DG X T W tg (gNms t) :=
  ⟨PG.imp h.pg fun v σ H Q ⟨ρ, δ, st, d, ok, rs, rd, h⟩ => by
    unfold gNms at h
    split at h
    · rename_i δ' e
      exact ⟨T, ρ, st, δ, δ', d, ok, rs, rd, e, fun σ' rs' _ => h σ' H ρ (Go.refl _ _) ok rs'⟩
    · exact h.elim⟩

/-! ### what is walked -/
structure Wk where
  items : List D
  keep : Store → Prop
/-- the iterator J gives the items of k, as long as the store keeps what it walks -/
def WkR (K : PySem.W.Frag) (T : Tb) (H : Hp) (ρ : Wo) (k : Wk) (J : It) : Prop :=
  ∃ (dd : List D) (vs : List V) (G : Hp → Prop) (Y : Nat → Hp → V → Hp → Prop), RL K H ρ dd vs ∧ Walk J k.items.length G Y ∧ (∀ H1 ρ1 st1, Ok K T H1 ρ1 st1 → RL K H1 ρ1 dd vs → k.keep st1 → G H1) ∧
    ∀ i d H1 ρ1 st1 x H2, Ok K T H1 ρ1 st1 → RL K H1 ρ1 dd vs → k.keep st1 → k.items[i]? = some d → Y i H1 x H2 → Go H1 ρ1 H2 ρ1 ∧ Ok K T H2 ρ1 st1 ∧ R K H2 ρ1 d x
abbrev IM := Sl → Store → Res Wk
structure DI (X : Cx) (T : Tb) (W : WX) (tg iter : Expr) (m : IM) : Prop where
  pi : PI X tg iter fun σ H Rr => ∃ ρ δ st, Ok X.K T H ρ st ∧ RS X.K H ρ δ σ ∧ Post X.K T W (fun H ρ k J => WkR X.K T H ρ k J) σ H ρ (m δ st) Rr
theorem PI.imp {X : Cx} {tg e : Expr} {t t' : TI} (h : PI X tg e t) (k : ∀ σ H Q, t' σ H Q → t σ H Q) : PI X tg e t' := ⟨fun pins s σ H Q I q => h.run pins s σ H Q I (k _ _ _ q)⟩
theorem piOr {X : Cx} {tg e : Expr} {t u : TI} (h : PI X tg e t) (h' : PI X tg e u) : PI X tg e (fun σ H R => t σ H R ∨ u σ H R) := ⟨fun pins s σ H Q I q => q.elim (h.run pins s σ H Q I) (h'.run pins s σ H Q I)⟩
section
variable {K : PySem.W.Frag} {T : Tb} {H : Hp} {ρ : Wo} {st : Store}
/-- what is walked stands for good, or is the n-th thing -/
def keepOf (d : D) (ds : List D) : Store → Prop := match d with
  | .loc n => fun st => st[n]? = some (.lst ds)
  | _ => fun _ => True
theorem keep_ls {d : D} {ds : List D} {st1 : Store} (e : lsOf d st = some ds) (k : keepOf d ds st1) : lsOf d st1 = some ds := by
  cases d with
  | loc n =>
    have k : st1[n]? = some (.lst ds) := k
    simp only [lsOf, k]
  | _ => exact e
theorem walk_any {a : Addr} {n : Nat} : Walk (Itl K a) n (fun H => ∃ ys, SqL K H a ys ∧ ys.length = n) (fun i H x H' => H' = H ∧ ∀ ys, SqL K H a ys → ys[i]? = some x) :=
  ⟨fun i _ hi ⟨ys, q, e⟩ => ⟨ys, ys[i]'(by omega), q, by simp [show i < ys.length by omega]⟩, fun _ ⟨ys, q, e⟩ => ⟨ys, q, Nat.le_of_eq e⟩, fun _ _ _ _ _ _ y => y⟩
theorem walk_anyE {a : Addr} {n : Nat} : Walk (Ite K a) n (fun H => ∃ ys, SqL K H a ys ∧ ys.length = n) (fun i H v H' => ∃ T x, v = .ref T ∧ H T = none ∧ H' = upd H T (.tup [.int (i : Nat), x]) ∧ ∀ xs, SqL K H a xs → xs[i]? = some x) :=
  ⟨fun i _ hi ⟨ys, q, e⟩ => ⟨ys, ys[i]'(by omega), q, by simp [show i < ys.length by omega]⟩, fun _ ⟨ys, q, e⟩ => ⟨ys, q, Nat.le_of_eq e⟩, fun _ _ _ _ _ _ y => y⟩
theorem walk_anyZ {a b : Addr} {n k : Nat} : Walk (Itz K a b) (min n k) (fun H => ∃ xs ys, SqL K H a xs ∧ SqL K H b ys ∧ xs.length = n ∧ ys.length = k)
    (fun i H v H' => ∃ T x y, v = .ref T ∧ H T = none ∧ H' = upd H T (.tup [x, y]) ∧ (∀ xs, SqL K H a xs → xs[i]? = some x) ∧ ∀ ys, SqL K H b ys → ys[i]? = some y) :=
  ⟨fun i _ hi ⟨xs, ys, p, q, e1, e2⟩ => ⟨xs, ys, xs[i]'(by omega), ys[i]'(by omega), p, q, by simp [show i < xs.length by omega], by simp [show i < ys.length by omega]⟩,
    fun _ ⟨xs, ys, p, q, e1, e2⟩ => ⟨xs, ys, p, q, by omega⟩, fun _ _ _ _ _ _ y => y⟩
theorem walk_anyZT {a b : Addr} {n k : Nat} : Walk (RZ.ItzT K a b) (min n k) (fun H => ∃ xs ys, SqT K H a xs ∧ SqT K H b ys ∧ xs.length = n ∧ ys.length = k)
    (fun i H v H' => ∃ T x y, v = .ref T ∧ H T = none ∧ H' = upd H T (.tup [x, y]) ∧ (∀ xs, SqT K H a xs → xs[i]? = some x) ∧ ∀ ys, SqT K H b ys → ys[i]? = some y) :=
  ⟨fun i _ hi ⟨xs, ys, p, q, e1, e2⟩ => ⟨xs, ys, xs[i]'(by omega), ys[i]'(by omega), p, q, by simp [show i < xs.length by omega], by simp [show i < ys.length by omega]⟩,
    fun _ ⟨xs, ys, p, q, e1, e2⟩ => ⟨xs, ys, p, q, by omega⟩, fun _ _ _ _ _ _ y => y⟩
theorem ref_inj {a b : Addr} (h : V.ref a = V.ref b) : a = b := by cases h; rfl
theorem wk_list {d : D} {a : Addr} {ds : List D} (h : R K H ρ d (.ref a)) (e : lsOf d st = some ds) : WkR K T H ρ ⟨ds, keepOf d ds⟩ (Itl K a) := by
  refine ⟨[d], [.ref a], _, _, ⟨_, _, rfl, h, rfl⟩, walk_any, fun H1 ρ1 st1 o r0 k => ?_, fun i x H1 ρ1 st1 v H2 o r0 k hi hy => ?_⟩
  all_goals
    obtain ⟨_, _, e0, h, _⟩ := r0
    cases e0
    obtain ⟨b, ys, e1, s, r⟩ := lsAt o h (keep_ls e k)
    cases ref_inj e1
  · exact ⟨ys, s, r.len⟩
  · obtain ⟨rfl, hy⟩ := hy
    obtain ⟨w, h1, h2⟩ := r.get hi
    rw [hy ys s] at h1
    cases h1
    exact ⟨Go.refl _ _, o, h2⟩
theorem walk_anyT {a : Addr} {n : Nat} : Walk (Itt K a) n (fun H => ∃ ys, SqT K H a ys ∧ ys.length = n) (fun i H x H' => H' = H ∧ ∀ ys, SqT K H a ys → ys[i]? = some x) :=
  ⟨fun i _ hi ⟨ys, q, e⟩ => ⟨ys, ys[i]'(by omega), q, by simp [show i < ys.length by omega]⟩, fun _ ⟨ys, q, e⟩ => ⟨ys, q, Nat.le_of_eq e⟩, fun _ _ _ _ _ _ y => y⟩
theorem wk_tup {a : Addr} {ds : List D} (h : R K H ρ (.tup ds) (.ref a)) : WkR K T H ρ ⟨ds, fun _ => True⟩ (Itt K a) := by
  refine ⟨[.tup ds], [.ref a], _, _, ⟨_, _, rfl, h, rfl⟩, walk_anyT, fun H1 ρ1 st1 o r0 k => ?_, fun i x H1 ρ1 st1 v H2 o r0 k hi hy => ?_⟩
  all_goals
    obtain ⟨_, _, e0, h, _⟩ := r0
    cases e0
    obtain ⟨b, ys, e1, s, r⟩ := tupAt h
    cases ref_inj e1
  · exact ⟨ys, s, r.len⟩
  · obtain ⟨rfl, hy⟩ := hy
    obtain ⟨w, h1, h2⟩ := r.get hi
    rw [hy ys s] at h1
    cases h1
    exact ⟨Go.refl _ _, o, h2⟩
theorem wk_str {z : Str} : WkR K T H ρ ⟨z.cps.toList.map fun c => .str ⟨#[c]⟩, fun _ => True⟩ (Its z) := by
  refine ⟨[], [], _, _, rfl, by have := walk_str (z := z); rw [show z.cps.size = (z.cps.toList.map fun c => D.str ⟨#[c]⟩).length by simp] at this; exact this, fun H1 ρ1 st1 o _ k => trivial, fun i x H1 ρ1 st1 v H2 o _ k hi hy => ?_⟩
  obtain ⟨rfl, c, e, rfl⟩ := hy
  refine ⟨Go.refl _ _, o, ?_⟩
  simp only [List.getElem?_map, Array.getElem?_toList, e, Option.map_some, Option.some.injEq] at hi
  subst hi
  exact rfl
theorem wk_range {lo : Int} {n : Nat} : WkR K T H ρ ⟨(List.range n).map fun i => .int (lo + (i : Nat)), fun _ => True⟩ (Itr lo n) := by
  refine ⟨[], [], _, _, rfl, by have := walk_range (lo := lo) (n := n); rw [show n = ((List.range n).map fun (i : Nat) => D.int (lo + i)).length by simp] at this; simp only [List.length_map, List.length_range] at this; simp only [List.length_map, List.length_range]; exact this, fun H1 ρ1 st1 o _ k => trivial, fun i x H1 ρ1 st1 v H2 o _ k hi hy => ?_⟩
  obtain ⟨rfl, rfl⟩ := hy
  refine ⟨Go.refl _ _, o, ?_⟩
  have hlt : i < n := by
    have := (List.getElem?_eq_some_iff.mp hi).1
    simpa using this
  simp only [List.getElem?_map, List.getElem?_range hlt, Option.map_some, Option.some.injEq] at hi
  subst hi
  exact rfl
/-- (i, x) at each turn -/
def enumD (k : Nat) : List D → List D
  | [] => []
  | d :: ds => .tup [.int (k : Nat), d] :: enumD (k + 1) ds
theorem enumD_len : ∀ (k : Nat) (ds : List D), (enumD k ds).length = ds.length
  | _, [] => rfl
  | k, _ :: ds => by rw [enumD, List.length_cons, List.length_cons, enumD_len (k + 1) ds]
theorem enumD_get : ∀ (ds : List D) (k i : Nat) (x : D), (enumD k ds)[i]? = some x → ∃ d, ds[i]? = some d ∧ x = .tup [.int ((k + i : Nat) : Int), d]
  | [], _, _, _, h => by simp [enumD] at h
  | d :: ds, k, 0, x, h => by simp [enumD] at h; exact ⟨d, by simp, by rw [← h]; simp⟩
  | d :: ds, k, i + 1, x, h => by
    simp only [enumD, List.getElem?_cons_succ] at h
    obtain ⟨e, h1, h2⟩ := enumD_get ds (k + 1) i x h
    exact ⟨e, by simpa using h1, by rw [h2]; congr 3; omega⟩
/-- a new pair -/
theorem new_pair {H1 : Hp} {ρ1 : Wo} {st1 : Store} {p : Addr} {x y : D} {v u : V} (ok : Ok K T H1 ρ1 st1) (hp : H1 p = none) (rx : R K H1 ρ1 x v) (ry : R K H1 ρ1 y u) :
    Go H1 ρ1 (upd H1 p (.tup [v, u])) ρ1 ∧ Ok K T (upd H1 p (.tup [v, u])) ρ1 st1 ∧ R K (upd H1 p (.tup [v, u])) ρ1 (.tup [x, y]) (.ref p) :=
  ⟨go_new hp, ok.alloc hp, p, [v, u], rfl, .inl ⟨.inl upd_same, ok.new hp⟩, v, [u], rfl, R.go (go_new hp) _ _ rx, u, [], rfl, R.go (go_new hp) _ _ ry, rfl⟩
theorem wk_enum {d : D} {a : Addr} {ds : List D} (h : R K H ρ d (.ref a)) (e : lsOf d st = some ds) : WkR K T H ρ ⟨enumD 0 ds, keepOf d ds⟩ (Ite K a) := by
  refine ⟨[d], [.ref a], _, _, ⟨_, _, rfl, h, rfl⟩, walk_anyE, fun H1 ρ1 st1 o r0 k => ?_, fun i x H1 ρ1 st1 v H2 o r0 k hi hy => ?_⟩
  all_goals
    obtain ⟨_, _, e0, h, _⟩ := r0
    cases e0
    obtain ⟨b, ys, e1, s, r⟩ := lsAt o h (keep_ls e k)
    cases ref_inj e1
  · exact ⟨ys, s, by rw [r.len, enumD_len]⟩
  · obtain ⟨p, y, rfl, hp, rfl, hy⟩ := hy
    obtain ⟨d', h0, rfl⟩ := enumD_get _ _ _ _ hi
    obtain ⟨w, h1, h2⟩ := r.get h0
    rw [hy ys s] at h1
    cases h1
    have := new_pair o hp (x := .int ((0 + i : Nat) : Int)) (v := .int (i : Nat)) (by rw [Nat.zero_add]; exact rfl) h2
    exact this
/-- pairs -/
def zipD : List D → List D → List D
  | x :: xs, y :: ys => .tup [x, y] :: zipD xs ys
  | _, _ => []
theorem zipD_len : ∀ (xs ys : List D), (zipD xs ys).length = min xs.length ys.length
  | [], ys => by simp [zipD]
  | _ :: _, [] => by simp [zipD]
  | x :: xs, y :: ys => by rw [zipD, List.length_cons, zipD_len xs ys, List.length_cons, List.length_cons]; omega
theorem zipD_get : ∀ (xs ys : List D) (i : Nat) (z : D), (zipD xs ys)[i]? = some z → ∃ x y, xs[i]? = some x ∧ ys[i]? = some y ∧ z = .tup [x, y]
  | [], _, _, _, h => by simp [zipD] at h
  | _ :: _, [], _, _, h => by simp [zipD] at h
  | x :: xs, y :: ys, 0, z, h => by simp [zipD] at h; exact ⟨x, y, by simp, by simp, h.symm⟩
  | x :: xs, y :: ys, i + 1, z, h => by
    simp only [zipD, List.getElem?_cons_succ] at h
    obtain ⟨a, b, h1, h2, h3⟩ := zipD_get xs ys i z h
    exact ⟨a, b, by simpa using h1, by simpa using h2, h3⟩
theorem wk_zip {d d' : D} {a b : Addr} {ds es : List D} (h : R K H ρ d (.ref a)) (h' : R K H ρ d' (.ref b)) (e : lsOf d st = some ds) (e' : lsOf d' st = some es) :
    WkR K T H ρ ⟨zipD ds es, fun st => keepOf d ds st ∧ keepOf d' es st⟩ (Itz K a b) := by
  refine ⟨[d, d'], [.ref a, .ref b], _, _, ⟨_, _, rfl, h, _, _, rfl, h', rfl⟩, by have := walk_anyZ (K := K) (a := a) (b := b) (n := ds.length) (k := es.length); rw [← zipD_len ds es] at this; exact this, fun H1 ρ1 st1 o r0 k => ?_, fun i x H1 ρ1 st1 v H2 o r0 k hi hy => ?_⟩
  all_goals
    obtain ⟨_, _, e0, h, _, _, e00, h', _⟩ := r0
    cases e00
    cases e0
    obtain ⟨a', xs, e1, s, r⟩ := lsAt o h (keep_ls e k.1)
    cases ref_inj e1
    obtain ⟨b', ys, e2, s2, r2⟩ := lsAt o h' (keep_ls e' k.2)
    cases ref_inj e2
  · exact ⟨xs, ys, s, s2, r.len, r2.len⟩
  · obtain ⟨p, y, z, rfl, hp, rfl, hy, hz⟩ := hy
    obtain ⟨x1, y1, h0, h00, rfl⟩ := zipD_get _ _ _ _ hi
    obtain ⟨w, q1, q2⟩ := r.get h0
    obtain ⟨w2, q3, q4⟩ := r2.get h00
    rw [hy xs s] at q1
    cases q1
    rw [hz ys s2] at q3
    cases q3
    exact new_pair o hp q2 q4
theorem wk_zipT {a b : Addr} {ds es : List D} (h : R K H ρ (.tup ds) (.ref a)) (h' : R K H ρ (.tup es) (.ref b)) :
    WkR K T H ρ ⟨zipD ds es, fun st => True⟩ (RZ.ItzT K a b) := by
  refine ⟨[.tup ds, .tup es], [.ref a, .ref b], _, _, ⟨_, _, rfl, h, _, _, rfl, h', rfl⟩, by have := walk_anyZT (K := K) (a := a) (b := b) (n := ds.length) (k := es.length); rw [← zipD_len ds es] at this; exact this, fun H1 ρ1 st1 o r0 k => ?_, fun i x H1 ρ1 st1 v H2 o r0 k hi hy => ?_⟩
  all_goals
    obtain ⟨_, _, e0, h, _, _, e00, h', _⟩ := r0
    cases e00
    cases e0
    obtain ⟨a', xs, e1, s, r⟩ := tupAt h
    cases ref_inj e1
    obtain ⟨b', ys, e2, s2, r2⟩ := tupAt h'
    cases ref_inj e2
  · exact ⟨xs, ys, s, s2, r.len, r2.len⟩
  · obtain ⟨p, y, z, rfl, hp, rfl, hy, hz⟩ := hy
    obtain ⟨x1, y1, h0, h00, rfl⟩ := zipD_get _ _ _ _ hi
    obtain ⟨w, q1, q2⟩ := r.get h0
    obtain ⟨w2, q3, q4⟩ := r2.get h00
    rw [hy xs s] at q1
    cases q1
    rw [hz ys s2] at q3
    cases q3
    exact new_pair o hp q2 q4
end
section
variable {X : Cx} {T : Tb} {W : WX} {a b c e e2 : Expr} {tg : Expr} {ma mb me : EM} {pos p1 p2 tpos : Pos}
/-- the items of a list, a tuple, a text -/
def iSeq (m : EM) : IM := fun δ st => (m δ st).bind fun d st1 => match d with
  | .tup ds => .ok ⟨ds, fun _ => True⟩ st1
  | .str z => .ok ⟨z.cps.toList.map fun c => .str ⟨#[c]⟩, fun _ => True⟩ st1
  | d => match lsOf d st1 with
    | some ds => .ok ⟨ds, keepOf d ds⟩ st1
    | none => .bad
theorem di_seq (h : DE X T W e me) : DI X T W tg e (iSeq me) := by
  refine ⟨PI.imp (piOr (pi_list h.pe) (piOr (pi_tup h.pe) (pi_str h.pe))) fun σ H Rr ⟨ρ, δ, st, ok, rs, h⟩ => ?_⟩
  unfold iSeq at h
  cases q : me δ st with
  | bad => rw [q] at h; exact h.elim
  | err C p st1 =>
    rw [q] at h
    exact .inl ⟨ρ, δ, st, ok, rs, by rw [q]; exact h⟩
  | ok d st1 =>
    rw [q, Res.bind_ok] at h
    split at h
    · rename_i ds
      refine .inr (.inl ⟨ρ, δ, st, ok, rs, by
        rw [q]
        intro v H1 ρ1 g1 ok1 rd
        obtain ⟨a, xs, rfl, s, r⟩ := id rd
        exact ⟨a, rfl, ⟨xs, s.sq⟩, h _ H1 ρ1 g1 ok1 (wk_tup rd)⟩⟩)
    · rename_i z
      refine .inr (.inr ⟨ρ, δ, st, ok, rs, by
        rw [q]
        intro v H1 ρ1 g1 ok1 rd
        cases rd
        exact ⟨z, rfl, h _ H1 ρ1 g1 ok1 wk_str⟩⟩)
    · split at h
      · rename_i ds e1
        refine .inl ⟨ρ, δ, st, ok, rs, by
          rw [q]
          intro v H1 ρ1 g1 ok1 rd
          obtain ⟨a, xs, rfl, s, r⟩ := lsAt ok1 rd e1
          exact ⟨a, rfl, ⟨xs, s⟩, h _ H1 ρ1 g1 ok1 (wk_list rd e1)⟩⟩
      · exact h.elim
def rangeD (lo : Int) (n : Nat) : List D := (List.range n).map fun i => .int (lo + (i : Nat))
def iRange1 (m : AM) : IM := fun δ st => (m δ st).bind fun xs st1 => match xs with
  | [.int j] => if -(2 ^ 62) ≤ j ∧ j < 2 ^ 62 then .ok ⟨rangeD 0 j.toNat, fun _ => True⟩ st1 else .bad
  | _ => .bad
def iRange2 (m : AM) : IM := fun δ st => (m δ st).bind fun xs st1 => match xs with
  | [.int i, .int j] => if -(2 ^ 62) ≤ i ∧ i < 2 ^ 62 ∧ -(2 ^ 62) ≤ j ∧ j < 2 ^ 62 then .ok ⟨rangeD i (j - i).toNat, fun _ => True⟩ st1 else .bad
  | _ => .bad
def iEnum (m : AM) : IM := fun δ st => (m δ st).bind fun xs st1 => match xs with
  | [d] => match lsOf d st1 with
    | some ds => .ok ⟨enumD 0 ds, keepOf d ds⟩ st1
    | none => .bad
  | _ => .bad
def iZip (m : AM) : IM := fun δ st => (m δ st).bind fun xs st1 => match xs with
  | [.tup ds, .tup es] => .ok ⟨zipD ds es, fun _ => True⟩ st1
  | [d, d'] => match lsOf d st1, lsOf d' st1 with
    | some ds, some es => .ok ⟨zipD ds es, fun st => keepOf d ds st ∧ keepOf d' es st⟩ st1
    | _, _ => .bad
  | _ => .bad
variable {mas : AM}
theorem RL.one {K : PySem.W.Frag} {H : Hp} {ρ : Wo} {d : D} {vs : List V} (h : RL K H ρ [d] vs) : ∃ v, vs = [v] ∧ R K H ρ d v := by
  obtain ⟨v, r, e, h1, h2⟩ := h
  cases h2
  exact ⟨v, e, h1⟩
theorem RL.two {K : PySem.W.Frag} {H : Hp} {ρ : Wo} {d d' : D} {vs : List V} (h : RL K H ρ [d, d'] vs) : ∃ v u, vs = [v, u] ∧ R K H ρ d v ∧ R K H ρ d' u := by
  obtain ⟨v, r, e, h1, u, r2, e2, h2, h3⟩ := h
  cases h3
  subst e2
  exact ⟨v, u, e, h1, h2⟩
theorem RL.three {K : PySem.W.Frag} {H : Hp} {ρ : Wo} {d d' d'' : D} {vs : List V} (h : RL K H ρ [d, d', d''] vs) : ∃ v u w, vs = [v, u, w] ∧ R K H ρ d v ∧ R K H ρ d' u ∧ R K H ρ d'' w := by
  obtain ⟨v, r, e, h1, h2⟩ := h
  obtain ⟨u, w, e2, h3, h4⟩ := RL.two h2
  subst e2
  exact ⟨v, u, w, e, h1, h3, h4⟩
theorem di_range1 (hg : Gl X "range") (hm : X.mg "range" = none) (h : DA X T W [a] mas) (hs : starEach [a] X.env = [(false, eval a X.env)] := by rfl) : DI X T W tg (.Call (.Name "range" p1) [a] [] pos) (iRange1 mas) := by
  refine ⟨PI.imp (pi_range1 hg hm h.pa hs) fun σ H Rr ⟨ρ, δ, st, ok, rs, h⟩ => ?_⟩
  unfold iRange1 at h
  refine ⟨ρ, δ, st, ok, rs, Post.bind h fun xs st1 vs H1 ρ1 g1 ok1 rx h => ?_⟩
  split at h
  · split at h
    · rename_i j hz
      obtain ⟨v, rfl, r1⟩ := RL.one rx
      cases r1
      exact ⟨j, rfl, hz.1, hz.2, h _ H1 ρ1 (Go.refl _ _) ok1 wk_range⟩
    · exact h.elim
  · exact h.elim
theorem di_range2 (hg : Gl X "range") (hm : X.mg "range" = none) (h : DA X T W [a, b] mas) (hs : starEach [a, b] X.env = [(false, eval a X.env), (false, eval b X.env)] := by rfl) (hs2 : starEach [b] X.env = [(false, eval b X.env)] := by rfl) :
    DI X T W tg (.Call (.Name "range" p1) [a, b] [] pos) (iRange2 mas) := by
  refine ⟨PI.imp (pi_range2 hg hm h.pa hs hs2) fun σ H Rr ⟨ρ, δ, st, ok, rs, h⟩ => ?_⟩
  unfold iRange2 at h
  refine ⟨ρ, δ, st, ok, rs, Post.bind h fun xs st1 vs H1 ρ1 g1 ok1 rx h => ?_⟩
  split at h
  · split at h
    · rename_i i j hz
      obtain ⟨v, u, rfl, r1, r2⟩ := RL.two rx
      cases r1
      cases r2
      exact ⟨i, j, rfl, hz, h _ H1 ρ1 (Go.refl _ _) ok1 wk_range⟩
    · exact h.elim
  · exact h.elim
theorem di_enum {elts : List Expr} {kk : Nat} (hg : Gl X "enumerate") (hm : X.mg "enumerate" = none) (h : DA X T W [e] mas) (hs : starEach [e] X.env = [(false, eval e X.env)] := by rfl) :
    DI X T W (.Tuple elts kk tpos) (.Call (.Name "enumerate" p1) [e] [] pos) (iEnum mas) := by
  refine ⟨PI.imp (pi_enum hg hm h.pa hs) fun σ H Rr ⟨ρ, δ, st, ok, rs, h⟩ => ?_⟩
  unfold iEnum at h
  refine ⟨ρ, δ, st, ok, rs, Post.bind h fun xs st1 vs H1 ρ1 g1 ok1 rx h => ?_⟩
  split at h
  · split at h
    · rename_i d ds e1
      obtain ⟨v, rfl, r1⟩ := RL.one rx
      obtain ⟨a, xs, rfl, s, r⟩ := lsAt ok1 r1 e1
      exact ⟨a, xs, rfl, s, h _ H1 ρ1 (Go.refl _ _) ok1 (wk_enum r1 e1)⟩
    · exact h.elim
  · exact h.elim
theorem di_zip {elts : List Expr} {kk : Nat} (hg : Gl X "zip") (hm : X.mg "zip" = none) (h : DA X T W [e, e2] mas)
    (hs : starEach (e :: [e2]) X.env = (false, eval e X.env) :: starEach [e2] X.env := by rfl) (hpl : (backTo pos (starEach [e2] X.env)).any (·.1) = false := by rfl) :
    DI X T W (.Tuple elts kk tpos) (.Call (.Name "zip" p1) [e, e2] [] pos) (iZip mas) := by
  refine ⟨PI.imp (RZ.pi_zipA hg hm h.pa hs hpl) fun σ H Rr ⟨ρ, δ, st, ok, rs, h⟩ => ?_⟩
  unfold iZip at h
  refine ⟨ρ, δ, st, ok, rs, Post.bind h fun xs st1 vs H1 ρ1 g1 ok1 rx h => ?_⟩
  split at h
  · rename_i ds es
    obtain ⟨v, u, rfl, r1, r2⟩ := RL.two rx
    obtain ⟨a, xs, rfl, s, r⟩ := tupAt r1
    obtain ⟨b, ys, rfl, s', r'⟩ := tupAt r2
    exact ⟨a, b, xs, ys, rfl, .inr ⟨s, s', h _ H1 ρ1 (Go.refl _ _) ok1 (wk_zipT r1 r2)⟩⟩
  · split at h
    · rename_i ds es e1 e2'
      obtain ⟨v, u, rfl, r1, r2⟩ := RL.two rx
      obtain ⟨a, xs, rfl, s, r⟩ := lsAt ok1 r1 e1
      obtain ⟨b, ys, rfl, s', r'⟩ := lsAt ok1 r2 e2'
      exact ⟨a, b, xs, ys, rfl, .inl ⟨s, s', h _ H1 ρ1 (Go.refl _ _) ok1 (wk_zip r1 r2 e1 e2')⟩⟩
    · exact h.elim
  · exact h.elim
end
/-! ### for -/
/-- behind a turn that began with n0 things: what it made goes -/
def tidy (n0 : Nat) (δ : Sl) (st : Store) : Option (Sl × Store) :=
  if st.length = n0 then some (δ, st)
  else if (st.take n0).all (shutC n0) = true then some (δ.map fun o => o.bind fun d => if shut n0 d = true then some d else none, st.take n0)
  else none
theorem tidy_ok {K : PySem.W.Frag} {T : Tb} {H0 H : Hp} {ρ0 ρ : Wo} {δ δ' : Sl} {σ : L2.St} {st st' : Store} (al0 : T.Al K H0 ρ0) (g : Go H0 ρ0 H ρ) (ok : Ok K T H ρ st) (rs : RS K H ρ δ σ)
    (h : tidy ρ0.m.length δ st = some (δ', st')) : ∃ ρ1, Go H0 ρ0 H ρ1 ∧ ρ1.m.length = ρ0.m.length ∧ Ok K T H ρ1 st' ∧ RS K H ρ1 δ' σ := by
  unfold tidy at h
  split at h
  · rename_i hl
    cases h
    exact ⟨ρ, g, by rw [ok.len, hl], ok, rs⟩
  · split at h
    · rename_i hc
      cases h
      obtain ⟨new, e, f⟩ := id g.pre
      refine ⟨ρ.cut ρ0.m.length, g.cut, by show (ρ.m.take _).length = _; rw [e]; simp, ok.shut hc (al0.go g.cut), by rw [List.length_map]; exact rs.len, fun i d hd => ?_⟩
      rw [List.getElem?_map] at hd
      cases q : δ[i]? with
      | none => rw [q] at hd; cases hd
      | some o =>
        rw [q] at hd
        cases o with
        | none => cases hd
        | some d' =>
          simp only [Option.map_some, Option.bind_some, Option.some.injEq] at hd
          split at hd
          · rename_i hs
            cases hd
            obtain ⟨v, h1, h2⟩ := rs.at' i d q
            exact ⟨v, h1, R.shut d v hs h2⟩
          · cases hd
    · cases h
open Classical in
noncomputable def loop (keep : Store → Prop) (t : Nm) (m : SM) (n0 : Nat) : List D → Sl → Store → SRes
  | [], δ, st => if keep st then .nx δ st else .bad
  | d :: ds, δ, st => if keep st then match t.put d δ with
      | some δ1 => match m δ1 st with
        | .nx δ' st' => match tidy n0 δ' st' with
          | some (δ2, st2) => loop keep t m n0 ds δ2 st2
          | none => .bad
        | .ct δ' st' => match tidy n0 δ' st' with
          | some (δ2, st2) => loop keep t m n0 ds δ2 st2
          | none => .bad
        | .bk δ' st' => .nx δ' st'
        | r => r
      | none => .bad
    else .bad
noncomputable def sFor (mi : IM) (t : Nm) (m : SM) : SM := fun δ st => sBind (mi δ st) δ fun k st1 => loop k.keep t m st1.length k.items δ st1
section
variable {X : Cx} {T : Tb} {W : WX} {tg iter : Expr} {body : List Stmt} {pos : Pos} {mi : IM} {t : Nm} {m : SM}
theorem ds_for (hp : PassesOwn (model X.prog X.w) X.A X.env X.xe) (hc : X.calm = true) (hi : DI X T W tg iter mi) (hg : DN X tg t) (hb : DB X T W body m) (hs : ∀ x, foldedSetIterable iter X.env x = pure x := by intro _; rfl) :
    DS X T W (.For tg iter body [] pos) (sFor mi t m) := by
  refine ⟨PS.imp (ps_for hp hc hi.pi hg.pg hb.ps hs) fun Dn σ H ⟨ρ, δ, st, ok, rs, h⟩ => ⟨ρ, δ, st, ok, rs, PostS.bind h rs fun k st1 J H1 ρ1 g1 ok1 wk h1 => ?_⟩⟩
  obtain ⟨dd, dvs, G, Y, rdd, wl, hG, hY⟩ := wk
  have kept : ∀ {H2 : Hp} {ρ2 : Wo} {ds : List D} {δ2 : Sl} {st2 : Store}, PostS X.K T W H2 ρ2 (loop k.keep t m st1.length ds δ2 st2) Dn → k.keep st2 := fun {H2 ρ2 ds δ2 st2} hh => by
    by_cases q : k.keep st2
    · exact q
    · cases ds with
      | nil => rw [loop, if_neg q] at hh; exact hh.elim
      | cons d ds => rw [loop, if_neg q] at hh; exact hh.elim
  refine for_it (D := Dn) (g := rN X.K t) (tb := rS X.K T W m) wl (fun i σ' H' => ∃ ρ' δ' st', Ok X.K T H' ρ' st' ∧ RS X.K H' ρ' δ' σ' ∧ Go H1 ρ1 H' ρ' ∧ ρ'.m.length = st1.length ∧ PostS X.K T W H' ρ' (loop k.keep t m st1.length (k.items.drop i) δ' st') Dn)
    ⟨ρ1, δ, st1, ok1, rs.go g1, Go.refl _ _, ok1.len, h1⟩ (fun i σ' H' _ ⟨ρ', δ', st', ok', rs', g', _, h'⟩ => hG H' ρ' st' ok' (RL.go g' _ _ rdd) (kept h')) ?_ ?_
  · rintro i x σ' H' H2 hlt ⟨ρ', δ', st', ok', rs', g', hl', h'⟩ hy
    have hk := kept h'
    have hd : k.items[i]? = some k.items[i] := List.getElem?_eq_getElem hlt
    obtain ⟨g2, ok2, r2⟩ := hY i k.items[i] H' ρ' st' x H2 ok' (RL.go g' _ _ rdd) hk hd hy
    rw [List.drop_eq_getElem_cons hlt, loop, if_pos hk] at h'
    split at h'
    · rename_i δ1 e1
      refine ⟨T, ρ', st', δ', δ1, k.items[i], ok2, rs'.go g2, r2, e1, fun σ2 rs2 _ => ⟨ρ', δ1, st', ok2, rs2, ?_⟩⟩
      replace h' := PostS.go h' g2
      have again : ∀ {δ3 : Sl} {st3 : Store}, PostS X.K T W H2 ρ' (match tidy st1.length δ3 st3 with | some (δ2, st2) => loop k.keep t m st1.length (k.items.drop (i + 1)) δ2 st2 | none => .bad) Dn → ∀ σ3 H3 ρ3, Go H2 ρ' H3 ρ3 → Ok X.K T H3 ρ3 st3 → RS X.K H3 ρ3 δ3 σ3 →
          ∃ ρ' δ' st', Ok X.K T H3 ρ' st' ∧ RS X.K H3 ρ' δ' σ3 ∧ Go H1 ρ1 H3 ρ' ∧ ρ'.m.length = st1.length ∧ PostS X.K T W H3 ρ' (loop k.keep t m st1.length (k.items.drop (i + 1)) δ' st') Dn := fun {δ3 st3} hh σ3 H3 ρ3 g3 ok3 rs3 => by
        split at hh
        · rename_i δ4 st4 e4
          rw [← hl'] at e4
          obtain ⟨ρ4, g4, l4, ok4, rs4⟩ := tidy_ok ok2.al g3 ok3 rs3 e4
          exact ⟨ρ4, δ4, st4, ok4, rs4, (g'.trans g2).trans g4, l4.trans hl', PostS.go hh g4⟩
        · exact hh.elim
      cases q : m δ1 st' with
      | nx δ3 st3 => rw [q] at h'; exact again h'
      | ct δ3 st3 => rw [q] at h'; exact again h'
      | bk δ3 st3 => rw [q] at h'; exact h'
      | rt d st3 => rw [q] at h'; exact h'
      | err C p δ3 st3 => rw [q] at h'; exact h'
      | bad => rw [q] at h'; exact h'
    · exact h'.elim
  · rintro σ' H' ⟨ρ', δ', st', ok', rs', g', _, h'⟩
    have hk := kept h'
    rw [List.drop_length, loop, if_pos hk] at h'
    exact h' σ' H' ρ' (Go.refl _ _) ok' rs'
end
/-! ### [e for x in .. if ..] -/
open Classical in
noncomputable def lcLoop (keep : Store → Prop) (t : Nm) (tt : TM) (m : EM) (δ : Sl) : List D → List D → Store → Res (List D)
  | [], acc, st => if keep st then .ok acc st else .bad
  | d :: ds, acc, st => if keep st ∧ acc.length ≤ 1000000 then match t.put d δ with
      | some δ1 => (tt δ1 st).bind fun b st1 => if b = true then (m δ1 st1).bind fun x st2 => lcLoop keep t tt m δ ds (acc ++ [x]) st2 else lcLoop keep t tt m δ ds acc st1
      | none => .bad
    else .bad
/-- places forgotten -/
def wipeD (δ : Sl) : List Nat → Sl
  | [] => δ
  | i :: is => (wipeD δ is).set i none
theorem RS.wipe {K : PySem.W.Frag} {H : Hp} {ρ : Wo} {δ : Sl} {σ : L2.St} (r : RS K H ρ δ σ) : ∀ is : List Nat, RS K H ρ (wipeD δ is) (L2.wipe σ is)
  | [] => r
  | _ :: is => (RS.wipe r is).unset
noncomputable def eLc (mi : IM) (t : Nm) (tt : TM) (m : EM) (own : List Nat) : EM := fun δ st => (mi δ st).bind fun k st1 => (lcLoop k.keep t tt m (wipeD δ own) k.items [] st1).bind fun xs st2 => .ok (.fl xs) st2
def tYesM : TM := fun _ st => .ok true st
structure DTs (X : Cx) (T : Tb) (W : WX) (ifs : List Expr) (m : TM) : Prop where
  pt : PTs X ifs (rT X.K T W m)
theorem dts_nil {X : Cx} {T : Tb} {W : WX} : DTs X T W [] tYesM := ⟨⟨fun pins s σ H Q I ⟨ρ, δ, st, ok, rs, h⟩ => pts_nil.run pins s σ H Q I (h.ok ok rfl)⟩⟩
theorem dts_one {X : Cx} {T : Tb} {W : WX} {c : Expr} {m : TM} (h : DT X T W c m) : DTs X T W [c] m := ⟨pts_one h.pt⟩
/-! ### one more thing that may change -/
section
variable {K : PySem.W.Frag} {T : Tb} {H : Hp} {ρ : Wo} {st : Store} {p : Addr} {o : HO}
def Wo.also (ρ : Wo) (p : Addr) : Wo := ⟨ρ.m, p :: ρ.x⟩
theorem Wo.also_has {ρ : Wo} {p a : Addr} (h : ¬ ρ.has a) (n : a ≠ p) : ¬ (ρ.also p).has a := fun z => z.elim (fun q => h (.inl q)) fun q => (List.mem_cons.mp q).elim n fun q => h (.inr q)
theorem Wo.of_also {ρ : Wo} {p a : Addr} (h : ¬ (ρ.also p).has a) : ¬ ρ.has a := fun z => h (z.elim .inl fun q => .inr (List.mem_cons_of_mem _ q))
mutual
theorem R.also (hp : H p = none) : ∀ (d : D) (v : V), R K H ρ d v → R K (upd H p o) (ρ.also p) d v
  | .non, _, h => h
  | .bl _, _, h => h
  | .int _, _, h => h
  | .str _, _, h => h
  | .ref _, _, h => h
  | .ty _, _, h => h
  | .tup ds, _, ⟨a, xs, e, s, r⟩ => ⟨a, xs, e, s.elim (fun ⟨z, n⟩ => by
      rcases z with z | ⟨u, z⟩
      · exact .inl ⟨.inl (by rw [upd_ne (ne_of_none z hp)]; exact z), Wo.also_has n (ne_of_none z hp)⟩
      · exact .inl ⟨.inr ⟨u, by rw [upd_ne (ne_of_none z hp)]; exact z⟩, Wo.also_has n (ne_of_none z hp)⟩) .inr, RL.also hp ds xs r⟩
  | .fl ds, _, ⟨a, xs, e, h, n, r⟩ => ⟨a, xs, e, by rw [upd_ne (ne_of_none h hp)]; exact h, Wo.also_has n (ne_of_none h hp), RL.also hp ds xs r⟩
  | .rl ds, _, ⟨a, u, xs, e, h, n, r⟩ => ⟨a, u, xs, e, by rw [upd_ne (ne_of_none h hp)]; exact h, Wo.also_has n (ne_of_none h hp), RL.also hp ds xs r⟩
  | .loc _, _, h => h
  | .obj C ns ds, _, ⟨a, dx, xs, e, h, n, l, r⟩ => ⟨a, dx, xs, e, by rw [upd_ne (ne_of_none h hp)]; exact h, Wo.also_has n (ne_of_none h hp), l, RL.also hp ds xs r⟩
theorem RL.also (hp : H p = none) : ∀ (ds : List D) (vs : List V), RL K H ρ ds vs → RL K (upd H p o) (ρ.also p) ds vs
  | [], _, h => h
  | d :: ds, _, ⟨v, r, e, h1, h2⟩ => ⟨v, r, e, R.also hp d v h1, RL.also hp ds r h2⟩
end
mutual
theorem R.less : ∀ (d : D) (v : V), R K H (ρ.also p) d v → R K H ρ d v
  | .non, _, h => h
  | .bl _, _, h => h
  | .int _, _, h => h
  | .str _, _, h => h
  | .ref _, _, h => h
  | .ty _, _, h => h
  | .tup ds, _, ⟨a, xs, e, s, r⟩ => ⟨a, xs, e, s.elim (fun ⟨z, n⟩ => .inl ⟨z, Wo.of_also n⟩) .inr, RL.less ds xs r⟩
  | .fl ds, _, ⟨a, xs, e, h, n, r⟩ => ⟨a, xs, e, h, Wo.of_also n, RL.less ds xs r⟩
  | .rl ds, _, ⟨a, u, xs, e, h, n, r⟩ => ⟨a, u, xs, e, h, Wo.of_also n, RL.less ds xs r⟩
  | .loc _, _, h => h
  | .obj C ns ds, _, ⟨a, dx, xs, e, h, n, l, r⟩ => ⟨a, dx, xs, e, h, Wo.of_also n, l, RL.less ds xs r⟩
theorem RL.less : ∀ (ds : List D) (vs : List V), RL K H (ρ.also p) ds vs → RL K H ρ ds vs
  | [], _, h => h
  | d :: ds, _, ⟨v, r, e, h1, h2⟩ => ⟨v, r, e, R.less d v h1, RL.less ds r h2⟩
end
theorem CellR.also (hp : H p = none) {a : Addr} : ∀ (c : Cell), CellR K H ρ a c → CellR K (upd H p o) (ρ.also p) a c
  | .lst ds, ⟨xs, h, r⟩ => ⟨xs, by rw [upd_ne (ne_of_none h hp)]; exact h, RL.also hp _ _ r⟩
  | .dk kds, ⟨kxs, h, e, r⟩ => ⟨kxs, by rw [upd_ne (ne_of_none h hp)]; exact h, e, RL.also hp _ _ r⟩
  | .obj C ns ds, ⟨dx, xs, h, l, r⟩ => ⟨dx, xs, by rw [upd_ne (ne_of_none h hp)]; exact h, l, RL.also hp _ _ r⟩
theorem CellR.less {a : Addr} : ∀ (c : Cell), CellR K H (ρ.also p) a c → CellR K H ρ a c
  | .lst ds, ⟨xs, h, r⟩ => ⟨xs, h, RL.less _ _ r⟩
  | .dk kds, ⟨kxs, h, e, r⟩ => ⟨kxs, h, e, RL.less _ _ r⟩
  | .obj C ns ds, ⟨dx, xs, h, l, r⟩ => ⟨dx, xs, h, l, RL.less _ _ r⟩
theorem Tb.Al.also (x : T.Al K H ρ) (hp : H p = none) : T.Al K (upd H p o) (ρ.also p) :=
  ⟨fun q hq => let ⟨h, n, t⟩ := x.o q hq; ⟨by rw [upd_ne (ne_of_none h hp)]; exact h, fun z => by
    rcases z with z | z
    · exact n (.inl z)
    · rcases List.mem_cons.mp z with e | z
      · rw [e, hp] at h; cases h
      · exact n (.inr z), t⟩, fun q hq => R.also hp _ _ (x.v q hq)⟩
theorem Tb.Al.less (x : T.Al K H (ρ.also p)) : T.Al K H ρ := ⟨fun q hq => let ⟨h, n, t⟩ := x.o q hq; ⟨h, Wo.of_also n, t⟩, fun q hq => R.less _ _ (x.v q hq)⟩
theorem Ok.also (ok : Ok K T H ρ st) (hp : H p = none) (ho : cellO o = true) : Ok K T (upd H p o) (ρ.also p) st :=
  ⟨ok.len, ok.nd, fun n a c h1 h2 => (ok.cell n a c h1 h2).also hp, ok.tab.ext fun b u e => by rw [upd_ne (ne_of_none e hp)]; exact e, fun a ha => by
    rcases List.mem_cons.mp ha with rfl | ha
    · exact ⟨⟨o, upd_same, ho⟩, fun z => ok.new hp (.inl z)⟩
    · obtain ⟨⟨u, e, z⟩, n⟩ := ok.ext a ha
      exact ⟨⟨u, by rw [upd_ne (ne_of_none e hp)]; exact e, z⟩, n⟩, ok.al.also hp⟩
theorem Ok.less (ok : Ok K T H (ρ.also p) st) : Ok K T H ρ st :=
  ⟨ok.len, ok.nd, fun n a c h1 h2 => (ok.cell n a c h1 h2).less, ok.tab, fun a ha => ok.ext a (List.mem_cons_of_mem _ ha), ok.al.less⟩
theorem RS.also {δ : Sl} {σ : L2.St} (r : RS K H ρ δ σ) (hp : H p = none) : RS K (upd H p o) (ρ.also p) δ σ := ⟨r.len, fun i d e => let ⟨v, h1, h2⟩ := r.at' i d e; ⟨v, h1, R.also hp d v h2⟩⟩
/-- it changes -/
theorem ne_has {a p : Addr} (h : p ∈ ρ.x) (n : ¬ ρ.has a) : a ≠ p := fun z => n (.inr (z ▸ h))
mutual
theorem R.chg (hp : p ∈ ρ.x) : ∀ (d : D) (v : V), R K H ρ d v → R K (upd H p o) ρ d v
  | .non, _, h => h
  | .bl _, _, h => h
  | .int _, _, h => h
  | .str _, _, h => h
  | .ref _, _, h => h
  | .ty _, _, h => h
  | .tup ds, _, ⟨a, xs, e, s, r⟩ => ⟨a, xs, e, s.elim (fun ⟨z, n⟩ => by
      rcases z with z | ⟨u, z⟩
      · exact .inl ⟨.inl (by rw [upd_ne (ne_has hp n)]; exact z), n⟩
      · exact .inl ⟨.inr ⟨u, by rw [upd_ne (ne_has hp n)]; exact z⟩, n⟩) .inr, RL.chg hp ds xs r⟩
  | .fl ds, _, ⟨a, xs, e, h, n, r⟩ => ⟨a, xs, e, by rw [upd_ne (ne_has hp n)]; exact h, n, RL.chg hp ds xs r⟩
  | .rl ds, _, ⟨a, u, xs, e, h, n, r⟩ => ⟨a, u, xs, e, by rw [upd_ne (ne_has hp n)]; exact h, n, RL.chg hp ds xs r⟩
  | .loc _, _, h => h
  | .obj C ns ds, _, ⟨a, dx, xs, e, h, n, l, r⟩ => ⟨a, dx, xs, e, by rw [upd_ne (ne_has hp n)]; exact h, n, l, RL.chg hp ds xs r⟩
theorem RL.chg (hp : p ∈ ρ.x) : ∀ (ds : List D) (vs : List V), RL K H ρ ds vs → RL K (upd H p o) ρ ds vs
  | [], _, h => h
  | d :: ds, _, ⟨v, r, e, h1, h2⟩ => ⟨v, r, e, R.chg hp d v h1, RL.chg hp ds r h2⟩
end
theorem Tb.Al.chg (x : T.Al K H ρ) (hp : p ∈ ρ.x) : T.Al K (upd H p o) ρ := ⟨fun q hq => let ⟨h, n, t⟩ := x.o q hq; ⟨by rw [upd_ne (ne_has hp n)]; exact h, n, t⟩, fun q hq => R.chg hp _ _ (x.v q hq)⟩
theorem CellR.chg (hp : p ∈ ρ.x) {a : Addr} (n : a ≠ p) : ∀ (c : Cell), CellR K H ρ a c → CellR K (upd H p o) ρ a c
  | .lst ds, ⟨xs, h, r⟩ => ⟨xs, by rw [upd_ne n]; exact h, RL.chg hp _ _ r⟩
  | .dk kds, ⟨kxs, h, e, r⟩ => ⟨kxs, by rw [upd_ne n]; exact h, e, RL.chg hp _ _ r⟩
  | .obj C ns ds, ⟨dx, xs, h, l, r⟩ => ⟨dx, xs, by rw [upd_ne n]; exact h, l, RL.chg hp _ _ r⟩
end
end L3

/-! ### text Lg -/
namespace L3
open PySem PySem.Spec PyProof.Rows L2

section
variable {K : PySem.W.Frag} {T : Tb} {H : Hp} {ρ : Wo} {st : Store} {p : Addr} {o : HO}
theorem tabs_chg {tabs : List NdefX.NTab} (t : NdefX.TabsN tabs H) {xs : List V} (hp : H p = some (.lst xs)) : NdefX.TabsN tabs (upd H p o) := fun q hq => by
  obtain ⟨ps, h1, h2, h3⟩ := t q hq
  refine ⟨ps, by rw [upd_ne (fun z => by rw [z, hp] at h1; cases h1)]; exact h1, h2, fun pos cv hc => ?_⟩
  obtain ⟨c, e1, e2⟩ := h3 pos cv hc
  exact ⟨c, e1, by rw [upd_ne (fun z => by rw [z, hp] at e2; unfold LamX.CodeO at e2; cases e2)]; exact e2⟩
theorem Ok.chg (ok : Ok K T H ρ st) (hp : p ∈ ρ.x) {xs : List V} (h : H p = some (.lst xs)) (ho : cellO o = true) : Ok K T (upd H p o) ρ st :=
  ⟨ok.len, ok.nd, fun n a c h1 h2 => (ok.cell n a c h1 h2).chg hp (fun z => (ok.ext p hp).2 (z ▸ List.mem_of_getElem? h1)), tabs_chg ok.tab h, fun a ha => by
    by_cases q : a = p
    · subst q; exact ⟨⟨o, upd_same, ho⟩, (ok.ext a ha).2⟩
    · obtain ⟨⟨u, e, z⟩, n⟩ := ok.ext a ha
      exact ⟨⟨u, by rw [upd_ne q]; exact e, z⟩, n⟩, ok.al.chg hp⟩
theorem RS.chg {δ : Sl} {σ : L2.St} (r : RS K H ρ δ σ) (hp : p ∈ ρ.x) : RS K (upd H p o) ρ δ σ := ⟨r.len, fun i d e => let ⟨v, h1, h2⟩ := r.at' i d e; ⟨v, h1, R.chg hp d v h2⟩⟩
/-- from a world with one more thing that may change -/
theorem Go.less {H1 H2 : Hp} {ρ1 ρ2 : Wo} (g : Go H ρ H1 ρ1) (hp : H p = none) (g2 : Go H1 (ρ1.also p) H2 ρ2) : ∃ ρ3, ρ2 = ρ3.also p ∧ Go H ρ H2 ρ3 := by
  obtain ⟨m2, x2⟩ := ρ2
  have ex : x2 = p :: ρ1.x := g2.ex
  subst ex
  refine ⟨⟨m2, ρ1.x⟩, rfl, ?_⟩
  obtain ⟨n1, e1, f1⟩ := id g.pre
  obtain ⟨n2, e2, f2⟩ := id g2.pre
  refine ⟨⟨n1 ++ n2, ?_, fun a ha => ?_⟩, g.ex, fun a u h n nt => ?_, fun a h => g.there a (g2.there a h)⟩
  · show m2 = ρ.m ++ (n1 ++ n2)
    rw [show m2 = ρ1.m ++ n2 from e2, e1, List.append_assoc]
  · rcases List.mem_append.mp ha with h | h
    · exact f1 a h
    · exact g.there a (f2 a h)
  · exact g2.keep a u (g.keep a u h n nt) (g.notInM h n) nt
/-- .. and it changes -/
theorem Go.lessC {H1 : Hp} {ρ1 : Wo} (g : Go H ρ H1 ρ1) (hp : H p = none) {u : HO} (h1 : H1 p = some u) : Go H ρ (upd H1 p o) ρ1 :=
  ⟨g.pre, g.ex, fun a v h n nt => by rw [upd_ne (ne_of_none h hp)]; exact g.keep a v h n nt, fun a h => by
    by_cases q : a = p
    · subst q; exact hp
    · rw [upd_ne q] at h; exact g.there a h⟩
end
/-- nothing is let out -/
abbrev W0 : WX := fun _ _ _ _ => False
def noErr {α : Type} (r : Res α) : Res α := match r with
  | .err _ _ _ => .bad
  | r => r
theorem Post.noErr {K : PySem.W.Frag} {T : Tb} {W : WX} {α β : Type} {Rel : Hp → Wo → α → β → Prop} {σ σ' : L2.St} {H : Hp} {ρ : Wo} {r : Res α} {Q : β → Hp → Prop} (h : Post K T W Rel σ H ρ (L3.noErr r) Q) : Post K T W0 Rel σ' H ρ r Q := by
  cases r with
  | ok a st => exact h
  | err C p st => exact h.elim
  | bad => exact h
open Classical in
noncomputable def lcL (keep : Store → Prop) (t : Nm) (tt : TM) (m : EM) (δ : Sl) : List D → List D → Store → Res (List D)
  | [], acc, st => if keep st then .ok acc st else .bad
  | d :: ds, acc, st => if keep st ∧ acc.length ≤ 1000000 then match t.put d δ with
      | some δ1 => (noErr (tt δ1 st)).bind fun b st1 => if b = true then (noErr (m δ1 st1)).bind fun x st2 => lcL keep t tt m δ ds (acc ++ [x]) st2 else lcL keep t tt m δ ds acc st1
      | none => .bad
    else .bad
noncomputable def eLC (mi : IM) (t : Nm) (tt : TM) (m : EM) (own : List Nat) : EM := fun δ st => (mi δ st).bind fun k st1 => (lcL k.keep t tt m (wipeD δ own) k.items [] st1).bind fun xs st2 => .ok (.fl xs) st2
theorem wipe_idem (σ : L2.St) (is : List Nat) : wipe (wipe σ is) is = wipe σ is := by
  refine List.ext_getElem? fun k => ?_
  by_cases hk : k < σ.length
  · rw [wipe_get _ _ _ (by rw [wipe_length]; exact hk), wipe_get _ _ _ hk]
    by_cases h : k ∈ is
    · rw [if_pos h, if_pos h]
    · rw [if_neg h]
  · rw [List.getElem?_eq_none (by rw [wipe_length, wipe_length]; omega), List.getElem?_eq_none (by rw [wipe_length]; omega)]
section
variable {X : Cx} {T : Tb} {W : WX} {elt tg iter c : Expr} {ifs : List Expr} {scope : Scope} {own : List (Str × Nat)} {pos p1 : Pos} {mi : IM} {t : Nm} {m : EM} {tt : TM}
/-- the reading of a comprehension -/
theorem lc_read (hsub : ∀ i ∈ t.slots, i ∈ own.map (·.2)) {σ : L2.St} {H : Hp} {Q : VK} (h : rE X.K T W (eLC mi t tt m (own.map (·.2))) σ H Q) :
    tLc (fun σ H Rr => ∃ ρ δ st, Ok X.K T H ρ st ∧ RS X.K H ρ δ σ ∧ Post X.K T W (fun H ρ k J => WkR X.K T H ρ k J) σ H ρ (mi δ st) Rr) (rN X.K t) (rT X.K T W0 tt) (rE X.K T W0 m) (own.map (·.2)) σ H Q := by
  obtain ⟨ρ, δ, st, ok, rs, h⟩ := h
  refine ⟨ρ, δ, st, ok, rs, Post.bind h fun k st1 J H1 ρ1 g1 ok1 wk h1 dst hD => ?_⟩
  obtain ⟨dd, dvs, G, Y, rdd, wl, hG, hY⟩ := wk
  have rs1 := rs.go g1
  have kept : ∀ {ds acc : List D} {st2 : Store}, Post X.K T W (R X.K) σ H1 ρ1 ((lcL k.keep t tt m (wipeD δ (own.map (·.2))) ds acc st2).bind fun xs st2 => .ok (.fl xs) st2) Q → k.keep st2 := fun {ds acc st2} hh => by
    by_cases q : k.keep st2
    · exact q
    · cases ds with
      | nil => rw [lcL, if_neg q] at hh; exact hh.elim
      | cons d ds => rw [lcL, if_neg (fun z => q z.1)] at hh; exact hh.elim
  refine lc_it (g := rN X.K t) (tt := rT X.K T W0 tt) (te := rE X.K T W0 m) wl (fun i H' => ∃ ρ' acc vs st', Go H1 ρ1 H' ρ' ∧ Ok X.K T H' (ρ'.also dst) st' ∧ H' dst = some (.lst vs) ∧ RL X.K H' (ρ'.also dst) acc vs ∧ RS X.K H' (ρ'.also dst) (wipeD δ (own.map (·.2))) (wipe σ (own.map (·.2))) ∧
      RL X.K H' (ρ'.also dst) dd dvs ∧ Post X.K T W (R X.K) σ H1 ρ1 ((lcL k.keep t tt m (wipeD δ (own.map (·.2))) (k.items.drop i) acc st').bind fun xs st2 => .ok (.fl xs) st2) Q)
    ⟨ρ1, [], [], st1, go_new hD, ok1.also hD rfl, upd_same, rfl, (rs1.wipe _).also hD, RL.also hD _ _ rdd, h1⟩
    (fun i H' _ ⟨ρ', acc, vs, st', g', ok', hv, ra, rs', rd', h'⟩ => hG H' _ st' ok' rd' (kept h')) ?_ ?_
  · rintro i x H' H2 hlt ⟨ρ', acc, vs, st', g', ok', hv, ra, rs', rd', h'⟩ hy
    have hk := kept h'
    have hd : k.items[i]? = some k.items[i] := List.getElem?_eq_getElem hlt
    obtain ⟨g2, ok2, r2⟩ := hY i k.items[i] H' _ st' x H2 ok' rd' hk hd hy
    have nD : ∀ {ρ3 : Wo} {H3 : Hp} {st3 : Store}, Ok X.K T H3 (ρ3.also dst) st3 → dst ∉ (ρ3.also dst).m := fun {ρ3 H3 st3} o3 => (o3.ext dst List.mem_cons_self).2
    have hv2 : H2 dst = some (.lst vs) := g2.keep dst _ hv (nD ok') (fun ps q => by cases q)
    rw [List.drop_eq_getElem_cons hlt, lcL] at h'
    by_cases hz : k.keep st' ∧ acc.length ≤ 1000000
    · rw [if_pos hz] at h'
      cases e1 : t.put k.items[i] (wipeD δ (own.map (·.2))) with
      | none => rw [e1] at h'; exact h'.elim
      | some δ1 =>
        rw [e1] at h'
        simp only at h'
        refine ⟨T, ρ'.also dst, st', _, δ1, k.items[i], ok2, rs'.go g2, r2, e1, fun σ2 rs2 w2 => ⟨?_, ρ'.also dst, δ1, st', ok2, rs2, ?_⟩⟩
        · exact (wipe_mono w2 hsub).trans (wipe_idem _ _)
        · cases q : tt δ1 st' with
          | bad => rw [q] at h'; exact h'.elim
          | err C p st3 => rw [q] at h'; exact h'.elim
          | ok b st3 =>
            rw [q] at h'
            intro b' H3 ρ3 g3 ok3 e3
            subst e3
            obtain ⟨ρ4, rfl, g4⟩ := Go.less g' hD (g2.trans g3)
            have hv3 : H3 dst = some (.lst vs) := g3.keep dst _ hv2 (nD ok2) (fun ps q => by cases q)
            replace h' : Post X.K T W (R X.K) σ H1 ρ1 ((if b = true then (noErr (m δ1 st3)).bind fun x st2 => lcL k.keep t tt m (wipeD δ (own.map (·.2))) (k.items.drop (i + 1)) (acc ++ [x]) st2 else lcL k.keep t tt m (wipeD δ (own.map (·.2))) (k.items.drop (i + 1)) acc st3).bind fun xs st2 => .ok (.fl xs) st2) Q := h'
            cases b with
            | false =>
              exact ⟨ρ4, acc, vs, st3, g4, ok3, hv3, RL.go (g2.trans g3) _ _ ra, (rs'.go g2).go g3, RL.go (g2.trans g3) _ _ rd', h'⟩
            | true =>
              rw [if_pos rfl] at h'
              refine ⟨ρ4.also dst, δ1, st3, ok3, rs2.go g3, ?_⟩
              cases q2 : m δ1 st3 with
              | bad => rw [q2] at h'; exact h'.elim
              | err C p st4 => rw [q2] at h'; exact h'.elim
              | ok y st4 =>
                rw [q2] at h'
                intro v H5 ρ5 g5 ok5 ry
                obtain ⟨ρ6, rfl, g6⟩ := Go.less g4 hD g5
                have hv5 : H5 dst = some (.lst vs) := g5.keep dst _ hv3 (nD ok3) (fun ps q => by cases q)
                have mD : dst ∈ (ρ6.also dst).x := List.mem_cons_self
                have ga := (g2.trans g3).trans g5
                refine ⟨vs, hv5, Nat.lt_of_le_of_lt (by rw [ra.len]; exact hz.2) (by rw [sizeLine_eq]; decide), ρ6, acc ++ [y], vs ++ [v], st4, g6.lessC hD hv5, ok5.chg mD hv5 rfl, upd_same, ?_, ?_, ?_, h'⟩
                · exact RL.chg mD _ _ ((RL.go ga _ _ ra).append ⟨v, [], rfl, ry, rfl⟩)
                · exact (rs'.go ga).chg mD
                · exact RL.chg mD _ _ (RL.go ga _ _ rd')
    · rw [if_neg hz] at h'; exact h'.elim
  · rintro H' ⟨ρ', acc, vs, st', g', ok', hv, ra, rs', rd', h'⟩
    have hk := kept h'
    rw [List.drop_length, lcL, if_pos hk] at h'
    refine h' (.ref dst) H' ρ' g' ok'.less ⟨dst, vs, rfl, hv, fun z => ?_, RL.less _ _ ra⟩
    rcases z with z | z
    · exact (ok'.ext dst List.mem_cons_self).2 z
    · rw [g'.ex] at z
      exact ok1.new hD (.inr z)
theorem de_lc (hc : X.calm = true) (hN : X.N.Nodup) (hi : DI X T W tg iter mi) (ok : BlkOk X.N X.env.scope scope own) (hsub : ∀ i ∈ t.slots, i ∈ own.map (·.2))
    (hg : ∀ (s : Shared) (H : Hp) (C : Addr) (cl : List (Str × Addr)) (fp : List Addr), DN (X.blk s H scope (compEnvC scope cl C X.env) fp) tg t)
    (ht : ∀ (s : Shared) (H : Hp) (C : Addr) (cl : List (Str × Addr)) (fp : List Addr), DTs (X.blk s H scope (compEnvC scope cl C X.env) fp) T W0 ifs tt)
    (he : ∀ (s : Shared) (H : Hp) (C : Addr) (cl : List (Str × Addr)) (fp : List Addr), DE (X.blk s H scope (compEnvC scope cl C X.env) fp) T W0 elt m) (hs : ∀ x, foldedSetIterable iter X.env x = pure x := by intro _; rfl) :
    DE X T W (.ListComp elt [⟨tg, iter, ifs, 0⟩] scope pos) (eLC mi t tt m (own.map (·.2))) :=
  ⟨PE.imp (pe_lc hc hN hi.pi ok (fun s H C cl fp => (hg s H C cl fp).pg) (fun s H C cl fp => (ht s H C cl fp).pt) (fun s H C cl fp => (he s H C cl fp).pe) hs) fun _ _ _ h => lc_read hsub h⟩
/-- name = [..] on one line -/
theorem ds_setLc {i : Nat} {y : Str} {py spos : Pos} (hc : X.calm = true) (hN : X.N.Nodup) (hy : X.N[i]? = some y) (hyl : X.env.scope.names.lookup y = some .local)
    (hsw : swapsWith (.ListComp elt [⟨tg, iter, ifs, 0⟩] scope pos) (some (.Name y py)) spos.line X.env = pure true) (hi : DI X T W tg iter mi) (ok : BlkOk X.N X.env.scope scope own) (hsub : ∀ i ∈ t.slots, i ∈ own.map (·.2))
    (hg : ∀ (s : Shared) (H : Hp) (C : Addr) (cl : List (Str × Addr)) (fp : List Addr), DN (X.blk s H scope (compEnvC scope cl C X.env) fp) tg t)
    (ht : ∀ (s : Shared) (H : Hp) (C : Addr) (cl : List (Str × Addr)) (fp : List Addr), DTs (X.blk s H scope (compEnvC scope cl C X.env) fp) T W0 ifs tt)
    (he : ∀ (s : Shared) (H : Hp) (C : Addr) (cl : List (Str × Addr)) (fp : List Addr), DE (X.blk s H scope (compEnvC scope cl C X.env) fp) T W0 elt m) (hs : ∀ x, foldedSetIterable iter X.env x = pure x := by intro _; rfl) :
    DS X T W (.Assign [.Name y py] (.ListComp elt [⟨tg, iter, ifs, 0⟩] scope pos) spos) (sSet i (eLC mi t tt m (own.map (·.2)))) :=
  ⟨PS.imp (ps_setLc hc hN hy hyl hsw hi.pi ok (fun s H C cl fp => (hg s H C cl fp).pg) (fun s H C cl fp => (ht s H C cl fp).pt) (fun s H C cl fp => (he s H C cl fp).pe) hs) fun D σ H ⟨ρ, δ, st, ok, rs, h⟩ =>
    lc_read hsub ⟨ρ, δ, st, ok, rs, PostS.bind h rs fun x st1 v H1 ρ1 g1 ok1 rx h1 => h1 _ H1 ρ1 (Go.refl _ _) ok1 ((rs.go g1).set rx)⟩⟩
end
end L3

/-! ### text Lh -/
namespace L3
open PySem PySem.Spec PyProof.Rows L2

/-! ### the store grows, a thing of it changes -/
section
variable {K : PySem.W.Frag} {T : Tb} {H : Hp} {ρ : Wo} {st : Store} {p a : Addr} {o : HO} {c c' : Cell} {n : Nat}
def Wo.more (ρ : Wo) (p : Addr) : Wo := ⟨ρ.m ++ [p], ρ.x⟩
theorem go_more (ok : Ok K T H ρ st) (hp : H p = none) : Go H ρ (upd H p o) (ρ.more p) :=
  ⟨⟨[p], rfl, fun a ha => by rw [List.mem_singleton.mp ha]; exact hp⟩, rfl, fun a u e _ _ => by rw [upd_ne (ne_of_none e hp)]; exact e, fun a e => by
    by_cases q : a = p
    · subst q; rw [upd_same] at e; cases e
    · rw [upd_ne q] at e; exact e⟩
theorem Ok.more (ok : Ok K T H ρ st) (hp : H p = none) (hc : CellR K (upd H p o) (ρ.more p) p c) : Ok K T (upd H p o) (ρ.more p) (st ++ [c]) := by
  refine ⟨by show (ρ.m ++ [p]).length = _; simp [ok.len], ?_, fun n a x h1 h2 => ?_, ok.tab.ext fun b u e => by rw [upd_ne (ne_of_none e hp)]; exact e, fun a ha => ?_, ok.al.go (go_more ok hp)⟩
  · show (ρ.m ++ [p]).Nodup
    rw [List.nodup_append]
    exact ⟨ok.nd, by simp, fun a ha b hb => by rw [List.mem_singleton.mp hb]; rintro rfl; exact ok.new hp (.inl ha)⟩
  · replace h1 : (ρ.m ++ [p])[n]? = some a := h1
    by_cases hn : n < ρ.m.length
    · rw [List.getElem?_append_left hn] at h1
      rw [List.getElem?_append_left (by rw [← ok.len]; exact hn)] at h2
      exact (ok.cell n a x h1 h2).go (go_more ok hp) fun u e => by rw [upd_ne (ne_of_none e hp)]; exact e
    · rw [List.getElem?_append_right (by omega)] at h1
      rw [List.getElem?_append_right (by rw [← ok.len]; omega)] at h2
      rw [← ok.len] at h2
      cases q : n - ρ.m.length with
      | zero => rw [q] at h1 h2; simp at h1 h2; subst h1 h2; exact hc
      | succ j => rw [q] at h1; simp at h1
  · obtain ⟨⟨u, e, ze⟩, n⟩ := ok.ext a ha
    refine ⟨⟨u, by rw [upd_ne (ne_of_none e hp)]; exact e, ze⟩, fun z => ?_⟩
    rcases List.mem_append.mp (show a ∈ ρ.m ++ [p] from z) with z | z
    · exact n z
    · rw [List.mem_singleton.mp z, hp] at e; cases e
theorem CellR.cellO {c : Cell} (h : CellR K H ρ a c) : ∃ o, H a = some o ∧ L3.cellO o = true := by
  cases c with
  | lst ds => obtain ⟨xs, h, _⟩ := h; exact ⟨_, h, rfl⟩
  | dk ds => obtain ⟨xs, h, _⟩ := h; exact ⟨_, h, rfl⟩
  | obj C ns ds => obtain ⟨dx, xs, h, _⟩ := h; exact ⟨_, h, rfl⟩
theorem tabs_chgO {tabs : List NdefX.NTab} (t : NdefX.TabsN tabs H) {u : HO} (hp : H p = some u) (hu : cellO u = true) : NdefX.TabsN tabs (upd H p o) := fun q hq => by
  obtain ⟨ps, h1, h2, h3⟩ := t q hq
  refine ⟨ps, by rw [upd_ne (fun z => by rw [z, hp] at h1; cases h1; cases hu)]; exact h1, h2, fun pos cv hc => ?_⟩
  obtain ⟨c, e1, e2⟩ := h3 pos cv hc
  exact ⟨c, e1, by rw [upd_ne (fun z => by rw [z, hp] at e2; unfold LamX.CodeO at e2; cases e2; cases hu)]; exact e2⟩
theorem go_put (h1 : ρ.m[n]? = some a) (he : ∃ u, H a = some u) : Go H ρ (upd H a o) ρ :=
  ⟨⟨[], by simp, by simp⟩, rfl, fun b u e hn _ => by rw [upd_ne (fun z => hn (by rw [z]; exact List.mem_of_getElem? h1))]; exact e, fun b e => by
    by_cases q : b = a
    · subst q; rw [upd_same] at e; cases e
    · rw [upd_ne q] at e; exact e⟩
theorem Ok.put (ok : Ok K T H ρ st) (h1 : ρ.m[n]? = some a) (h2 : st[n]? = some c) (hc : CellR K (upd H a o) ρ a c') : Ok K T (upd H a o) ρ (st.set n c') := by
  obtain ⟨u, hu, hk⟩ := (ok.cell n a c h1 h2).cellO
  have g := go_put (H := H) (o := o) h1 ⟨u, hu⟩
  have hn : n < st.length := (List.getElem?_eq_some_iff.mp h2).1
  refine ⟨by rw [List.length_set]; exact ok.len, ok.nd, fun j b x q1 q2 => ?_, tabs_chgO ok.tab hu hk, fun b hb => ?_, ok.al.go g⟩
  · by_cases hj : n = j
    · subst hj
      rw [h1] at q1
      cases q1
      rw [List.getElem?_set_self hn] at q2
      cases q2
      exact hc
    · rw [List.getElem?_set_ne hj] at q2
      refine (ok.cell j b x q1 q2).go g fun v e => ?_
      rw [upd_ne (fun z => ?_)]
      · exact e
      · obtain ⟨l1, e1⟩ := List.getElem?_eq_some_iff.mp h1
        obtain ⟨l2, e2⟩ := List.getElem?_eq_some_iff.mp q1
        exact hj ((List.getElem_inj ok.nd).mp (e1.trans (z.symm.trans e2.symm)))
  · obtain ⟨⟨v, e, ze⟩, m⟩ := ok.ext b hb
    exact ⟨⟨v, by rw [upd_ne (fun z => m (by rw [z]; exact List.mem_of_getElem? h1))]; exact e, ze⟩, m⟩
end
section
variable {X : Cx} {T : Tb} {W : WX} {a b c e o i tg : Expr} {es : List Expr} {s : Stmt} {ss s1 s2 body : List Stmt} {ma mb mc me mo mi : EM} {mas : AM} {mt mu : TM} {m n : SM} {pos p1 p2 apos cpos tpos : Pos}
/-- a list that may change -/
def eLstN (m : AM) : EM := fun δ st => (m δ st).bind fun xs st1 => if xs.length ≤ 1000000 then .ok (.loc st1.length) (st1 ++ [.lst xs]) else .bad
theorem Post.newN {K : PySem.W.Frag} {σ : L2.St} {H : Hp} {ρ : Wo} {st : Store} {Q : VK} {ds : List D} {xs : List V} (ok : Ok K T H ρ st) (r : RL K H ρ ds xs) (h : Post K T W (R K) σ H ρ (.ok (.loc st.length) (st ++ [.lst ds])) Q) : ∀ p, H p = none → Q (.ref p) (upd H p (.lst xs)) := fun p hp =>
  h (.ref p) _ (ρ.more p) (go_more ok hp) (ok.more hp ⟨xs, upd_same, RL.go (go_more ok hp) _ _ r⟩) ⟨p, rfl, by show (ρ.m ++ [p])[st.length]? = _; rw [← ok.len]; simp⟩
theorem de_lstN (h : DA X T W es mas) : DE X T W (.List es pos) (eLstN mas) :=
  ⟨PE.imp (pe_lst h.pa) fun σ H Q ⟨ρ, δ, st, ok, rs, h⟩ => ⟨ρ, δ, st, ok, rs, Post.bind h fun xs st1 vs H1 ρ1 g1 ok1 rx h1 => by
    split at h1
    · rename_i hz
      exact ⟨line1 (by rw [rx.len]; exact hz), Post.newN ok1 rx h1⟩
    · exact h1.elim⟩⟩
/-! ### x[i] = e -/
def dSetIx (o i d : D) (st : Store) : Option Store := match o, i with
  | .loc n, .int k => match st[n]? with
    | some (.lst xs) => match ixN xs.length k with
      | some j => some (st.set n (.lst (xs.set j d)))
      | none => none
    | _ => none
  | _, _ => none
def gSubM (mo mi : EM) : GM := fun d δ st => sBind (mo δ st) δ fun o st1 => sBind (mi δ st1) δ fun i st2 => match dSetIx o i d st2 with
  | some st3 => .nx δ st3
  | none => .bad
/-- o[i] = v is stored as it is written -/
def SubPlain (X : Cx) (o i : Expr) (pos : Pos) : Prop := ∀ v, assign (.Subscript o i pos) X.env v = (do let ov ← holding [v] (eval o X.env); let iv ← holding [v, ov] (eval i X.env); standAt pos; holding [v, ov, iv] (setItem ov iv v); release [v, ov, iv] [])
theorem dg_sub (ho : DE X T W o mo) (hi : DE X T W i mi) (hA : SubPlain X o i pos := by intro _; rfl) : DG X T W (.Subscript o i pos) (gSubM mo mi) :=
  ⟨PG.imp (pg_sub ho.pe hi.pe set_list hA) fun v σ H Q ⟨ρ, δ, st, d, ok, rs, rd, h⟩ => ⟨ρ, δ, st, ok, rs, PostS.bind h rs fun x st1 xv H1 ρ1 g1 ok1 rx h1 => ⟨ρ1, δ, st1, ok1, rs.go g1, PostS.bind h1 (rs.go g1) fun y st2 yv H2 ρ2 g2 ok2 ry h2 => by
    have rd2 := R.go (g1.trans g2) d v rd
    have rs2 := rs.go (g1.trans g2)
    replace rx := R.go g2 x xv rx
    split at h2
    · rename_i st3 e
      unfold dSetIx at e
      split at e
      · rename_i n k
        split at e
        · rename_i xs q
          split at e
          · rename_i j ej
            cases e
            cases ry
            obtain ⟨a, rfl, ha, ys, hy, ry⟩ := locAt ok2 rx q
            have g := go_put (H := H2) (o := .lst (ys.set j v)) ha ⟨_, hy⟩
            refine ⟨a, ys, k, j, rfl, rfl, hy, by rw [ry.len]; exact ej, ?_⟩
            exact h2 σ _ ρ2 g (ok2.put ha q ⟨_, upd_same, RL.set (R.go g d v rd2) j (RL.go g _ _ ry)⟩) (rs2.go g)
          · cases e
        · cases e
      · cases e
    · exact h2.elim⟩⟩⟩
/-! ### targets side by side, of any kind -/
abbrev GMs := List D → Sl → Store → SRes
def rGs (K : PySem.W.Frag) (T : Tb) (W : WX) (g : GMs) : TGs := fun vs σ H Q => ∃ ρ δ st ds, Ok K T H ρ st ∧ RS K H ρ δ σ ∧ RL K H ρ ds vs ∧ PostS K T W H ρ (g ds δ st) { nx := Q, rt := fun _ _ => False }
structure DGs (X : Cx) (T : Tb) (W : WX) (tgs : List Expr) (g : GMs) : Prop where
  pg : PGs X tgs (rGs X.K T W g)
def gsNil : GMs := fun ds δ st => match ds with
  | [] => .nx δ st
  | _ => .bad
def gsCons (g : GM) (gs : GMs) : GMs := fun ds δ st => match ds with
  | d :: ds => match g d δ st with
    | .nx δ' st' => gs ds δ' st'
    | .err C p δ' st' => .err C p δ' st'
    | _ => .bad
  | _ => .bad
theorem dgs_nil : DGs X T W [] gsNil := ⟨PGs.imp pgs_nil fun vs σ H Q ⟨ρ, δ, st, ds, ok, rs, rd, h⟩ => by
  unfold gsNil at h
  split at h
  · exact ⟨rd, h σ H ρ (Go.refl _ _) ok rs⟩
  · exact h.elim⟩
theorem dgs_cons {g : GM} {gs : GMs} (h1 : DG X T W e g) (h2 : DGs X T W es gs) (hs : (assignEach (e :: es) X.env).map (·.2) = assign e X.env :: (assignEach es X.env).map (·.2) := by rfl) : DGs X T W (e :: es) (gsCons g gs) :=
  ⟨PGs.imp (pgs_cons h1.pg h2.pg hs) fun vs σ H Q ⟨ρ, δ, st, ds, ok, rs, rd, h⟩ => by
    unfold gsCons at h
    split at h
    · rename_i d ds
      obtain ⟨v, r, rfl, r1, r2⟩ := rd
      refine ⟨v, r, rfl, ρ, δ, st, d, ok, rs, r1, ?_⟩
      cases q : g d δ st with
      | nx δ' st' => rw [q] at h; exact fun σ' H' ρ' g' ok' rs' => ⟨ρ', δ', st', ds, ok', rs', RL.go g' _ _ r2, PostS.go h g'⟩
      | err C p δ' st' => rw [q] at h; exact h
      | _ => rw [q] at h; exact h.elim
    · exact h.elim⟩
def gTupM (gs : GMs) (k : Nat) : GM := fun d δ st => match d with
  | .tup ds => if ds.length = k then gs ds δ st else .bad
  | _ => .bad
theorem dg_tup {k kk : Nat} {gs : GMs} (hc : X.calm = true) (h : DGs X T W es gs) (hn : (assignEach es X.env).length = k := by rfl) (hst : (assignEach es X.env).findIdx? (·.1) = none := by rfl) : DG X T W (.Tuple es kk pos) (gTupM gs k) :=
  ⟨PG.imp (pg_tup hc h.pg hn hst) fun v σ H Q ⟨ρ, δ, st, d, ok, rs, rd, h⟩ => by
    unfold gTupM at h
    split at h
    · rename_i ds
      split at h
      · rename_i hk
        obtain ⟨a, xs, rfl, s, r⟩ := tupAt rd
        exact ⟨a, xs, rfl, s, by rw [r.len, hk], ρ, δ, st, ds, ok, rs, r, h⟩
      · exact h.elim
    · exact h.elim⟩
/-- a, b = x, y: two names of the def -/
def sPar (i j : Nat) (m : AM) : SM := fun δ st => sBind (m δ st) δ fun ds st1 => match ds with
  | [d, d'] => .nx ((δ.set i (some d)).set j (some d')) st1
  | _ => .bad
theorem ds_par {i j : Nat} {x y : Str} {px py pt : Pos} {kt k2 : Nat} {pt2 : Pos} (hc : X.calm = true) (hN : X.N.Nodup) (ha : DA X T W [a, b] mas) (hi : X.N[i]? = some x := by rfl) (hj : X.N[j]? = some y := by rfl) (hij : i ≠ j := by decide)
    (hx : X.env.scope.names.lookup x = some .local := by rfl) (hy : X.env.scope.names.lookup y = some .local := by rfl)
    (hw : swappedStores [.Tuple [.Name x px, .Name y py] kt pt] (.Tuple [a, b] k2 pt2) X.env = pure (some [x, y]) := by rfl)
    (hs : swapsWithSole [.Tuple [.Name x px, .Name y py] kt pt] (.Tuple [a, b] k2 pt2) pos.line X.env = pure false := by rfl) :
    DS X T W (.Assign [.Tuple [.Name x px, .Name y py] kt pt] (.Tuple [a, b] k2 pt2) pos) (sPar i j mas) :=
  ⟨PS.imp (ps_par hc hN hi hj hij hx hy ha.pa hw hs) fun D σ H ⟨ρ, δ, st, ok, rs, h⟩ => ⟨ρ, δ, st, ok, rs, PostS.bind h rs fun ds st1 vs H1 ρ1 g1 ok1 rx h1 => by
    split at h1
    · obtain ⟨v, u, rfl, r1, r2⟩ := RL.two rx
      exact ⟨v, u, rfl, h1 _ H1 ρ1 (Go.refl _ _) ok1 (((rs.go g1).set r1).set r2)⟩
    · exact h1.elim⟩⟩
/-! ### methods of built-in types -/
def eBM (ty : D → Store → Bool) (f : D → List D → Store → Res D) (mo : EM) (mas : AM) : EM := fun δ st => (mo δ st).bind fun x st1 => if ty x st1 = true then (mas δ st1).bind fun xs st2 => f x xs st2 else .bad
def TellM (X : Cx) (T : Tb) (r : V → List V → Hp → VK → Prop) (f : D → List D → Store → Res D) : Prop :=
  ∀ (W : WX) (σ : L2.St) (H : Hp) (ρ : Wo) (st : Store) (x : D) (v : V) (xs : List D) (vs : List V) (Q : VK), Ok X.K T H ρ st → R X.K H ρ x v → RL X.K H ρ xs vs → Post X.K T W (R X.K) σ H ρ (f x xs st) Q → r v vs H Q
def TyD (X : Cx) (T : Tb) (Ty : String) (ty : D → Store → Bool) : Prop := ∀ (H : Hp) (ρ : Wo) (st : Store) (x : D) (v : V), Ok X.K T H ρ st → R X.K H ρ x v → ty x st = true → tyV X.K Ty v H
def isLs (d : D) (st : Store) : Bool := (lsOf d st).isSome
theorem ty_list : TyD X T "list" isLs := fun H ρ st x v ok r h => by
  unfold isLs at h
  cases q : lsOf x st with
  | none => rw [q] at h; cases h
  | some ds =>
    obtain ⟨a, xs, rfl, s, _⟩ := lsAt ok r q
    exact .inl ⟨rfl, xs, s⟩
def isStD (d : D) (_ : Store) : Bool := match d with
  | .str _ => true
  | _ => false
theorem ty_str : TyD X T "str" isStD := fun H ρ st x v ok r h => by
  cases x with
  | str z => cases r; exact rfl
  | _ => cases h
theorem de_bm {Ty id : String} {name : Str} {r : V → List V → Hp → VK → Prop} {ty : D → Store → Bool} {f : D → List D → Store → Res D} (hty : TyD X T Ty ty) (hf : TellM X T r f) (pa : PlainAttrs Ty) (slot : Slot Ty name id) (htd : typeOf (.builtin id) = pure (.type "method_descriptor")) (hm : MtR X id r)
    (ho : DE X T W o mo) (ha : DA X T W (e :: es) mas)
    (hbase : attributeBase o name X.env (eval o X.env) = eval o X.env := by rfl)
    (hfew : ((backTo cpos (starEach (e :: es) X.env)).all (fun x => !x.1) && (backToKw cpos (keywordEach [] X.env)).all (fun x => x.1.isSome)
      && decide ((e :: es).length + ([] : List Keyword).length + (if ([] : List Keyword).isEmpty then 0 else 1) < 30)) = true := by rfl)
    (hline : (apos.endLine == cpos.line) = true := by rfl) (hs : starEach (e :: es) X.env = (false, eval e X.env) :: starEach es X.env := by rfl) (hplain : (backTo cpos (starEach es X.env)).any (·.1) = false := by rfl) :
    DE X T W (.Call (.Attribute o name apos) (e :: es) [] cpos) (eBM ty f mo mas) :=
  ⟨PE.imp (pe_bm pa slot htd hm ho.pe ha.pa hbase hfew hline hs hplain) fun σ H Q ⟨ρ, δ, st, ok, rs, h⟩ => ⟨ρ, δ, st, ok, rs, Post.bind h fun x st1 v H1 ρ1 g1 ok1 rx h1 => by
    split at h1
    · rename_i ht
      exact ⟨hty _ _ _ _ _ ok1 rx ht, ρ1, δ, st1, ok1, rs.go g1, Post.bind h1 fun xs st2 vs H2 ρ2 g2 ok2 rxs h2 => hf W σ H2 ρ2 st2 x v xs vs Q ok2 (R.go g2 x v rx) rxs h2⟩
    · exact h1.elim⟩⟩
def dAppend (x : D) (xs : List D) (st : Store) : Res D := match x, xs with
  | .loc n, [d] => match st[n]? with
    | some (.lst ys) => if ys.length < 1000000 then .ok .non (st.set n (.lst (ys ++ [d]))) else .bad
    | _ => .bad
  | _, _ => .bad
theorem tell_append : TellM X T rAppend dAppend := fun W σ H ρ st x v xs vs Q ok rx rxs h => by
  unfold dAppend at h
  split at h
  · rename_i n d
    split at h
    · rename_i ys q
      split at h
      · rename_i hz
        obtain ⟨a, rfl, ha, us, hu, ru⟩ := locAt ok rx q
        obtain ⟨w, rfl, rw'⟩ := RL.one rxs
        have g := go_put (H := H) (o := .lst (us ++ [w])) ha ⟨_, hu⟩
        refine ⟨a, us, w, rfl, rfl, hu, Nat.lt_of_lt_of_le (by rw [ru.len]; exact hz) (by rw [sizeLine_eq]; decide), ?_⟩
        exact h .non _ ρ g (ok.put ha q ⟨_, upd_same, (RL.go g _ _ ru).append ⟨w, [], rfl, R.go g _ _ rw', rfl⟩⟩) rfl
      · exact h.elim
    · exact h.elim
  · exact h.elim
theorem de_append (ho : DE X T W o mo) (ha : DA X T W [e] mas)
    (hbase : attributeBase o "append" X.env (eval o X.env) = eval o X.env := by rfl)
    (hfew : ((backTo cpos (starEach [e] X.env)).all (fun x => !x.1) && (backToKw cpos (keywordEach [] X.env)).all (fun x => x.1.isSome)
      && decide ([e].length + ([] : List Keyword).length + (if ([] : List Keyword).isEmpty then 0 else 1) < 30)) = true := by rfl)
    (hline : (apos.endLine == cpos.line) = true := by rfl) (hs : starEach [e] X.env = (false, eval e X.env) :: starEach [] X.env := by rfl) :
    DE X T W (.Call (.Attribute o "append" apos) [e] [] cpos) (eBM isLs dAppend mo mas) :=
  de_bm ty_list tell_append PySem.F.plainAttrs_list PySem.F.slot_list_append PySem.F.type_list_append mt_append ho ha hbase hfew hline hs
def dPopAt (x : D) (xs : List D) (st : Store) : Res D := match x, xs with
  | .loc n, [.int i] => match st[n]? with
    | some (.lst ys) => if ys.length ≤ 1000000 then match ixN ys.length i with
      | some k => match ys[k]? with
        | some d => .ok d (st.set n (.lst (ys.eraseIdx k)))
        | none => .bad
      | none => .bad else .bad
    | _ => .bad
  | _, _ => .bad
theorem tell_popAt : TellM X T rPopAt dPopAt := fun W σ H ρ st x v xs vs Q ok rx rxs h => by
  unfold dPopAt at h
  split at h
  · rename_i n i
    split at h
    · rename_i ys q
      split at h
      rotate_left
      · exact h.elim
      rename_i hz
      split at h
      · rename_i k ek
        split at h
        · rename_i d ed
          obtain ⟨a, rfl, ha, us, hu, ru⟩ := locAt ok rx q
          obtain ⟨w, rfl, rw'⟩ := RL.one rxs
          cases rw'
          obtain ⟨u, e1, r1⟩ := ru.get ed
          have g := go_put (H := H) (o := .lst (us.eraseIdx k)) ha ⟨_, hu⟩
          have hk : ixN us.length i = some k := by rw [ru.len]; exact ek
          obtain ⟨h1, h2, h3, h4⟩ := ixN_seq hk
          rw [ru.len] at h3 h4
          refine ⟨a, us, i, k, u, rfl, rfl, hu, by omega, by omega, h1, e1, ?_⟩
          exact h u _ ρ g (ok.put ha q ⟨_, upd_same, RL.erase k (RL.go g _ _ ru)⟩) (R.go g _ _ r1)
        · exact h.elim
      · exact h.elim
    · exact h.elim
  · exact h.elim
end
end L3

/-! ### text Li -/
namespace L3
open PySem PySem.Spec PyProof.Rows L2

/-! ### a lambda's object -/
/-- the object at f is the lambda F (its words but the body), whose body is b -/
def LamO (f : Addr) (F : NdefX.NF) (b : Expr) : HO := .ext fun h => ∃ (od : Option Addr) (sl : Array (Option Value)) (pm ctv : Value), h.get? f = some (⟨.type "function", od, .func (PySem.W.kla_fn "<lambda>" F.qual F.params b F.scope F.cl pm (.ref F.c) ctv), sl⟩ : Obj)
theorem lamO_ne {f : Addr} {F : NdefX.NF} {b : Expr} (ps : Array Value) : LamO f F b ≠ .tbl ps := fun z => by
  unfold LamO at z
  cases z
theorem lamO_at {P : Program} {w : World} {H : Hp} {h : Heap} {f : Addr} {F : NdefX.NF} {b : Expr} (hok : HOk P w H h) (e : H f = some (LamO f F b)) : ∃ (od : Option Addr) (sl : Array (Option Value)) (pm ctv : Value), h.get? f = some (⟨.type "function", od, .func (PySem.W.kla_fn "<lambda>" F.qual F.params b F.scope F.cl pm (.ref F.c) ctv), sl⟩ : Obj) := by
  obtain ⟨z, _, _⟩ := hok f _ e
  exact z
section
variable {X : Cx} {pins : List (Addr × Obj)} {σ : L2.St} {H : Hp} {s : Shared}
theorem inv_lam {F : NdefX.NF} {b : Expr} {o : Obj} {t' : Nat} {pm ctv : Value} (I : Inv X pins σ H s) (ho : o = { cls := .type "function", data := .func (PySem.W.kla_fn "<lambda>" F.qual F.params b F.scope F.cl pm (.ref F.c) ctv) }) :
    Inv X pins σ (upd H s.heap.objs.size (LamO s.heap.objs.size F b)) { s with heap := s.heap.push o, toks := t' } := by
  subst ho
  refine I.laid (a := s.heap.objs.size) (fun b u e => Heap.get?_push_of_some _ e) (Nat.le_refl _) ?_
  have e : (s.heap.push ({ cls := .type "function", data := .func (PySem.W.kla_fn "<lambda>" F.qual F.params b F.scope F.cl pm (.ref F.c) ctv) } : Obj)).get? s.heap.objs.size = some ({ cls := .type "function", data := .func (PySem.W.kla_fn "<lambda>" F.qual F.params b F.scope F.cl pm (.ref F.c) ctv) } : Obj) := Heap.get?_push_size _ rfl
  exact ⟨⟨_, _, pm, ctv, e⟩, ⟨_, e⟩, fun h1 h2 ⟨od, sl, p, t, z⟩ st => ⟨od, sl, p, t, st _ z⟩⟩
/-- a lambda is made: its code object is new, or found in the table -/
theorem lam_makeN {T : List NdefX.NTab} {nm : Nat → Nat → Str} {c P : Addr} {params : Arguments} {body : Expr} {scope : Scope} {pos : Pos} {E : Value → Shared → Prop} {Q : Value → Shared → Prop} (I : Inv X pins σ H s) (TB : LamX.TabB X.base X.mg c P) (hcode : X.env.code = .ref c)
    (hm : (P, nm) ∈ T) (hn : nm pos.line pos.col = X.env.qual ++ "<lambda>") (hu : ∀ p ∈ T, p.1 = P → p.2 = nm) (hT : NdefX.TabsN T H) (hdef : defaultsOf params X.env = ([], [])) (hfree : ∀ y ∈ scope.names, y.2 = .free → ∃ c, X.env.cells.lookup y.1 = some c)
    (h : ∀ (f c' : Addr) (H1 : Hp) (s' : Shared), Inv X pins σ H1 s' → LamX.ExtN H H1 → (∀ b, H1 b = Option.none → H b = Option.none) → NdefX.TabsN T H1 → H f = none → H1 f = some (LamO f ⟨"<lambda>", X.env.qual ++ "<lambda>", params, [], scope, cloFrom X.env.cells scope.names [], c'⟩ body) → H1 c' = some (LamX.CodeO c' (X.env.qual ++ "<lambda>")) → Q (.ref f) s') :
    wpAny (model X.prog X.w) X.A (eval (.Lambda params body scope pos) X.env) Q E s := by
  refine PySem.W.kla_eval hdef ?_
  obtain ⟨ps, hP, ht, ha⟩ := (show NdefX.TabN H P nm from hT _ hm)
  have bP : s.heap.BuiltinsAt X.mg P := TB.bm.keeps I.bk
  have hP' : s.heap.get? P = some { cls := .none, data := .fields ps } := I.hok P _ hP
  cases hc : codeAmong pos ps.toList with
  | none =>
    refine PySem.W.kla_makeFunction (mg := X.mg) (c := c) (P := P) (ps := ps) (closure_ok hfree) I.ok.glob (I.mod.glob.keeps I.bk) hcode (TB.code.keeps I.bk) hP' ht hc TB.gP bP fun c' ctv h' tk hx hge hlt hrec htb => ?_
    obtain ⟨c2, oc, vs, t, e2, hoc, hd, hv⟩ := hrec
    cases e2
    have nC : H c' = none := I.hok.fresh hge
    have I1 := LamX.inv_table (t' := tk) (more := #[rawInt pos.line, rawInt pos.col, .ref c']) (h' := h') I hP (fun b o hb e => hx b o hb e) htb hge ⟨oc, vs, t, hoc, hd, hv⟩
    have hE : LamX.ExtN H (upd (upd H P (.tbl (ps ++ #[rawInt pos.line, rawInt pos.col, .ref c']))) c' (LamX.CodeO c' (X.env.qual ++ "<lambda>"))) := fun b o e n => by
      rw [upd_ne (ne_of_none e nC), upd_ne (fun z => n ps (Option.some.inj (e.symm.trans (by rw [z]; exact hP))))]
      exact e
    have eL : (ps ++ #[rawInt pos.line, rawInt pos.col, .ref c']).toList = ps.toList ++ [rawInt pos.line, rawInt pos.col, .ref c'] := by simp
    have T1 : NdefX.TabsN T (upd (upd H P (.tbl (ps ++ #[rawInt pos.line, rawInt pos.col, .ref c']))) c' (LamX.CodeO c' (X.env.qual ++ "<lambda>"))) := fun p hp => by
      by_cases hb : p.1 = P
      · rw [hu p hp hb, hb]
        refine ⟨_, by rw [upd_ne (ne_of_none hP nC), upd_same], by rw [eL]; exact PySem.TriplesOk_snoc _ _ _ _ ht, fun p' cv hcv => ?_⟩
        rw [eL] at hcv
        rcases NdefX.among_app2 _ ht hcv with z | ⟨z, z1, z2⟩
        · obtain ⟨c0, e1, e2⟩ := ha p' cv z
          exact ⟨c0, e1, hE _ _ e2 LamX.codeO_ne⟩
        · refine ⟨c', z, ?_⟩
          rw [← z1, ← z2, hn]
          exact upd_same
      · obtain ⟨ps', a1, a2, a3⟩ := hT p hp
        refine ⟨ps', by rw [upd_ne (ne_of_none a1 nC), upd_ne hb]; exact a1, a2, fun p' cv hcv => ?_⟩
        obtain ⟨c0, e1, e2⟩ := a3 p' cv hcv
        exact ⟨c0, e1, hE _ _ e2 LamX.codeO_ne⟩
    have nF := I1.hok.fresh (Nat.le_refl _)
    have I2 := inv_lam (F := ⟨"<lambda>", X.env.qual ++ "<lambda>", params, [], scope, cloFrom X.env.cells scope.names [], c'⟩) (b := body) (t' := tk) (pm := (X.mg "__name__").getD .none) (ctv := ctv) I1 rfl
    refine h h'.objs.size c' _ _ I2 (fun b o e n => ?_) (fun b e => NdefX.upd_none (NdefX.upd_none (NdefX.upd_none e))) (T1.ext fun b o e => ?_) (I.hok.fresh (Nat.le_trans hge (Nat.le_of_lt hlt))) upd_same ?_
    · have e1 := hE b o e n
      exact (upd_ne (ne_of_none e1 nF)).trans e1
    · exact (upd_ne (ne_of_none e nF)).trans e
    · exact (upd_ne (Nat.ne_of_lt hlt)).trans upd_same
  | some cv =>
    obtain ⟨c', e, hco⟩ := ha pos cv hc
    subst e
    rw [hn] at hco
    refine PySem.W.kla_makeFunctionHit (mg := X.mg) (c := c) (P := P) (ps := ps) (closure_ok hfree) I.ok.glob (I.mod.glob.keeps I.bk) hcode (TB.code.keeps I.bk) hP' ht hc bP fun ctv h' tk hx hsz => ?_
    have I1 : Inv X pins σ H { s with heap := h', toks := tk } := I.kept hx
    have nF : H h'.objs.size = none := I1.hok.fresh (Nat.le_refl _)
    have I2 := inv_lam (F := ⟨"<lambda>", X.env.qual ++ "<lambda>", params, [], scope, cloFrom X.env.cells scope.names [], c'⟩) (b := body) (t' := tk) (pm := (X.mg "__name__").getD .none) (ctv := ctv) I1 rfl
    refine h h'.objs.size c' _ _ I2 (fun b o e n => ?_) (fun b e => NdefX.upd_none e) (hT.ext fun b o e => ?_) nF upd_same ?_
    · exact (upd_ne (ne_of_none e nF)).trans e
    · exact (upd_ne (ne_of_none e nF)).trans e
    · exact (upd_ne (ne_of_none hco nF)).trans hco
end
end L3

/-! ### text Lj -/
namespace L3
open PySem PySem.Spec PyProof.Rows L2

/-! ### closures handed on -/
/-- what is the same at every address -/
noncomputable def anyF {α : Type} (bad : α) (r : Addr → α) : α := open Classical in if h : ∃ x, ∀ f, r f = x then h.choose else bad
@[simp] theorem anyF_const {α : Type} (bad x : α) : anyF bad (fun _ => x) = x := by
  unfold anyF
  have h : ∃ y, ∀ f : Addr, (fun _ : Addr => x) f = y := ⟨x, fun _ => rfl⟩
  rw [dif_pos h]
  exact (h.choose_spec 0).symm
theorem anyF_eq {α : Type} {bad x : α} {r : Addr → α} (h : ∀ f, r f = x) : anyF bad r = x := by
  rw [show r = fun _ => x from funext h, anyF_const]
theorem anyF_at {α : Type} {bad : α} {r : Addr → α} {p : α → Prop} (h : p (anyF bad r)) (nb : ¬ p bad) (f : Addr) : p (r f) := by
  unfold anyF at h
  split at h
  · rename_i q
    rw [q.choose_spec f]
    exact h
  · exact (nb h).elim
theorem Post.sig {K : PySem.W.Frag} {T : Tb} {E : XK} {α β : Type} {Rel : Hp → Wo → α → β → Prop} {σ σ' : L2.St} {H : Hp} {ρ : Wo} {r : Res α} {Q : β → Hp → Prop} (h : Post K T (fun c d _ H => E c d H) Rel σ H ρ r Q) : Post K T (fun c d _ H => E c d H) Rel σ' H ρ r Q := by
  cases r with
  | ok a st => exact h
  | err C p st => exact h
  | bad => exact h
theorem Post.weak {K : PySem.W.Frag} {T T' : Tb} {W : WX} {α β : Type} {Rel : Hp → Wo → α → β → Prop} {σ : L2.St} {H : Hp} {ρ : Wo} {r : Res α} {Q : β → Hp → Prop} (w : ∀ H ρ st, Ok K T' H ρ st → Ok K T H ρ st) (h : Post K T W Rel σ H ρ r Q) : Post K T' W Rel σ H ρ r Q := by
  cases r with
  | ok a st => exact fun b H' ρ' g o rel => h b H' ρ' g (w _ _ _ o) rel
  | err C p st => exact fun d H' ρ' g o pr => h d H' ρ' g (w _ _ _ o) pr
  | bad => exact h
theorem cells_later {fs : List Addr} {H H1 : Hp} {h h1 : Heap} {cl : List (Str × Addr)} {fr : List Str} {ws : List (Option V)} (un : Un fs [] H H1 h h1) (C : NdefX.CellsAt cl fr ws h H) : NdefX.CellsAt cl fr ws h1 H1 := by
  have kp : ∀ y c, cl.lookup y = some c → ∀ v, h.IsCell c v → h1.IsCell c v := fun y c e v ⟨o, ho, hd⟩ => by
    obtain ⟨sl, q⟩ := un.any ho (C.all y c e).1 (by simp)
    exact ⟨_, q, hd⟩
  refine ⟨C.len, fun y c e => ?_, C.inj, fun i y e => ?_⟩
  · obtain ⟨n, v, z⟩ := C.all y c e
    refine ⟨?_, v, kp y c e v z⟩
    obtain ⟨o, ho, _⟩ := z
    exact un.free c o ho n (by simp)
  · obtain ⟨c, hc, hv⟩ := C.has i y e
    refine ⟨c, hc, fun v ev => ?_⟩
    obtain ⟨u, r, z⟩ := hv v ev
    exact ⟨u, r, kp y c hc _ z⟩
/-- the captured cells held so when the context was entered -/
structure CloAt (X : Cx) (cl : List (Str × Addr)) (fr : List Str) (ws : List (Option V)) : Prop where
  ex : X.ex = []
  c : NdefX.CellsAt cl fr ws X.s_0.heap X.H_0
theorem CloAt.at {X : Cx} {cl : List (Str × Addr)} {fr : List Str} {ws : List (Option V)} {pins : List (Addr × Obj)} {σ : L2.St} {H : Hp} {s : Shared} (C : CloAt X cl fr ws) (I : Inv X pins σ H s) : NdefX.CellsAt cl fr ws s.heap H := by
  have u := I.base
  rw [C.ex] at u
  exact cells_later u C.c
theorem CloAt.tr {X : Cx} {cl : List (Str × Addr)} {fr : List Str} {ws : List (Option V)} {pn : List (Addr × Obj)} {xe : Value → Shared → Prop} (C : CloAt X cl fr ws) : CloAt (X.tr pn xe) cl fr ws := ⟨C.ex, C.c⟩
/-- the promise of a function that was handed on: it does ap -/
structure Clo (P : Program) (w : World) (K : PySem.W.Frag) (mg : Str → Option Value) (base : Heap) (T : Tb) (k : Nat) (g : Addr) (cl : List (Str × Addr)) (fr : List Str) (ws : List (Option V)) (ap : List D → Store → Res D) : Prop where
  fn : ∀ (H : Hp) (ρ : Wo) (h : Heap), T.Al K H ρ → HOk P w H h → PySem.W.FnAt g h
  run : ∀ (A : Around) (outer : List Env) (s : Shared) (H : Hp) (us : List Value) (vs : List V) (ds : List D) (ρ : Wo) (st : Store) (Q : VK) (E : XK), Room k A → A.guards = some [] → Env0 P w K mg base A outer s H → NdefX.CellsAt cl fr ws s.heap H → Vals vs us →
    Ok K T H ρ st → RL K H ρ ds vs → Post K T (fun c d _ H => E c d H) (R K) [] H ρ (ap ds st) Q → codeAny (model P w) A (.call (.ref g) ⟨us, []⟩) (L2.CR (L2.CX P w) outer P w H s Q E) s
/-- the slots of a closure's body at its begin -/
def begF (n : Nat) (ds : List D) (caps : Sl) : Sl := ds.map some ++ (caps ++ List.replicate (n - ds.length - caps.length) none)
def lamM (n k : Nat) (me : EM) (caps : Sl) (ds : List D) (st : Store) : Res D := if ds.length = k then me (begF n ds caps) st else .bad
def cloM (lv : Nat → D → Store → Res D) (n k : Nat) (m : SM) (caps : Sl) (ds : List D) (st : Store) : Res D := if ds.length = k then endF lv st.length (m (begF n ds caps) st) else .bad
/-- captured slots: what they are worth, what is known of them -/
structure CapsR (vs : List (D × V)) (caps : Sl) (ws : List (Option V)) : Prop where
  len : caps.length = ws.length
  at' : ∀ (i : Nat) (d : D), caps[i]? = some (some d) → ∃ v, ws[i]? = some (some v) ∧ (d, v) ∈ vs
theorem RS.begF {K : PySem.W.Frag} {T : Tb} {H : Hp} {ρ : Wo} {ds : List D} {vs : List V} {caps : Sl} {ws : List (Option V)} {N : List Str} (r : RL K H ρ ds vs) (c : CapsR T.vs caps ws) (al : T.Al K H ρ) : RS K H ρ (L3.begF N.length ds caps) (NdefX.startF N vs ws) := by
  unfold L3.begF NdefX.startF
  have lv := r.len
  have lc := c.len
  refine ⟨by simp only [List.length_append, List.length_map, List.length_replicate, lv, lc], fun i d e => ?_⟩
  by_cases hi : i < ds.length
  · rw [List.getElem?_append_left (by rw [List.length_map]; exact hi), List.getElem?_map] at e
    cases q : ds[i]? with
    | none => rw [q] at e; cases e
    | some d' =>
      rw [q] at e
      cases e
      obtain ⟨v, h1, h2⟩ := r.get q
      exact ⟨v, by rw [List.getElem?_append_left (by rw [List.length_map, lv]; exact hi), List.getElem?_map, h1]; rfl, h2⟩
  · rw [List.getElem?_append_right (by rw [List.length_map]; omega), List.length_map] at e
    rw [List.getElem?_append_right (by rw [List.length_map]; omega), List.length_map, lv]
    by_cases h2 : i - ds.length < caps.length
    · rw [List.getElem?_append_left h2] at e
      rw [List.getElem?_append_left (by omega)]
      obtain ⟨v, h3, h4⟩ := c.at' _ _ e
      exact ⟨v, h3, al.v _ h4⟩
    · rw [List.getElem?_append_right (by omega), List.getElem?_replicate] at e
      split at e <;> cases e
section
variable {P : Program} {w : World} {K : PySem.W.Frag} {mg : Str → Option Value} {base : Heap} {T : Tb} {N ps fr : List Str} {F : NdefX.NF} {f : Addr} {k n kp : Nat} {caps : Sl} {ws : List (Option V)}
/-- THE RULE for a lambda that is handed on -/
theorem Clo.of_lam {b : Expr} {me : EM} (S : NdefX.NScope N ps fr F.scope) (hn : N.length = n) (hp : ps.length = kp) (hb : ∀ (pm ctv : Value) (us : List Value), us.length = ps.length → bindArgs (PySem.W.kla_fn "<lambda>" F.qual F.params b F.scope F.cl pm (.ref F.c) ctv) ⟨us, []⟩ = pure (ps.zip us))
    (hf : (f, LamO f F b) ∈ T.hs) (hc : (F.c, LamX.CodeO F.c F.qual) ∈ T.hs) (hw : CapsR T.vs caps ws)
    (hbody : ∀ (A : Around) (outer : List Env) (s : Shared) (H : Hp) (E : XK) (X : Cx), X = NdefX.ncx (L2.CX P w) P w K mg base N F f A outer s H E → Room k X.A → X.A.guards = some [] → Takes X (fun c d _ H => E c d H) → DE X T (fun c d _ H => E c d H) b me) :
    Clo P w K mg base T (k + 1) f F.cl fr ws (lamM n kp me caps) := by
  subst hn hp
  refine ⟨fun H ρ h al hok => ?_, fun A outer s H us vs ds ρ st Q E hr hg e0 C r ok rd h => ?_⟩
  · obtain ⟨od, sl, pm, ctv, ho⟩ := lamO_at hok (al.o _ hf).1
    exact ⟨_, od, _, sl, ho⟩
  · unfold lamM at h
    split at h
    · rename_i hlen
      have hl : vs.length = ps.length := by rw [rd.len, hlen]
      have lim : s.heap.NoLimit := e0.mod.nolimit.keeps fun b o e => (e0.bs b o e).1
      obtain ⟨od, sl, pm, ctv, ho⟩ := lamO_at e0.hok (ok.al.o _ hf).1
      refine PySem.W.kla_callFunE hr.depth ho rfl S.co S.gen rfl (NdefX.codeO_at e0.hok (ok.al.o _ hc).1) ?_
      rw [hb pm ctv us (by rw [← r.length]; exact hl)]
      refine wpAny_pure (wpAny_newFunctionEnv S.nocell (fun ⟨n, _⟩ hy => S.par n (List.of_mem_zip hy).1) (fun h₁ hns hsb => ⟨lim.fresh _ hsb, ?_⟩) S.kind)
      have kp : ∀ b o, s.heap.get? b = some o → h₁.get? b = some o := fun b o e => hsb.extBut b o (Nat.ne_of_lt (Heap.lt_size e)) (Heap.get?_push_of_some _ e)
      have I : Inv (NdefX.ncx (L2.CX P w) P w K mg base N F f A outer s H E) [] (NdefX.startF N vs ws) H { s with heap := h₁, toks := s.toks + (ps.zip us).length } := NdefX.inv_startN S hr.hd e0 hl r C hns kp
      show codeAny _ _ (.expr b (NdefX.envF F f s.heap.objs.size)) _ _
      refine PySem.W.kla_codeExpr (wpAny_mono ((hbody A outer s H E _ rfl (hr.deeper _) hg (takes_of rfl rfl rfl rfl)).pe.run [] _ (NdefX.startF N vs ws) H Q I ⟨ρ, _, st, ok, RS.begF rd hw ok.al, h.sig⟩) (fun v s' hq => ?_) fun e s' hq => hq)
      obtain ⟨w', H', J', rv, q⟩ := hq
      exact ⟨w', H', J'.os, J'.bare, J'.base, J'.hok, rv, q⟩
    · exact h.elim
/-- THE RULE for a nested def that is handed on -/
theorem Clo.of_def {m : SM} {lv : Nat → D → Store → Res D} (S : NdefX.NScope N ps fr F.scope) (hn : N.length = n) (hp : ps.length = kp) (hl : Leaves lv) (hb : ∀ (doc pm ctv : Value) (us : List Value), us.length = ps.length → bindArgs (F.fd doc pm ctv) ⟨us, []⟩ = pure (ps.zip us))
    (hf : (f, NdefX.FnO f F) ∈ T.hs) (hc : (F.c, LamX.CodeO F.c F.qual) ∈ T.hs) (hw : CapsR T.vs caps ws)
    (hbody : ∀ (A : Around) (outer : List Env) (s : Shared) (H : Hp) (E : XK) (X : Cx), X = NdefX.ncx (L2.CX P w) P w K mg base N F f A outer s H E → Room k X.A → X.A.guards = some [] → Takes X (fun c d _ H => E c d H) → PassesOwn (model X.prog X.w) X.A X.env X.xe → DB X T (fun c d _ H => E c d H) F.body m) :
    Clo P w K mg base T (k + 1) f F.cl fr ws (cloM lv n kp m caps) := by
  subst hn hp
  refine ⟨fun H ρ h al hok => ?_, fun A outer s H us vs ds ρ st Q E hr hg e0 C r ok rd h => ?_⟩
  · obtain ⟨od, sl, doc, pm, ctv, ho⟩ := NdefX.fnO_at hok (al.o _ hf).1
    exact ⟨_, od, _, sl, ho⟩
  · unfold cloM at h
    split at h
    · rename_i hlen
      have hl' : vs.length = ps.length := by rw [rd.len, hlen]
      have lim : s.heap.NoLimit := e0.mod.nolimit.keeps fun b o e => (e0.bs b o e).1
      obtain ⟨od, sl, doc, pm, ctv, ho⟩ := NdefX.fnO_at e0.hok (ok.al.o _ hf).1
      refine codeAny_call_function hr.depth ho rfl S.co S.gen rfl (NdefX.codeO_at e0.hok (ok.al.o _ hc).1) ?_
      rw [hb doc pm ctv us (by rw [← r.length]; exact hl')]
      refine wpAny_pure (wpAny_newFunctionEnv S.nocell (fun ⟨n, _⟩ hy => S.par n (List.of_mem_zip hy).1) (fun h₁ hns hsb => ⟨lim.fresh _ hsb, ?_⟩) S.kind)
      show codeAny _ _ (.func F.body (NdefX.envF F f s.heap.objs.size)) _ _
      refine codeAny_func ?_
      have kp : ∀ b o, s.heap.get? b = some o → h₁.get? b = some o := fun b o e => hsb.extBut b o (Nat.ne_of_lt (Heap.lt_size e)) (Heap.get?_push_of_some _ e)
      have I : Inv (NdefX.ncx (L2.CX P w) P w K mg base N F f A outer s H E) [] (NdefX.startF N vs ws) H { s with heap := h₁, toks := s.toks + (ps.zip us).length } := NdefX.inv_startN S hr.hd e0 hl' r C hns kp
      have run := (hbody A outer s H E _ rfl (hr.deeper _) hg (takes_of rfl rfl rfl rfl) (passes_of rfl)).ps.run [] _ (NdefX.startF N vs ws) H { nx := fun _ H' => Q .non H', rt := Q } I ⟨ρ, L3.begF N.length ds caps, st, ok, RS.begF rd hw ok.al, ?_⟩
      · refine wpAny_mono run (fun fl s' hs => ?_) fun e s' hs => hs
        have fin : ∀ {σ' : L2.St} {H' : Hp} {v : V} {u : Value}, Inv (NdefX.ncx (L2.CX P w) P w K mg base N F f A outer s H E) [] σ' H' s' → L2.RelV v u → Q v H' → CE outer P w H s Q u s' :=
          fun {σ' H' v u} J rv q => ⟨v, H', J.os, J.bare, J.base, J.hok, rv, q⟩
        cases fl with
        | ret u =>
          obtain ⟨v, σ', H', J, rv, q⟩ := hs
          exact fin J rv q
        | next =>
          obtain ⟨σ', H', J, q⟩ := hs
          exact fin (v := V.non) (u := Value.none) J rfl q
        | brk =>
          obtain ⟨_, _, _, q⟩ := hs
          exact False.elim q
        | cont =>
          obtain ⟨_, _, _, q⟩ := hs
          exact False.elim q
      · rw [← ok.len] at h
        cases q : m (L3.begF N.length ds caps) st with
        | nx δ' st' =>
          rw [q] at h
          exact fun σ' H' ρ' g o rs => hl _ _ _ _ _ _ _ _ .non .non st' Q ok.al g o rfl h
        | rt d st' =>
          rw [q] at h
          exact fun v H' ρ' g o rd => hl _ _ _ _ _ _ _ _ d v st' Q ok.al g o rd h
        | err C p δ' st' =>
          rw [q] at h
          exact fun σ' d H' ρ' g o rs pr => leaveE_ok (σ := []) ok.al g o pr h
        | bk d st' => rw [q] at h; exact h.elim
        | ct d st' => rw [q] at h; exact h.elim
        | bad => rw [q] at h; exact h.elim
    · exact h.elim
end
/-! ### defs that take a function -/
/-- a def's promise that takes the function g, which does ap -/
structure FnC (P : Program) (w : World) (K : PySem.W.Frag) (mg : Str → Option Value) (base : Heap) (tabs : List NdefX.NTab) (kc k : Nat) (f : Addr) (fd : FuncData) (ps : List Str) (mf : Addr → (List D → Store → Res D) → List D → Store → Res D) : Prop where
  len : ∀ g ap ds st, ds.length ≠ ps.length → mf g ap ds st = .bad
  run : ∀ (T : Tb) (A : Around) (outer : List Env) (s : Shared) (H : Hp) (args : Args) (us : List Value) (vs : List V) (ds : List D) (ρ : Wo) (st : Store) (Q : VK) (E : XK) (g : Addr) (cl : List (Str × Addr)) (fr : List Str) (ws : List (Option V)) (ap : List D → Store → Res D), T.tabs = tabs →
    Clo P w K mg base T kc g cl fr ws ap → NdefX.CellsAt cl fr ws s.heap H → Room k A → A.guards = some [] → Env0 P w K mg base A outer s H → BindsTo s fd args (ps.zip us) → Vals vs us →
    Ok K T H ρ st → RL K H ρ ds vs → Post K T (fun c d _ H => E c d H) (R K) [] H ρ (mf g ap ds st) Q → codeAny (model P w) A (.call (.ref f) args) (L2.CR (L2.CX P w) outer P w H s Q E) s
/-- THE RULE for a def that takes a function -/
theorem FnC.of {P : Program} {w : World} {K : PySem.W.Frag} {mg : Str → Option Value} {base : Heap} {tabs : List NdefX.NTab} {x qual : Str} {stm : Stmt} {f : Addr} {fd : FuncData} {N ps : List Str} {kc k n kp : Nat} {m : Addr → (List D → Store → Res D) → SM} {lv : Nat → D → Store → Res D}
    (F : Fun K x qual stm f fd) (S : FnScope N ps (defScope stm)) (hn : N.length = n) (hp : ps.length = kp) (hl : Leaves lv)
    (hbody : ∀ (T : Tb) (g : Addr) (cl : List (Str × Addr)) (fr : List Str) (ws : List (Option V)) (ap : List D → Store → Res D) (cdv : Value) (A : Around) (outer : List Env) (s : Shared) (H : Hp) (E : XK) (X : Cx), T.tabs = tabs → codeOf K f = some cdv → X = cxOf (L2.CX P w) P w K mg base N qual (defScope stm) f cdv A outer s H E →
      Clo P w K mg base T kc g cl fr ws ap → CloAt X cl fr ws → Room k X.A → X.A.guards = some [] → Takes X (fun c d _ H => E c d H) → PassesOwn (model X.prog X.w) X.A X.env X.xe → DB X T (fun c d _ H => E c d H) (defBody stm) (m g ap)) :
    FnC P w K mg base tabs kc (k + 1) f fd ps (fun g ap => fnM lv n kp (m g ap)) := by
  subst hn hp
  refine ⟨fun g ap ds st h => if_neg h, fun T A outer s H args us vs ds ρ st Q E g cl fr ws ap hT hc hC hr hg e0 hb r ok rd h => ?_⟩
  have hlen : ds.length = ps.length := by
    by_cases q : ds.length = ps.length
    · exact q
    · rw [show fnM lv N.length ps.length (m g ap) ds st = .bad from if_neg q] at h
      exact h.elim
  rw [show fnM lv N.length ps.length (m g ap) ds st = endF lv st.length (m g ap (beg N.length ds) st) from if_pos hlen] at h
  obtain ⟨oc, od, kV, doc, pm, an, cdv, ct, osl, rfl, lk, hcd⟩ := F.ex
  refine LamX.run_ofS (N := N) (ps := ps) (vs := vs) lk hcd S hr e0 hb r (by rw [rd.len, hlen]) fun hr' => ?_
  refine ⟨_, (hbody T g cl fr ws ap cdv A outer s H E _ hT (by unfold codeOf; rw [lk]) rfl hc ⟨rfl, hC⟩ hr' hg (takes_of rfl rfl rfl rfl) (passes_of rfl)).ps, ρ, beg N.length ds, st, ok, RS.beg rd, ?_⟩
  rw [← ok.len] at h
  cases q : m g ap (beg N.length ds) st with
  | nx δ' st' =>
    rw [q] at h
    exact fun σ' H' ρ' g o rs => hl _ _ _ _ _ _ _ _ .non .non st' Q ok.al g o rfl h
  | rt d st' =>
    rw [q] at h
    exact fun v H' ρ' g o rd => hl _ _ _ _ _ _ _ _ d v st' Q ok.al g o rd h
  | err C p δ' st' =>
    rw [q] at h
    exact fun σ' d H' ρ' g o rs pr => leaveE_ok (σ := []) ok.al g o pr h
  | bk d st' => rw [q] at h; exact h.elim
  | ct d st' => rw [q] at h; exact h.elim
  | bad => rw [q] at h; exact h.elim
section
variable {X : Cx} {T : Tb} {W : WX} {e : Expr} {es : List Expr} {me : EM} {mas : AM} {pos p1 p2 lpos : Pos} {k kc : Nat} {f g : Addr} {fd : FuncData} {ps fr : List Str} {mf : Addr → (List D → Store → Res D) → List D → Store → Res D} {ap : List D → Store → Res D} {x a : Str} {i : Nat} {cl : List (Str × Addr)} {ws : List (Option V)}
/-- what a call of a closure ends as -/
theorem after_call {pins : List (Addr × Obj)} {σ : L2.St} {H : Hp} {s : Shared} {Q : VK} {v : Value} {us : List Value} {ks : List (Str × Value)} (tk : Takes X W) (I : Inv X pins σ H s)
    (h : codeAny (model X.prog X.w) X.A (.call v ⟨us, ks⟩) (L2.CR (L2.CX X.prog X.w) X.stack X.prog X.w H s Q (WE W σ)) s) : wpAny (model X.prog X.w) X.A (call v us ks) (EP X pins σ Q) X.xe s := by
  refine wpAny_call (codeAny_mono h fun r s' hq => ?_)
  cases r with
  | error e => exact passAt tk σ pins H s e s' I hq
  | ok fl =>
    cases fl with
    | ret u => exact I.after hq
    | next => exact False.elim hq
    | brk => exact False.elim hq
    | cont => exact False.elim hq
theorem Post.we {σ : L2.St} {H : Hp} {ρ : Wo} {r : Res D} {Q : VK} (h : Post X.K T W (R X.K) σ H ρ r Q) : Post X.K T (fun c d _ H => WE W σ c d H) (R X.K) [] H ρ r Q := by
  cases r with
  | ok d st' => exact h
  | err C p st' => exact h
  | bad => exact h
/-- a(e, ..), a holds the function g -/
def eClo (i : Nat) (g : Addr) (ap : List D → Store → Res D) (m : AM) : EM := fun δ st => match δ[i]? with
  | some (some (.ref b)) => if b = g then (m δ st).bind ap else .bad
  | _ => .bad
theorem clo_slot {σ : L2.St} {H : Hp} {ρ : Wo} {δ : Sl} {st : Store} {Q : VK} (rs : RS X.K H ρ δ σ) (h : Post X.K T W (R X.K) σ H ρ (eClo i g ap mas δ st) Q) : σ[i]? = some (some (.ref g)) ∧ Post X.K T W (R X.K) σ H ρ ((mas δ st).bind ap) Q := by
  unfold eClo at h
  split at h
  · rename_i b eb
    split at h
    · rename_i hbg
      subst hbg
      obtain ⟨v, h2, h3⟩ := rs.at' _ _ eb
      exact ⟨by rw [h2, show v = .ref b from h3], h⟩
    · exact h.elim
  · exact h.elim
theorem de_clo (i : Nat) (hc : Clo X.prog X.w X.K X.mg X.base T k g cl fr ws ap) (C : CloAt X cl fr ws) (hr : Room k X.A) (hgd : X.A.guards = some []) (tk : Takes X W) (ha : DA X T W (e :: es) mas) (hN : X.N[i]? = some a := by rfl) (hv : Vis X.env.scope a := by first | exact Or.inl rfl | exact Or.inr (Or.inl rfl) | exact Or.inr (Or.inr rfl))
    (hd : (a == ("__debug__" : Str)) = false := by decide) (hcd : (a == ("__classdict__" : Str)) = false := by decide)
    (he : starEach (e :: es) X.env = (false, eval e X.env) :: starEach es X.env := by rfl) (hpl : (backTo pos (starEach es X.env)).any (·.1) = false := by rfl) : DE X T W (.Call (.Name a p1) (e :: es) [] pos) (eClo i g ap mas) := by
  refine ⟨⟨fun pins s σ H Q I ⟨ρ, δ, st, ok, rs, h⟩ => ?_⟩⟩
  obtain ⟨hs, h⟩ := clo_slot rs h
  refine wpAny_Call_Name_kw (thn ((pe_var (pos := p1) hN hv hd hcd).run pins s σ H (fun v H1 => v = .ref g ∧ H1 = H) I ⟨.ref g, hs, rfl, rfl⟩) fun u s1 ⟨v, H1, I1, r1, q1⟩ => ?_)
  obtain ⟨ev, eH⟩ := q1
  subst ev
  rw [eH] at I1
  obtain rfl : u = Value.ref g := r1
  refine PySem.W.callWith_F (first := []) (hc.fn H ρ _ ok.al I1.hok) (thn (ha.pa.run pos pins s1 σ H (fun vs H2 => ∃ ρ2 ds st2, Ok X.K T H2 ρ2 st2 ∧ RL X.K H2 ρ2 ds vs ∧ Post X.K T W (R X.K) σ H2 ρ2 (ap ds st2) Q) I1
    ⟨ρ, δ, st, ok, rs, Post.bind h fun xs st1 vs H1 ρ1 g1 ok1 rx h1 => ⟨ρ1, xs, st1, ok1, rx, h1⟩⟩) fun us s2 ⟨vs, H2, I2, r, ρ2, ds, st2, ok2, rd, h2⟩ => ⟨hc.fn H2 ρ2 _ ok2.al I2.hok, ?_⟩) he hpl
  show wpAny _ _ (call (.ref g) us) _ _ _
  exact after_call tk I2 (hc.run X.A X.stack s2 H2 us vs ds ρ2 st2 Q (WE W σ) hr hgd I2.env0 (C.at I2) r ok2 rd h2.we)
/-- a() -/
theorem de_clo0 (i : Nat) (hc : Clo X.prog X.w X.K X.mg X.base T k g cl fr ws ap) (C : CloAt X cl fr ws) (hr : Room k X.A) (hgd : X.A.guards = some []) (tk : Takes X W) (hN : X.N[i]? = some a := by rfl) (hv : Vis X.env.scope a := by first | exact Or.inl rfl | exact Or.inr (Or.inl rfl) | exact Or.inr (Or.inr rfl))
    (hd : (a == ("__debug__" : Str)) = false := by decide) (hcd : (a == ("__classdict__" : Str)) = false := by decide) : DE X T W (.Call (.Name a p1) [] [] pos) (eClo i g ap aNil) := by
  refine ⟨⟨fun pins s σ H Q I ⟨ρ, δ, st, ok, rs, h⟩ => ?_⟩⟩
  obtain ⟨hs, h⟩ := clo_slot rs h
  refine wpAny_Call_Name_kw (thn ((pe_var (pos := p1) hN hv hd hcd).run pins s σ H (fun v H1 => v = .ref g ∧ H1 = H) I ⟨.ref g, hs, rfl, rfl⟩) fun u s1 ⟨v, H1, I1, r1, q1⟩ => ?_)
  obtain ⟨ev, eH⟩ := q1
  subst ev
  rw [eH] at I1
  obtain rfl : u = Value.ref g := r1
  refine PySem.W.callWith_F0 (first := []) (hc.fn H ρ _ ok.al I1.hok) ?_
  show wpAny _ _ (call (.ref g) []) _ _ _
  exact after_call tk I1 (hc.run X.A X.stack s1 H [] [] [] ρ st Q (WE W σ) hr hgd I1.env0 (C.at I1) .nil ok rfl (Post.we h))
/-- f(e, .., a, ..): the function that was handed on is handed on -/
theorem de_callC (F : FnC X.prog X.w X.K X.mg X.base T.tabs kc k f fd ps mf) (hc : Clo X.prog X.w X.K X.mg X.base T kc g cl fr ws ap) (C : CloAt X cl fr ws) (hr : Room k X.A) (hgd : X.A.guards = some []) (tk : Takes X W) (hg : Gl X x) (hm : X.mg x = some (.ref f)) (hk : PySem.W.keepIn X.K (.ref f) = true) (hb : Binds X.K fd ps [])
    (ha : DA X T W (e :: es) mas) (hdb : (x == ("__debug__" : Str)) = false := by decide) (he : starEach (e :: es) X.env = (false, eval e X.env) :: starEach es X.env := by rfl) (hpl : (backTo pos (starEach es X.env)).any (·.1) = false := by rfl) :
    DE X T W (.Call (.Name x p1) (e :: es) [] pos) (eCall1 (mf g ap) mas) := by
  refine ⟨⟨fun pins s σ H Q I ⟨ρ, δ, st, ok, rs, h⟩ => ?_⟩⟩
  refine wpAny_Call_Name_kw (ld_glob I hg hm ?_ hdb)
  refine PySem.W.callWith_K (h₀ := X.base) I.ok.mod.kin hk (thn (ha.pa.run pos pins s σ H (fun vs H1 => ∃ ρ1 ds st1, Ok X.K T H1 ρ1 st1 ∧ RL X.K H1 ρ1 ds vs ∧ Post X.K T W (R X.K) σ H1 ρ1 (mf g ap ds st1) Q) I
    ⟨ρ, δ, st, ok, rs, Post.bind h fun xs st1 vs H1 ρ1 g1 ok1 rx h1 => ⟨ρ1, xs, st1, ok1, rx, h1⟩⟩) fun us s1 ⟨vs, H1, I1, r, ρ1, ds, st1, ok1, rd, h1⟩ => ⟨I1.kIn, ?_⟩) he hpl
  have hlen : ds.length = ps.length := by
    by_cases q : ds.length = ps.length
    · exact q
    · rw [F.len _ _ _ _ q] at h1
      exact h1.elim
  have hbd := hb s1 us I1.kIn (by rw [List.append_nil, ← r.length, rd.len, hlen])
  rw [List.append_nil] at hbd
  exact after_call tk I1 (F.run T X.A X.stack s1 H1 ⟨us, []⟩ us vs ds ρ1 st1 Q (WE W σ) g cl fr ws ap rfl hc (C.at I1) hr hgd I1.env0 hbd r ok1 rd h1.we)
end
end L3

/-! ### text Lk -/
namespace L3
open PySem PySem.Spec PyProof.Rows L2

/-! ### a lambda is made and handed on -/
/-- the slots that are captured -/
def capsOf (js : List Nat) (δ : Sl) : Sl := js.map fun j => (δ[j]?).join
def capsV (js : List Nat) (δ : Sl) (σ : L2.St) : List (D × V) := js.filterMap fun j => match δ[j]?, σ[j]? with
  | some (some d), some (some v) => some (d, v)
  | _, _ => none
theorem capsR {K : PySem.W.Frag} {H : Hp} {ρ : Wo} {δ : Sl} {σ : L2.St} (rs : RS K H ρ δ σ) (js : List Nat) : CapsR (capsV js δ σ) (capsOf js δ) (js.map (NdefX.slotAt σ)) := by
  refine ⟨by simp [capsOf], fun i d e => ?_⟩
  unfold capsOf at e
  rw [List.getElem?_map] at e
  cases q : js[i]? with
  | none => rw [q] at e; cases e
  | some j =>
    rw [q] at e
    simp only [Option.map_some, Option.some.injEq] at e
    have e2 : δ[j]? = some (some d) := by
      cases p : δ[j]? with
      | none => rw [p] at e; cases e
      | some o => rw [p] at e; simp at e; rw [e]
    obtain ⟨v, h1, h2⟩ := rs.at' j d e2
    refine ⟨v, by rw [List.getElem?_map, q]; show some (NdefX.slotAt σ j) = _; rw [NdefX.slotAt_of h1], ?_⟩
    unfold capsV
    rw [List.mem_filterMap]
    exact ⟨j, List.mem_of_getElem? q, by rw [e2, h1]⟩
theorem capsV_R {K : PySem.W.Frag} {H : Hp} {ρ : Wo} {δ : Sl} {σ : L2.St} (rs : RS K H ρ δ σ) (js : List Nat) : ∀ q ∈ capsV js δ σ, R K H ρ q.1 q.2 := fun q hq => by
  unfold capsV at hq
  rw [List.mem_filterMap] at hq
  obtain ⟨j, _, e⟩ := hq
  split at e
  · rename_i d v e1 e2
    cases e
    obtain ⟨v', h1, h2⟩ := rs.at' j _ e1
    rw [e2] at h1
    cases h1
    exact h2
  · cases e
/-- more is known -/
def Tb.plus (T : Tb) (hs : List (Addr × HO)) (vs : List (D × V)) : Tb := ⟨T.tabs, hs ++ T.hs, vs ++ T.vs⟩
theorem Ok.plus {K : PySem.W.Frag} {T : Tb} {H : Hp} {ρ : Wo} {st : Store} {hs : List (Addr × HO)} {vs : List (D × V)} (ok : Ok K T H ρ st) (h : ∀ p ∈ hs, H p.1 = some p.2 ∧ ¬ ρ.has p.1 ∧ ∀ ps, p.2 ≠ .tbl ps) (v : ∀ q ∈ vs, R K H ρ q.1 q.2) : Ok K (T.plus hs vs) H ρ st :=
  ⟨ok.len, ok.nd, ok.cell, ok.tab, ok.ext, ⟨fun p hp => (List.mem_append.mp hp).elim (h p) (ok.al.o p), fun q hq => (List.mem_append.mp hq).elim (v q) (ok.al.v q)⟩⟩
theorem Ok.minus {K : PySem.W.Frag} {T : Tb} {H : Hp} {ρ : Wo} {st : Store} {hs : List (Addr × HO)} {vs : List (D × V)} (ok : Ok K (T.plus hs vs) H ρ st) : Ok K T H ρ st :=
  ⟨ok.len, ok.nd, ok.cell, ok.tab, ok.ext, ⟨fun p hp => ok.al.o p (List.mem_append.mpr (.inr hp)), fun q hq => ok.al.v q (List.mem_append.mpr (.inr hq))⟩⟩
/-- the heap grew by a function -/
theorem Ok.grow {K : PySem.W.Frag} {T : Tb} {H H1 : Hp} {ρ : Wo} {st : Store} (ok : Ok K T H ρ st) (e : LamX.ExtN H H1) (n : ∀ b, H1 b = none → H b = none) (t : NdefX.TabsN T.tabs H1) : Go H ρ H1 ρ ∧ Ok K T H1 ρ st := by
  have g : Go H ρ H1 ρ := ⟨⟨[], by simp, by simp⟩, rfl, fun a o h _ nt => e a o h nt, n⟩
  have ke : ∀ a o, H a = some o → cellO o = true → H1 a = some o := fun a o h c => e a o h (fun ps z => by rw [z] at c; cases c)
  refine ⟨g, ⟨ok.len, ok.nd, fun m a c h1 h2 => ?_, t, fun a ha => ?_, ok.al.go g⟩⟩
  · have hc := ok.cell m a c h1 h2
    obtain ⟨o, ho, hco⟩ := hc.cellO
    exact hc.go g fun u hu => ke a u hu (by rw [ho] at hu; cases hu; exact hco)
  · obtain ⟨⟨o, ho, hco⟩, m⟩ := ok.ext a ha
    exact ⟨⟨o, ke a o ho hco, hco⟩, m⟩
theorem Ok.notExt {K : PySem.W.Frag} {T : Tb} {H : Hp} {ρ : Wo} {st : Store} (ok : Ok K T H ρ st) {a : Addr} {o : HO} (h : H a = some o) (n : cellO o = false) : ¬ ρ.has a := fun z => by
  obtain ⟨u, e, c⟩ := ok.thereC z
  rw [h] at e
  cases e
  rw [n] at c
  cases c
/-- the words of a lambda made in X -/
abbrev lamF (X : Cx) (params : Arguments) (scope : Scope) (c' : Addr) : NdefX.NF := ⟨"<lambda>", X.env.qual ++ "<lambda>", params, [], scope, cloFrom X.env.cells scope.names [], c'⟩
def tLamN (X : Cx) (tabs : List NdefX.NTab) (params : Arguments) (body : Expr) (scope : Scope) : TE := fun σ H Q => NdefX.TabsN tabs H ∧ ∀ (f c' : Addr) (H1 : Hp), LamX.ExtN H H1 → (∀ b, H1 b = none → H b = none) → NdefX.TabsN tabs H1 → H1 f = some (LamO f (lamF X params scope c') body) → H1 c' = some (LamX.CodeO c' (X.env.qual ++ "<lambda>")) → Q (.ref f) H1
/-- where a def keeps its code objects: its code object c, the table P; the names by places -/
structure LamK (X : Cx) (tabs : List NdefX.NTab) (nm : Nat → Nat → Str) : Prop where
  ex : ∃ c P : Addr, LamX.TabB X.base X.mg c P ∧ X.env.code = .ref c ∧ (P, nm) ∈ tabs ∧ ∀ p ∈ tabs, p.1 = P → p.2 = nm
section
variable {X : Cx} {T : Tb} {W : WX} {e b : Expr} {es : List Expr} {me : EM} {mas : AM} {pos p1 p2 lpos : Pos} {k kc n kp : Nat} {f g : Addr} {fd : FuncData} {N ps qs fr : List Str} {js : List Nat} {mf : Addr → (List D → Store → Res D) → List D → Store → Res D} {x a : Str} {params : Arguments} {scope : Scope} {nm : Nat → Nat → Str}
theorem pe_lam (L : LamK X T.tabs nm) (hn : nm lpos.line lpos.col = X.env.qual ++ "<lambda>") (hdef : defaultsOf params X.env = ([], [])) (hfree : ∀ y ∈ scope.names, y.2 = .free → X.env.scope.names.lookup y.1 = some .cell ∨ X.env.scope.names.lookup y.1 = some .free) :
    PE X (.Lambda params b scope lpos) (tLamN X T.tabs params b scope) := by
  refine ⟨fun pins s σ H Q I h => ?_⟩
  obtain ⟨hT, h⟩ := h
  obtain ⟨c, P, TB, hcode, hm, hu⟩ := L.ex
  exact lam_makeN I TB hcode hm hn hu hT hdef (fun y hy e => (hfree y hy e).elim (fun z => I.ok.has _ (.inl z)) fun z => I.ok.has _ (.inr z)) fun f c' H1 s' I1 eN nN T1 _ hf hc => ⟨.ref f, H1, I1, rfl, h f c' H1 eN nN T1 hf hc⟩
/-- arguments, a lambda the last of them -/
structure DAL (X : Cx) (T : Tb) (W : WX) (es : List Expr) (params : Arguments) (b : Expr) (scope : Scope) (m : AM) : Prop where
  pa : PA X es fun σ H Q => ∃ ρ δ st, Ok X.K T H ρ st ∧ RS X.K H ρ δ σ ∧ Post X.K T W (RL X.K) σ H ρ (m δ st) fun vs H1 => NdefX.TabsN T.tabs H1 ∧ ∀ (f c' : Addr) (H2 : Hp), LamX.ExtN H1 H2 → (∀ b, H2 b = none → H1 b = none) → NdefX.TabsN T.tabs H2 → H2 f = some (LamO f (lamF X params scope c') b) → H2 c' = some (LamX.CodeO c' (X.env.qual ++ "<lambda>")) → Q (vs ++ [.ref f]) H2
theorem PA.imp' {X : Cx} {es : List Expr} {t t' : TA} (h : PA X es t) (k : ∀ σ H Q, t' σ H Q → t σ H Q) : PA X es t' := ⟨fun pos pins s σ H Q I q => h.run pos pins s σ H Q I (k _ _ _ q)⟩
theorem dal_one (L : LamK X T.tabs nm) (hn : nm lpos.line lpos.col = X.env.qual ++ "<lambda>") (hdef : defaultsOf params X.env = ([], [])) (hfree : ∀ y ∈ scope.names, y.2 = .free → X.env.scope.names.lookup y.1 = some .cell ∨ X.env.scope.names.lookup y.1 = some .free) :
    DAL X T W [.Lambda params b scope lpos] params b scope aNil :=
  ⟨PA.imp' (pa_cons (pe_lam (T := T) L hn hdef hfree) pa_nil) fun σ H Q ⟨ρ, δ, st, ok, rs, h⟩ => by
    obtain ⟨t, h⟩ := h.ok ok rfl
    exact ⟨t, fun f c' H1 e1 e2 e3 e4 e5 => h f c' H1 e1 e2 e3 e4 e5⟩⟩
theorem dal_cons {mes : AM} (h : DE X T W e me) (h2 : DAL X T W es params b scope mes) (hs : starEach (e :: es) X.env = (false, eval e X.env) :: starEach es X.env := by rfl) : DAL X T W (e :: es) params b scope (aCons me mes) :=
  ⟨PA.imp' (pa_cons h.pe h2.pa hs) fun σ H Q ⟨ρ, δ, st, ok, rs, h⟩ => ⟨ρ, δ, st, ok, rs, Post.bind h fun x st1 v H1 ρ1 g1 ok1 rx h1 => ⟨ρ1, δ, st1, ok1, rs.go g1, Post.bind h1 fun xs st2 vs H2 ρ2 g2 ok2 rxs h2 => by
    exact h2.ok ok2 ⟨v, vs, rfl, R.go g2 x v rx, rxs⟩⟩⟩⟩
/-- f(e, .., lambda ..: b) -/
noncomputable def eCallL (mf : Addr → (List D → Store → Res D) → List D → Store → Res D) (n k : Nat) (js : List Nat) (me : EM) (m : AM) : EM := fun δ st => (m δ st).bind fun xs st1 => anyF .bad fun f => mf f (lamM n k me (capsOf js δ)) (xs ++ [.ref f]) st1
/-- the derivation of a lambda's body -/
abbrev LamB (X : Cx) (tabs : List NdefX.NTab) (kc : Nat) (N : List Str) (params : Arguments) (b : Expr) (scope : Scope) (me : EM) : Prop :=
  ∀ (T' : Tb) (f c' : Addr) (A : Around) (outer : List Env) (s : Shared) (H : Hp) (E : XK) (X' : Cx), T'.tabs = tabs → X' = NdefX.ncx (L2.CX X.prog X.w) X.prog X.w X.K X.mg X.base N (lamF X params scope c') f A outer s H E → Room kc X'.A → X'.A.guards = some [] → Takes X' (fun c d _ H => E c d H) → DE X' T' (fun c d _ H => E c d H) b me
theorem de_callL (F : FnC X.prog X.w X.K X.mg X.base T.tabs (kc + 1) k f fd ps mf) (S : NdefX.NScope N qs fr scope) (hn : N.length = n) (hp : qs.length = kp) (hfr : ∀ y ∈ fr, (y, NameKind.free) ∈ scope.names)
    (hfree : ∀ y ∈ scope.names, y.2 = .free → X.env.scope.names.lookup y.1 = some .cell ∨ X.env.scope.names.lookup y.1 = some .free) (hjs : js.map (fun j => X.N[j]?) = fr.map some)
    (hbind : ∀ (c' : Addr) (pm ctv : Value) (us : List Value), us.length = qs.length → bindArgs (PySem.W.kla_fn "<lambda>" (X.env.qual ++ "<lambda>") params b scope (cloFrom X.env.cells scope.names []) pm (.ref c') ctv) ⟨us, []⟩ = pure (qs.zip us))
    (hbody : LamB X T.tabs kc N params b scope me) (hr : Room k X.A) (hgd : X.A.guards = some []) (tk : Takes X W) (hg : Gl X x) (hm : X.mg x = some (.ref f)) (hk : PySem.W.keepIn X.K (.ref f) = true) (hb : Binds X.K fd ps [])
    (ha : DAL X T W (e :: es) params b scope mas) (hdb : (x == ("__debug__" : Str)) = false := by decide) (he : starEach (e :: es) X.env = (false, eval e X.env) :: starEach es X.env := by rfl) (hpl : (backTo pos (starEach es X.env)).any (·.1) = false := by rfl) :
    DE X T W (.Call (.Name x p1) (e :: es) [] pos) (eCallL mf n kp js me mas) := by
  refine ⟨⟨fun pins s σ H Q I ⟨ρ, δ, st, ok, rs, h⟩ => ?_⟩⟩
  refine wpAny_Call_Name_kw (ld_glob I hg hm ?_ hdb)
  refine PySem.W.callWith_K (h₀ := X.base) I.ok.mod.kin hk (thn (ha.pa.run pos pins s σ H (fun us H2 => ∃ vs f0 c' ρ1 ds st1, us = vs ++ [.ref f0] ∧ Ok X.K T H2 ρ1 st1 ∧ RS X.K H2 ρ1 δ σ ∧ H2 f0 = some (LamO f0 (lamF X params scope c') b) ∧ H2 c' = some (LamX.CodeO c' (X.env.qual ++ "<lambda>")) ∧ RL X.K H2 ρ1 ds vs ∧ Post X.K T W (R X.K) σ H2 ρ1 (mf f0 (lamM n kp me (capsOf js δ)) (ds ++ [.ref f0]) st1) Q) I
    ⟨ρ, δ, st, ok, rs, Post.bind h fun xs st1 vs H1 ρ1 g1 ok1 rx h1 => ⟨ok1.tab, fun f0 c' H2 e1 e2 e3 e4 e5 => ?_⟩⟩) fun us s1 ⟨vs0, H1, I1, r, vs, f0, c', ρ1, ds, st1, ev, ok1, rs1, hf, hc, rd, h1⟩ => ⟨I1.kIn, ?_⟩) he hpl
  · obtain ⟨g2, ok2⟩ := ok1.grow e1 e2 e3
    exact ⟨vs, f0, c', ρ1, xs, st1, rfl, ok2, (rs.go g1).go g2, e4, e5, RL.go g2 _ _ rx, (anyF_at (p := fun r => Post X.K T W (R X.K) σ H1 ρ1 r Q) h1 (fun z => z) f0).go g2⟩
  · subst ev
    have hlen : (ds ++ [D.ref f0]).length = ps.length := by
      by_cases q : (ds ++ [D.ref f0]).length = ps.length
      · exact q
      · rw [F.len _ _ _ _ q] at h1
        exact h1.elim
    have rd' : RL X.K H1 ρ1 (ds ++ [.ref f0]) (vs ++ [.ref f0]) := rd.append ⟨_, _, rfl, rfl, rfl⟩
    have hbd := hb s1 us I1.kIn (by rw [List.append_nil, ← r.length, rd'.len, hlen])
    rw [List.append_nil] at hbd
    have okP : Ok X.K (T.plus [(f0, LamO f0 (lamF X params scope c') b), (c', LamX.CodeO c' (X.env.qual ++ "<lambda>"))] (capsV js δ σ)) H1 ρ1 st1 := ok1.plus (fun p hp => by
      rcases List.mem_cons.mp hp with rfl | hp
      · exact ⟨hf, ok1.notExt hf rfl, fun ps => lamO_ne ps⟩
      · rw [List.mem_singleton.mp hp]
        exact ⟨hc, ok1.notExt hc rfl, fun ps => LamX.codeO_ne ps⟩) (capsV_R rs1 js)
    have cl : Clo X.prog X.w X.K X.mg X.base (T.plus [(f0, LamO f0 (lamF X params scope c') b), (c', LamX.CodeO c' (X.env.qual ++ "<lambda>"))] (capsV js δ σ)) (kc + 1) f0 (cloFrom X.env.cells scope.names []) fr (js.map (NdefX.slotAt σ)) (lamM n kp me (capsOf js δ)) := by
      have cr := capsR rs1 js
      exact Clo.of_lam (F := lamF X params scope c') S hn hp (hbind c') (by exact List.mem_cons_self) (by exact List.mem_cons_of_mem _ List.mem_cons_self) ⟨cr.len, fun i d e => let ⟨v, h1, h2⟩ := cr.at' i d e; ⟨v, h1, List.mem_append.mpr (.inl h2)⟩⟩
        (fun A outer s H E X' hX => hbody _ f0 c' A outer s H E X' rfl hX)
    refine after_call tk I1 (F.run (T.plus _ _) X.A X.stack s1 H1 ⟨us, []⟩ us (vs ++ [.ref f0]) (ds ++ [.ref f0]) ρ1 st1 Q (WE W σ) f0 _ fr _ _ rfl cl (NdefX.cells_of I1 (NdefX.Caps.made I1.ok hfree hfr hjs)) hr hgd I1.env0 hbd r okP rd' (Post.weak (fun _ _ _ z => z.minus) h1).we)
/-! ### a nested def -/
/-- a nested def, then the others -/
noncomputable def sDef (i : Nat) (n : Addr → SM) : SM := fun δ st => anyF .bad fun f => match n f (δ.set i (some (.ref f))) st with
  | .nx δ' st' => .nx (δ'.set i none) st'
  | .bk δ' st' => .bk (δ'.set i none) st'
  | .ct δ' st' => .ct (δ'.set i none) st'
  | .err C p δ' st' => .err C p (δ'.set i none) st'
  | r => r
abbrev defF (X : Cx) (stm : Stmt) (name : Str) (c' : Addr) : NdefX.NF := NdefX.NF.of stm name (X.env.qual ++ name) (cloFrom X.env.cells (C8.fnScope stm).names []) c'
theorem RS.drop1 {K : PySem.W.Frag} {H : Hp} {ρ : Wo} {δ : Sl} {σ : L2.St} (r : RS K H ρ δ σ) (i : Nat) : RS K H ρ (δ.set i none) σ :=
  r.weak (by simp) fun j d e => by
    by_cases h : i = j
    · subst h
      by_cases hl : i < δ.length
      · rw [List.getElem?_set_self hl] at e; cases e
      · rw [List.getElem?_eq_none (by rw [List.length_set]; omega)] at e; cases e
    · rw [List.getElem?_set_ne h] at e; exact e
theorem PostS.weak {K : PySem.W.Frag} {T T' : Tb} {W : WX} {H : Hp} {ρ : Wo} {r : SRes} {Dn : Ends} (w : ∀ H ρ st, Ok K T' H ρ st → Ok K T H ρ st) (h : PostS K T W H ρ r Dn) : PostS K T' W H ρ r Dn := by
  cases r with
  | nx δ st => exact fun a b c g o => h a b c g (w _ _ _ o)
  | rt δ st => exact fun a b c g o => h a b c g (w _ _ _ o)
  | bk δ st => exact fun a b c g o => h a b c g (w _ _ _ o)
  | ct δ st => exact fun a b c g o => h a b c g (w _ _ _ o)
  | err C p δ st => exact fun a b c e g o => h a b c e g (w _ _ _ o)
  | bad => exact h
theorem db_def (i : Nat) {stm : Stmt} {ss : List Stmt} {n : Addr → SM} {name : Str} (L : LamK X T.tabs nm) (hst : stm = .FunctionDef name (C8.fnArgs stm) (C8.fnBody stm) [] none [] (C8.fnScope stm) none name pos) (hn : nm pos.line pos.col = X.env.qual ++ name)
    (hfree : ∀ y ∈ (C8.fnScope stm).names, y.2 = .free → X.env.scope.names.lookup y.1 = some .cell ∨ X.env.scope.names.lookup y.1 = some .free) (hd0 : (C8.fnArgs stm).defaults = []) (hk0 : (C8.fnArgs stm).kw_defaults = []) (ha : annTrees (C8.fnArgs stm) none X.env = [])
    (hN : X.N.Nodup) (hi : X.N[i]? = some name) (hx : Loc X.env.scope name) (hf : X.fn name = true ∨ X.env.scope.names.lookup name = some .local)
    (hrest : ∀ (T' : Tb) (f c' : Addr), T'.tabs = T.tabs → (f, NdefX.FnO f (defF X stm name c')) ∈ T'.hs → (c', LamX.CodeO c' (X.env.qual ++ name)) ∈ T'.hs → DB X T' W ss (n f)) : DB X T W (stm :: ss) (sDef i n) := by
  obtain ⟨c, P, TB, hcode, hm, hu⟩ := L.ex
  refine ⟨⟨fun pins s σ H D I ⟨ρ, δ, st, ok, rs, h⟩ => ?_⟩⟩
  have hd := NdefX.ps_ndefMS (X := X) (i := i) hst TB hcode hm hn hu hfree hd0 hk0 ha hN hi hx hf
  refine wpAny_execs_cons (thn (hd.run pins s σ H { nx := fun σ' H' => ∃ (f c' : Addr), LamX.ExtN H H' ∧ (∀ b, H' b = none → H b = none) ∧ NdefX.TabsN T.tabs H' ∧ H' f = some (NdefX.FnO f (defF X stm name c')) ∧ H' c' = some (LamX.CodeO c' (X.env.qual ++ name)) ∧ σ' = σ.set i (some (.ref f)), rt := fun _ _ => False } I
    ⟨ok.tab, fun f c' H1 e1 e2 e3 _ e4 e5 => ⟨f, c', e1, e2, e3, e4, e5, rfl⟩⟩) fun fl s1 q => ?_)
  cases fl with
  | next =>
    obtain ⟨σ', H', I', f, c', e1, e2, e3, hf, hc, rfl⟩ := q
    obtain ⟨g2, ok2⟩ := ok.grow e1 e2 e3
    have okP : Ok X.K (T.plus [(f, NdefX.FnO f (defF X stm name c')), (c', LamX.CodeO c' (X.env.qual ++ name))] []) H' ρ st := ok2.plus (fun p hp => by
      rcases List.mem_cons.mp hp with rfl | hp
      · exact ⟨hf, ok2.notExt hf rfl, fun ps => NdefX.fnO_ne ps⟩
      · rw [List.mem_singleton.mp hp]
        exact ⟨hc, ok2.notExt hc rfl, fun ps => LamX.codeO_ne ps⟩) (fun q hq => absurd hq (by simp))
    have hp := (anyF_at (p := fun r => PostS X.K T W H ρ r D) h (fun z => z) f).go g2
    refine (hrest (T.plus [(f, NdefX.FnO f (defF X stm name c')), (c', LamX.CodeO c' (X.env.qual ++ name))] []) f c' rfl (by exact List.mem_cons_self) (by exact List.mem_cons_of_mem _ List.mem_cons_self)).ps.run pins s1 _ H' D I' ⟨ρ, δ.set i (some (.ref f)), st, okP, (rs.go g2).set rfl, ?_⟩
    cases q : n f (δ.set i (some (.ref f))) st with
    | nx δ' st' => rw [q] at hp; exact fun a b c g o rs => hp a b c g o.minus (rs.drop1 i)
    | rt d st' => rw [q] at hp; exact fun a b c g o rd => hp a b c g o.minus rd
    | bk δ' st' => rw [q] at hp; exact fun a b c g o rs => hp a b c g o.minus (rs.drop1 i)
    | ct δ' st' => rw [q] at hp; exact fun a b c g o rs => hp a b c g o.minus (rs.drop1 i)
    | err C p δ' st' => rw [q] at hp; exact fun a d b c g o rs pr => hp a d b c g o.minus (rs.drop1 i) pr
    | bad => rw [q] at hp; exact hp.elim
  | ret u =>
    obtain ⟨_, _, _, _, _, z⟩ := q
    exact z.elim
  | brk =>
    obtain ⟨_, _, _, z⟩ := q
    exact z.elim
  | cont =>
    obtain ⟨_, _, _, z⟩ := q
    exact z.elim
/-- the derivation of a nested def's body -/
abbrev DefB (X : Cx) (tabs : List NdefX.NTab) (kc : Nat) (N : List Str) (stm : Stmt) (name : Str) (m : SM) : Prop :=
  ∀ (T' : Tb) (f c' : Addr) (A : Around) (outer : List Env) (s : Shared) (H : Hp) (E : XK) (X' : Cx), T'.tabs = tabs → X' = NdefX.ncx (L2.CX X.prog X.w) X.prog X.w X.K X.mg X.base N (defF X stm name c') f A outer s H E → Room kc X'.A → X'.A.guards = some [] → Takes X' (fun c d _ H => E c d H) → PassesOwn (model X'.prog X'.w) X'.A X'.env X'.xe → DB X' T' (fun c d _ H => E c d H) (C8.fnBody stm) m
/-- f(e, .., a, ..): a is a nested def of the running one -/
def eCallN (mf : Addr → (List D → Store → Res D) → List D → Store → Res D) (g : Addr) (lv : Nat → D → Store → Res D) (n k : Nat) (js : List Nat) (m : SM) (mas : AM) : EM := fun δ st => (mas δ st).bind fun xs st1 => mf g (cloM lv n k m (capsOf js δ)) xs st1
theorem de_callN {stm : Stmt} {name : Str} {m : SM} {lv : Nat → D → Store → Res D} {c' : Addr} (F : FnC X.prog X.w X.K X.mg X.base T.tabs (kc + 1) k f fd ps mf) (hgf : (g, NdefX.FnO g (defF X stm name c')) ∈ T.hs) (hgc : (c', LamX.CodeO c' (X.env.qual ++ name)) ∈ T.hs) (S : NdefX.NScope N qs fr (C8.fnScope stm)) (hn : N.length = n) (hp : qs.length = kp) (hl : Leaves lv) (hfr : ∀ y ∈ fr, (y, NameKind.free) ∈ (C8.fnScope stm).names)
    (hfree : ∀ y ∈ (C8.fnScope stm).names, y.2 = .free → X.env.scope.names.lookup y.1 = some .cell ∨ X.env.scope.names.lookup y.1 = some .free) (hjs : js.map (fun j => X.N[j]?) = fr.map some)
    (hbind : ∀ (doc pm ctv : Value) (us : List Value), us.length = qs.length → bindArgs ((defF X stm name c').fd doc pm ctv) ⟨us, []⟩ = pure (qs.zip us))
    (hbody : DefB X T.tabs kc N stm name m) (hr : Room k X.A) (hgd : X.A.guards = some []) (tk : Takes X W) (hg : Gl X x) (hm : X.mg x = some (.ref f)) (hk : PySem.W.keepIn X.K (.ref f) = true) (hb : Binds X.K fd ps [])
    (ha : DA X T W (e :: es) mas) (hdb : (x == ("__debug__" : Str)) = false := by decide) (he : starEach (e :: es) X.env = (false, eval e X.env) :: starEach es X.env := by rfl) (hpl : (backTo pos (starEach es X.env)).any (·.1) = false := by rfl) :
    DE X T W (.Call (.Name x p1) (e :: es) [] pos) (eCallN mf g lv n kp js m mas) := by
  refine ⟨⟨fun pins s σ H Q I ⟨ρ, δ, st, ok, rs, h⟩ => ?_⟩⟩
  refine wpAny_Call_Name_kw (ld_glob I hg hm ?_ hdb)
  refine PySem.W.callWith_K (h₀ := X.base) I.ok.mod.kin hk (thn (ha.pa.run pos pins s σ H (fun vs H2 => ∃ ρ1 ds st1, Ok X.K T H2 ρ1 st1 ∧ RS X.K H2 ρ1 δ σ ∧ RL X.K H2 ρ1 ds vs ∧ Post X.K T W (R X.K) σ H2 ρ1 (mf g (cloM lv n kp m (capsOf js δ)) ds st1) Q) I
    ⟨ρ, δ, st, ok, rs, Post.bind h fun xs st1 vs H1 ρ1 g1 ok1 rx h1 => ⟨ρ1, xs, st1, ok1, rs.go g1, rx, h1⟩⟩) fun us s1 ⟨vs, H1, I1, r, ρ1, ds, st1, ok1, rs1, rd, h1⟩ => ⟨I1.kIn, ?_⟩) he hpl
  have hlen : ds.length = ps.length := by
    by_cases q : ds.length = ps.length
    · exact q
    · rw [F.len _ _ _ _ q] at h1
      exact h1.elim
  have hbd := hb s1 us I1.kIn (by rw [List.append_nil, ← r.length, rd.len, hlen])
  rw [List.append_nil] at hbd
  have okP : Ok X.K (T.plus [] (capsV js δ σ)) H1 ρ1 st1 := ok1.plus (fun p hp => absurd hp (by simp)) (capsV_R rs1 js)
  have cl : Clo X.prog X.w X.K X.mg X.base (T.plus [] (capsV js δ σ)) (kc + 1) g (cloFrom X.env.cells (C8.fnScope stm).names []) fr (js.map (NdefX.slotAt σ)) (cloM lv n kp m (capsOf js δ)) := by
    have cr := capsR rs1 js
    exact Clo.of_def (F := defF X stm name c') S hn hp hl hbind (by exact hgf) (by exact hgc) ⟨cr.len, fun i d e => let ⟨v, h1, h2⟩ := cr.at' i d e; ⟨v, h1, List.mem_append.mpr (.inl h2)⟩⟩
      (fun A outer s H E X' hX => by subst hX; exact hbody _ g c' A outer s H E _ rfl rfl)
  exact after_call tk I1 (F.run (T.plus _ _) X.A X.stack s1 H1 ⟨us, []⟩ us vs ds ρ1 st1 Q (WE W σ) g _ fr _ _ rfl cl (NdefX.cells_of I1 (NdefX.Caps.made I1.ok hfree hfr hjs)) hr hgd I1.env0 hbd r okP rd (Post.weak (fun _ _ _ z => z.minus) h1).we)
end
end L3

/-! ### text Ll -/
namespace L3
open PySem PySem.Spec PyProof.Rows L2

/-! ### raise X(e) -/
/-- what an own exception's __init__ does: self.fld = y -/
def spX (K : PySem.W.Frag) (fld : Str) : Sp := fun vs H Q _ => ∃ (a C : Addr) (y : V), vs = [.ref a, y] ∧ OexC K C ∧ PySem.W.findIn K (.ref C) fld = some none ∧ H a = some (exo a C none) ∧ ∀ dx, H dx = none → dx ≠ a → Q .non (upd (upd H dx (exd dx [(fld, y)])) a (exo a C (some dx)))
/-- an own exception class x at C, with the field fld -/
structure ExD (P : Program) (w : World) (K : PySem.W.Frag) (mg : Str → Option Value) (base : Heap) (x : Str) (C : Addr) (fld : Str) : Prop where
  ex : ∃ (fI : Addr) (fd : FuncData) (ps : List Str), OexC K C ∧ PySem.W.findIn K (.ref C) "__init__" = some (some (.ref fI)) ∧ PySem.W.typeIn K (.ref fI) = some (.type "function") ∧ FnOk P w K mg base C8.CX0 1 fI fd ps (spX K fld) ∧ Binds K fd ps [] ∧
    mg x = some (.ref C) ∧ PySem.W.findIn K (.ref C) fld = some none
theorem exInit {P : Program} {w : World} {K : PySem.W.Frag} {mg : Str → Option Value} {base : Heap} {x qual fld fld2 : Str} {stm : Stmt} {f : Addr} {fd : FuncData} {p1 p2 p3 p4 : Pos} (F : Fun K x qual stm f fd) (S : FnScope ["self", fld2] ["self", fld2] (defScope stm))
    (hb : defBody stm = [.Assign [.Attribute (.Name "self" p1) fld p2] (.Name fld2 p3) p4]) (hd : (fld2 == ("__debug__" : Str)) = false) (hc : (fld2 == ("__classdict__" : Str)) = false) : FnOk P w K mg base C8.CX0 1 f fd ["self", fld2] (spX K fld) := by
  refine F.ok S (fun vs H Q E h => ?_) (fun cdv A outer s H vs Q E hr h => ?_)
  · obtain ⟨a, C, y, rfl, _⟩ := h
    rfl
  · obtain ⟨a, C, y, rfl, hO, hn, ha, h⟩ := h
    rw [hb]
    have v1 : Vis (defScope stm) ("self" : Str) := (S.par "self" (by simp)).elim .inl fun z => .inr (.inl z)
    have v2 : Vis (defScope stm) fld2 := (S.par fld2 (by simp)).elim .inl fun z => .inr (.inl z)
    refine ⟨_, pss_one (ps_ost (pe_var (i := 0) rfl v1 (by decide) (by decide)) (pe_var (i := 1) rfl v2 hd hc)), ?_⟩
    exact ⟨_, rfl, _, rfl, a, C, rfl, hO, hn, .inl ⟨ha, h⟩⟩
section
variable {X : Cx} {T : Tb} {W : WX} {e : Expr} {me : EM} {C : Addr} {fld x n : Str} {p1 p2 pos p : Pos} {m : SM}
def sRaise (C : Addr) (fld : Str) (me : EM) : SM := fun δ st => sBind (me δ st) δ fun d st1 => .err C (some (fld, d)) δ st1
theorem ds_raise (E : ExD X.prog X.w X.K X.mg X.base x C fld) (hr : Room 2 X.A) (hc : X.calm = true) (tk : Takes X W) (hg : Gl X x) (he : DE X T W e me) (hdb : (x == ("__debug__" : Str)) = false := by decide) (hs : starEach [e] X.env = (false, eval e X.env) :: starEach [] X.env := by rfl) :
    DS X T W (.Raise (some (.Call (.Name x p1) [e] [] p2)) none pos) (sRaise C fld me) := by
  obtain ⟨fI, fd, ps, O, iC, tI, F1, hb, hm, hn⟩ := E.ex
  refine ⟨PS.imp (ps_raise hc tk (pmk_oex (ds := []) (dvs := []) O iC tI F1 hr hb .nil C8.pass0 hg hm (pa_cons he.pe pa_nil hs) hdb hs (by rfl))) fun D σ H ⟨ρ, δ, st, ok, rs, h⟩ => ?_⟩
  refine ⟨ρ, δ, st, ok, rs, PostS.bind h rs fun d st1 y H1 ρ1 g1 ok1 ry h1 => ⟨by simp, fun a ha => ⟨a, C, y, rfl, O, hn, upd_same, fun dx h2 h3 => ⟨rfl, dx, [(fld, y)], upd_same, ?_, ?_, ?_⟩⟩⟩⟩
  · rw [upd_ne h3, upd_same]
  · rw [upd_ne h3] at h2; exact h2
  · have h4 : H1 dx = none := by rw [upd_ne h3] at h2; exact h2
    have e : upd (del (upd (upd (upd H1 a (exo a C none)) dx (exd dx [(fld, y)])) a (exo a C (some dx))) a) dx (.xd [(fld, y)]) = upd H1 dx (.xd [(fld, y)]) := by
      funext b
      by_cases hb : b = dx
      · subst hb; rw [upd_same, upd_same]
      · rw [upd_ne hb, upd_ne hb]
        by_cases hb2 : b = a
        · subst hb2; rw [del_same, ha]
        · rw [del_ne hb2, upd_ne hb2, upd_ne hb, upd_ne hb2]
    rw [e]
    have g2 : Go H1 ρ1 (upd H1 dx (.xd [(fld, y)])) ρ1 := go_new h4
    exact h1 σ (some dx) _ ρ1 g2 (ok1.alloc h4) ((rs.go g1).go g2) ⟨dx, y, rfl, upd_same, ok1.new h4, R.go g2 _ _ ry⟩
/-! ### try .. except .. -/
inductive Hd where
  | plain (C : Addr) (m : SM)
  | named (C : Addr) (fld : Str) (i : Nat) (m : Addr → D → SM)
/-- an except suite raises nothing -/
def noE (r : SRes) : SRes := match r with
  | .err _ _ _ _ => .bad
  | r => r
/-- .. and its name goes -/
def dropE (i : Nat) (r : SRes) : SRes := match r with
  | .nx δ st => .nx (δ.set i none) st
  | .bk δ st => .bk (δ.set i none) st
  | .ct δ st => .ct (δ.set i none) st
  | .rt d st => .rt d st
  | _ => .bad
noncomputable def sHandle (K : PySem.W.Frag) : List Hd → Addr → Option (Str × D) → Sl → Store → SRes
  | [], C, p, δ, st => .err C p δ st
  | .plain Ck m :: r, C, p, δ, st => match PySem.W.exmOne K (.ref C) (.ref Ck) with
    | some true => noE (m δ st)
    | some false => sHandle K r C p δ st
    | none => .bad
  | .named Ck fld i m :: r, C, p, δ, st => match PySem.W.exmOne K (.ref C) (.ref Ck) with
    | some true => match p with
      | some (f, d) => if f = fld ∧ C = Ck then anyF .bad fun a => dropE i (m a d (δ.set i (some (.ref a))) st) else .bad
      | none => .bad
    | some false => sHandle K r C p δ st
    | none => .bad
noncomputable def sTry (K : PySem.W.Frag) (l : List Hd) (m : SM) : SM := fun δ st => match m δ st with
  | .err C p δ' st' => sHandle K l C p δ' st'
  | r => r
inductive HdsD (X : Cx) (T : Tb) : List ExceptHandler → List Hd → Prop
  | nil : HdsD X T [] []
  | plain {x : Str} {C : Addr} {m : SM} {b₀ : Stmt} {suite : List Stmt} {np pos' : Pos} {hds : List ExceptHandler} {l : List Hd} (hc : Names X x (.ref C))
      (hsu : ∀ (T' : Tb) (a : Addr) (oe : Obj) (pn : List (Addr × Obj)), T'.tabs = T.tabs → DB (X.suite a ((a, oe) :: pn)) T' W0 (b₀ :: suite) m) (r : HdsD X T hds l) : HdsD X T (.ExceptHandler (some (.Name x np)) none (b₀ :: suite) pos' :: hds) (.plain C m :: l)
  | named {x n : Str} {C : Addr} {fld : Str} {i : Nat} {m : Addr → D → SM} {b₀ : Stmt} {suite : List Stmt} {np pos' : Pos} {hds : List ExceptHandler} {l : List Hd} (hc : Names X x (.ref C)) (hi : X.N[i]? = some n) (hln : X.env.kindOf n = some .local)
      (hsu : ∀ (T' : Tb) (a dd : Addr) (oe : Obj) (w : V) (d : D) (pn : List (Addr × Obj)), T'.tabs = T.tabs → (dd, HO.xd [(fld, w)]) ∈ T'.hs → (d, w) ∈ T'.vs → Zc (.ref C) (some dd) oe → (∃ vs, oe.data = .fields vs) → DB (X.suite a ((a, oe) :: pn)) T' W0 (b₀ :: suite) (m a d)) (r : HdsD X T hds l) :
      HdsD X T (.ExceptHandler (some (.Name x np)) (some n) (b₀ :: suite) pos' :: hds) (.named C fld i m :: l)
theorem PostS.noE {K : PySem.W.Frag} {T : Tb} {W : WX} {H : Hp} {ρ : Wo} {r : SRes} {Dn : Ends} (h : PostS K T W H ρ (L3.noE r) Dn) : PostS K T W0 H ρ r Dn := by
  cases r with
  | nx δ st => exact h
  | rt δ st => exact h
  | bk δ st => exact h
  | ct δ st => exact h
  | err C p δ st => exact h.elim
  | bad => exact h
theorem PostS.dropE {K : PySem.W.Frag} {T : Tb} {W : WX} {H : Hp} {ρ : Wo} {r : SRes} {Dn : Ends} {i : Nat} (h : PostS K T W H ρ (L3.dropE i r) Dn) :
    PostS K T W0 H ρ r { nx := fun σ' H' => Dn.nx (σ'.set i none) H', rt := Dn.rt, bk := fun σ' H' => Dn.bk (σ'.set i none) H', ct := fun σ' H' => Dn.ct (σ'.set i none) H' } := by
  cases r with
  | nx δ st => exact fun a b c g o rs => h _ b c g o rs.unset
  | rt δ st => exact h
  | bk δ st => exact fun a b c g o rs => h _ b c g o rs.unset
  | ct δ st => exact fun a b c g o rs => h _ b c g o rs.unset
  | err C p δ st => exact h.elim
  | bad => exact h
theorem ds_try {body : List Stmt} {h₀ : ExceptHandler} {hds : List ExceptHandler} {l : List Hd} (hs : X.stack = X.env :: X.outer) (hf : X.env.frame = some X.env.locals) (hN : X.N.Nodup) (tk : Takes X W)
    (hb : ∀ (W' : WX) (pn : List (Addr × Obj)) (xe : Value → Shared → Prop), Takes (X.tr pn xe) W' → PassesOwn (model X.prog X.w) X.A X.env xe → DB (X.tr pn xe) T W' body m) (hh : HdsD X T (h₀ :: hds) l) :
    DS X T W (.Try body (h₀ :: hds) [] [] pos) (sTry X.K l m) := by
  refine ⟨⟨fun pins s σ H D I ⟨ρ, δ, st, okD, rs, h⟩ => ?_⟩⟩
  have ok := I.ok
  have hfr : X.A.frames = some (X.env :: X.outer) := by rw [ok.frames, hs]
  refine wpAny_Try_except ?_
  refine wpAny_mono ((hb (fun cls d σ H => ∃ C p ρ δ st, cls = .ref C ∧ Ok X.K T H ρ st ∧ RS X.K H ρ δ σ ∧ PayR X.K H ρ p d ∧ PostS X.K T W H ρ (sHandle X.K l C p δ st) D) (X.pn ++ pins) (fun e s₁ => wpAny (model X.prog X.w) X.A (noteFrame e X.env) (fun _ s₂ => wpAny (model X.prog X.w) X.A (setFlight e none) (fun _ s₃ =>
    wpAny (model X.prog X.w) X.A (handleBy e X.env (h₀ :: hds)) (SP X pins D) X.xe s₃) X.xe s₂) X.xe s₁) (fun u s' xx => ?_) PassesOwn.looking).ps.run [] s σ H D (I.toTry _) ⟨ρ, δ, st, okD, rs, ?_⟩) (fun f s1 hsp => ?_) (fun e s1 he => he)
  · -- the catch
    obtain ⟨a, B, sI, pins', σ', H', cls, d, rfl, J', nb, up, sky, na, os, ag, C, p, ρ', δ', st', rfl, ok', rs', pr, w⟩ := xx
    have J : Inv X pins σ' H' sI := J'.ofTry ok
    have sky' : Sky B (X.env :: X.outer) a (Zc (.ref C) d) X.env.locals s'.heap := by rw [← hs]; exact sky
    show wpAny (model X.prog X.w) X.A (noteFrame (.ref a) X.env) _ _ _
    refine Sky.land Zc.steady hfr hf sky' fun h3 fl3 up3 => ?_
    have J3 : Inv X pins σ' H' { s' with heap := h3 } := J.landed nb fl3.1 (up.trans up3) os ag
    obtain ⟨oe3, vs3, he3, hz3, hd3⟩ := fl3.there
    have notFr : ∀ {h : Heap} {o : Obj} {vs : Array Value}, h.FunFrames B (X.env :: X.outer) → h.get? a = some o → o.data = .fields vs → a ∉ frs (X.env :: X.outer) := fun {h o vs} ff e dd hm => by
      obtain ⟨_, o', e', hnf⟩ := ff.mem hm
      rw [e] at e'; cases e'
      exact hnf _ dd
    have nfr := notFr fl3.2.2.1 he3 hd3
    have nL : a ≠ X.env.locals := fun z => nfr (List.mem_filterMap.mpr ⟨X.env, List.mem_cons_self, by rw [hf, z]⟩)
    have nF : a ∉ X.fs := fun hm => by
      obtain ⟨e, he, q⟩ := List.mem_filterMap.mp hm
      exact nfr (List.mem_filterMap.mpr ⟨e, List.mem_cons_of_mem _ he, q⟩)
    have S3 := J3.suite he3 hd3 na nL nF
    have testC : ∀ {x : Str} {np : Pos} {C0 : Addr} {Q : Value → Shared → Prop} {E : Value → Shared → Prop}, Names X x (.ref C0) → Q (.ref C0) { s' with heap := h3 } → wpAny (model X.prog X.w) (X.A.mark (some (.ref a))) (eval (.Name x np) X.env) Q E { s' with heap := h3 } := fun {x np C0 Q E} hc q => by
      obtain ⟨hg, hdbg, hm | ⟨hm, hv, hnn⟩⟩ := hc
      · exact ld_glob (X := X.suite a ((a, oe3) :: (X.pn ++ pins))) S3 hg hm q hdbg
      · exact ld_blt (X := X.suite a ((a, oe3) :: (X.pn ++ pins))) S3 hg hm hv q hnn hdbg
    have LT : PySem.W.Looks (model X.prog X.w) h3 (typeOf (.ref a)) (.ref C) := fun A Q E s k q => wpAny_typeOf_ref (k _ _ he3) (by rw [hz3.1]; exact q)
    have go : ∀ {hds' : List ExceptHandler} {l' : List Hd}, HdsD X T hds' l' → PostS X.K T W H' ρ' (sHandle X.K l' C p δ' st') D →
        wpAny (model X.prog X.w) X.A (handleBy (.ref a) X.env hds') (SP X pins D) X.xe { s' with heap := h3 } := by
      intro hds' l' hk
      induction hk with
      | nil =>
        intro w
        have w' : W (.ref C) d σ' H' := w σ' d H' ρ' (Go.refl _ _) ok' rs' pr
        refine wpAny_handleBy_nil ?_
        obtain ⟨k1, k2, k3, oe, vs, T, oT, ts', he, hz, hd, h1, hr⟩ := id fl3
        unfold PySem.passOn
        refine wpAny_bind (wpAny_field he hd h1 ?_)
        rw [if_neg (show ¬ ((Value.ref T == Value.none) = true) from by simp)]
        have fin : wpAny (model X.prog X.w) X.A (setFlight (.ref a) X.env.frame) (fun _ s4 => wpAny (model X.prog X.w) X.A (throw (.ref a) : Sem Flow) (SP X pins D) X.xe s4) X.xe { s' with heap := h3 } := by
          rw [hf]
          refine HandSPX.setFlight_upZ fl3 fun h4 hh4 up4 => wpAny_throw (tk _ _ ?_)
          exact ⟨a, B, sI, pins, σ', H', .ref C, d, rfl, J, nb, (up.trans up3).trans up4, .inr (.inr (by rw [hs]; exact hh4)), na, os, ag, w'⟩
        first
          | exact wpAny_bind (wpAny_pure (wpAny_bind fin))
          | exact wpAny_bind fin
      | @plain x C0 m0 b₀ suite np pos' hds2 l2 hc hsu r ih =>
        intro w
        unfold sHandle at w
        refine wpAny_handleBy_cons (codeAny_handlers_test ?_) (by intro q; cases q)
        split at w
        · rename_i hb1
          refine testC hc ((PySem.W.exm_one (M := model X.prog X.w) (J3.kIn) LT hb1).here ?_)
          refine codeAny_handlers_suite ?_
          refine HandSPX.lands_againZ fl3 fun h4 fl4 up4 => ?_
          have J4 : Inv X pins σ' H' { s' with heap := h4 } := J.landed nb fl4.1 ((up.trans up3).trans up4) os ag
          obtain ⟨oe4, vs4, he4, hz4, hd4⟩ := fl4.there
          have S4 := J4.suite he4 hd4 na nL nF
          refine wpAny_mono ((hsu T a oe4 (X.pn ++ pins) rfl).ps.run [] _ _ H' D S4 ⟨ρ', δ', st', ok', rs', w.noE⟩) (fun f s6 hsp => ?_) (fun _ _ z => False.elim z)
          cases f with
          | next =>
            obtain ⟨σ6, H6, S6, q6⟩ := hsp
            exact ⟨_, _, S6.unsuite ok, q6⟩
          | brk =>
            obtain ⟨σ6, H6, S6, q6⟩ := hsp
            exact ⟨_, _, S6.unsuite ok, q6⟩
          | cont =>
            obtain ⟨σ6, H6, S6, q6⟩ := hsp
            exact ⟨_, _, S6.unsuite ok, q6⟩
          | ret u =>
            obtain ⟨v6, σ6, H6, S6, r6, q6⟩ := hsp
            exact ⟨_, _, _, S6.unsuite ok, r6, q6⟩
        · rename_i hb1
          refine testC hc ((PySem.W.exm_one (M := model X.prog X.w) (J3.kIn) LT hb1).here ?_)
          show wpAny _ X.A (handleBy (.ref a) X.env hds2) _ _ _
          exact ih w
        · exact w.elim
      | @named x n C0 fld i m0 b₀ suite np pos' hds2 l2 hc hi hln hsu r ih =>
        intro w
        unfold sHandle at w
        refine wpAny_handleBy_cons (codeAny_handlers_test ?_) (by intro q; cases q)
        split at w
        · rename_i hb1
          refine testC hc ((PySem.W.exm_one (M := model X.prog X.w) (J3.kIn) LT hb1).here ?_)
          split at w
          rotate_left
          · exact w.elim
          rename_i f0 d0 w0
          split at w
          rotate_left
          · exact w.elim
          rename_i hfc
          obtain ⟨rfl, rfl⟩ := hfc
          obtain ⟨dd, wv, rfl, hdd, ndd, rdd⟩ := pr
          refine codeAny_handlers_suite_as ?_
          refine HandSPX.lands_againZ fl3 fun h4 fl4 up4 => ?_
          have J4 : Inv X pins σ' H' { s' with heap := h4 } := J.landed nb fl4.1 ((up.trans up3).trans up4) os ag
          obtain ⟨oe4, vs4, he4, hz4, hd4⟩ := fl4.there
          have S4 := J4.suite he4 hd4 na nL nF
          have okP : Ok X.K (T.plus [(dd, HO.xd [(f0, wv)])] [(d0, wv)]) H' ρ' st' := ok'.plus (fun q hq => by
            rw [List.mem_singleton.mp hq]
            exact ⟨hdd, ndd, fun ps z => by cases z⟩) (fun q hq => by rw [List.mem_singleton.mp hq]; exact rdd)
          have wa := anyF_at (p := fun r => PostS X.K T W H' ρ' r D) w (fun z => z) a
          refine store_ok (X := X.suite a ((a, oe4) :: (X.pn ++ pins))) (v := .ref a) S4 hN hi (.inl hln) rfl (fun s5 S5 => ?_) (.inr hln)
          refine wpAny_mono ((hsu (T.plus [(dd, HO.xd [(f0, wv)])] [(d0, wv)]) a dd oe4 wv d0 (X.pn ++ pins) rfl (by exact List.mem_cons_self) (by exact List.mem_cons_self) hz4 ⟨_, hd4⟩).ps.run [] s5 _ H' { nx := fun σ' H' => D.nx (σ'.set i none) H', rt := D.rt, bk := fun σ' H' => D.bk (σ'.set i none) H', ct := fun σ' H' => D.ct (σ'.set i none) H' } S5
            ⟨ρ', δ'.set i (some (.ref a)), st', okP, rs'.set rfl, PostS.weak (fun _ _ _ z => z.minus) wa.dropE⟩) (fun f s6 hsp => ?_) (fun _ _ z => False.elim z)
          have end_ : ∀ {σ6 : L2.St} {H6 : Hp} {Q : Shared → Prop}, Inv (X.suite a ((a, oe4) :: (X.pn ++ pins))) [] σ6 H6 s6 → (∀ s7, Inv X pins (σ6.set i none) H6 s7 → Q s7) →
              wpAny (model X.prog X.w) X.A (do bindName X.env n .none; unbindBehindTheSuite X.env n pos') (fun _ s7 => Q s7) X.xe s6 := fun {σ6 H6 Q} S6 hq => gone_ok (S6.unsuite ok) hN hi hln hq
          cases f with
          | next =>
            obtain ⟨σ6, H6, S6, q6⟩ := hsp
            exact end_ S6 fun s7 J7 => ⟨_, _, J7, q6⟩
          | brk =>
            obtain ⟨σ6, H6, S6, q6⟩ := hsp
            exact end_ S6 fun s7 J7 => ⟨_, _, J7, q6⟩
          | cont =>
            obtain ⟨σ6, H6, S6, q6⟩ := hsp
            exact end_ S6 fun s7 J7 => ⟨_, _, J7, q6⟩
          | ret u =>
            obtain ⟨v6, σ6, H6, S6, r6, q6⟩ := hsp
            exact end_ S6 fun s7 J7 => ⟨_, _, _, J7, r6, q6⟩
        · rename_i hb1
          refine testC hc ((PySem.W.exm_one (M := model X.prog X.w) (J3.kIn) LT hb1).here ?_)
          show wpAny _ X.A (handleBy (.ref a) X.env hds2) _ _ _
          exact ih w
        · exact w.elim
    exact go hh w
  · unfold sTry at h
    cases q : m δ st with
    | err C p δ' st' =>
      rw [q] at h
      exact fun σ' d H' ρ' g o rs' pr => ⟨C, p, ρ', δ', st', rfl, o, rs', pr, PostS.go h g⟩
    | nx _ _ => rw [q] at h; exact h
    | rt _ _ => rw [q] at h; exact h
    | bk _ _ => rw [q] at h; exact h
    | ct _ _ => rw [q] at h; exact h
    | bad => rw [q] at h; exact h
  · cases f with
    | next =>
      obtain ⟨σ', H', J', q⟩ := hsp
      exact wpAny_execs_nil ⟨σ', H', J'.ofTry ok, q⟩
    | brk =>
      obtain ⟨σ', H', J', q⟩ := hsp
      exact ⟨σ', H', J'.ofTry ok, q⟩
    | cont =>
      obtain ⟨σ', H', J', q⟩ := hsp
      exact ⟨σ', H', J'.ofTry ok, q⟩
    | ret u =>
      obtain ⟨v, σ', H', J', r, q⟩ := hsp
      exact ⟨v, σ', H', J'.ofTry ok, r, q⟩
/-- e.fld in an except suite -/
def eXf (i : Nat) (a : Addr) (d : D) : EM := fun δ st => match δ[i]? with
  | some (some (.ref b)) => if b = a then .ok d st else .bad
  | _ => .bad
theorem de_xf (i : Nat) {a dd : Addr} {oe : Obj} {pn : List (Addr × Obj)} {w : V} {d : D} (hX : XfC X.K C) (hno : PySem.W.findIn X.K (.ref C) fld = some none) (hz : Zc (.ref C) (some dd) oe) (hf : ∃ vs, oe.data = .fields vs) (hd : (dd, HO.xd [(fld, w)]) ∈ T.hs) (hw : (d, w) ∈ T.vs)
    (hN : X.N[i]? = some n := by rfl) (hv : Vis X.env.scope n := by first | exact Or.inl rfl | exact Or.inr (Or.inl rfl) | exact Or.inr (Or.inr rfl)) (hdb : (n == ("__debug__" : Str)) = false := by decide) (hcd : (n == ("__classdict__" : Str)) = false := by decide)
    (hb : attributeBase (.Name n p) fld X.env (eval (.Name n p) X.env) = eval (.Name n p) X.env := by rfl) : DE (X.suite a ((a, oe) :: pn)) T W (.Attribute (.Name n p) fld pos) (eXf i a d) := by
  refine ⟨PE.imp (pe_xf (d := some dd) hX hno hz hf (pe_var (i := i) hN hv hdb hcd) hb) fun σ H Q ⟨ρ, δ, st, ok, rs, h⟩ => ?_⟩
  unfold eXf at h
  split at h
  · rename_i b eb
    split at h
    · rename_i hba
      subst hba
      obtain ⟨v, h2, h3⟩ := rs.at' _ _ eb
      obtain rfl : v = .ref b := h3
      refine ⟨_, h2, rfl, rfl, dd, [(fld, w)], w, rfl, (ok.al.o _ hd).1, by simp [List.lookup], h.ok ok (ok.al.v _ hw)⟩
    · exact h.elim
  · exact h.elim
end
end L3

/-! ### text Lm -/
namespace L3
open PySem PySem.Spec PyProof.Rows L2

/-! ### built-ins -/
def isInts : List D → Option (List Int)
  | [] => some []
  | .int i :: r => (isInts r).map (i :: ·)
  | _ :: _ => none
theorem ints_of : ∀ {ds : List D} {ns : List Int}, isInts ds = some ns → ds = ns.map D.int
  | [], _, h => by cases h; rfl
  | d :: r, ns, h => by
    cases d with
    | int i =>
      simp only [isInts, Option.map_eq_some_iff] at h
      obtain ⟨m, h, rfl⟩ := h
      rw [List.map_cons, ← ints_of h]
    | _ => cases h
@[simp] theorem isInts_map (ns : List Int) : isInts (ns.map D.int) = some ns := by
  induction ns with
  | nil => rfl
  | cons n r ih => simp only [List.map_cons, isInts, ih, Option.map_some]
theorem RL.ints {K : PySem.W.Frag} {H : Hp} {ρ : Wo} : ∀ {ns : List Int} {vs : List V}, RL K H ρ (ns.map D.int) vs → vs = ns.map V.int
  | [], _, h => h
  | _ :: _, _, ⟨_, _, e, h1, h2⟩ => by rw [e, List.map_cons, show _ = V.int _ from h1, RL.ints h2]
def isBls : List D → Option (List Bool)
  | [] => some []
  | .bl i :: r => (isBls r).map (i :: ·)
  | _ :: _ => none
theorem bls_of : ∀ {ds : List D} {ns : List Bool}, isBls ds = some ns → ds = ns.map D.bl
  | [], _, h => by cases h; rfl
  | d :: r, ns, h => by
    cases d with
    | bl i =>
      simp only [isBls, Option.map_eq_some_iff] at h
      obtain ⟨m, h, rfl⟩ := h
      rw [List.map_cons, ← bls_of h]
    | _ => cases h
@[simp] theorem isBls_map (ns : List Bool) : isBls (ns.map D.bl) = some ns := by
  induction ns with
  | nil => rfl
  | cons n r ih => simp only [List.map_cons, isBls, ih, Option.map_some]
theorem RL.bls {K : PySem.W.Frag} {H : Hp} {ρ : Wo} : ∀ {ns : List Bool} {vs : List V}, RL K H ρ (ns.map D.bl) vs → vs = ns.map V.bl
  | [], _, h => h
  | _ :: _, _, ⟨_, _, e, h1, h2⟩ => by rw [e, List.map_cons, show _ = V.bl _ from h1, RL.bls h2]
def minI : List Int → Int
  | [] => 0
  | x :: xs => xs.foldl (fun a y => if y < a then y else a) x
def maxI : List Int → Int
  | [] => 0
  | x :: xs => xs.foldl (fun a y => if y > a then y else a) x
theorem minI_fold : ∀ (xs : List Int) (x : Int), (xs.foldl (fun a y => if y < a then y else a) x ∈ x :: xs) ∧ ∀ y ∈ x :: xs, xs.foldl (fun a y => if y < a then y else a) x ≤ y
  | [], x => by simp
  | y :: ys, x => by
    rw [List.foldl_cons]
    obtain ⟨h1, h2⟩ := minI_fold ys (if y < x then y else x)
    generalize List.foldl (fun a y => if y < a then y else a) (if y < x then y else x) ys = m at h1 h2
    have h3 := h2 _ List.mem_cons_self
    refine ⟨?_, fun z hz => ?_⟩
    · rcases List.mem_cons.mp h1 with h | h
      · rw [h]; split <;> simp
      · exact List.mem_cons_of_mem _ (List.mem_cons_of_mem _ h)
    · rcases List.mem_cons.mp hz with rfl | hz
      · split at h3 <;> omega
      · rcases List.mem_cons.mp hz with rfl | hz
        · split at h3 <;> omega
        · exact h2 z (List.mem_cons_of_mem _ hz)
theorem maxI_fold : ∀ (xs : List Int) (x : Int), (xs.foldl (fun a y => if y > a then y else a) x ∈ x :: xs) ∧ ∀ y ∈ x :: xs, y ≤ xs.foldl (fun a y => if y > a then y else a) x
  | [], x => by simp
  | y :: ys, x => by
    rw [List.foldl_cons]
    obtain ⟨h1, h2⟩ := maxI_fold ys (if y > x then y else x)
    generalize List.foldl (fun a y => if y > a then y else a) (if y > x then y else x) ys = m at h1 h2
    have h3 := h2 _ List.mem_cons_self
    refine ⟨?_, fun z hz => ?_⟩
    · rcases List.mem_cons.mp h1 with h | h
      · rw [h]; split <;> simp
      · exact List.mem_cons_of_mem _ (List.mem_cons_of_mem _ h)
    · rcases List.mem_cons.mp hz with rfl | hz
      · split at h3 <;> omega
      · rcases List.mem_cons.mp hz with rfl | hz
        · split at h3 <;> omega
        · exact h2 z (List.mem_cons_of_mem _ hz)
theorem minI_eq {ns : List Int} {m : Int} (h : m ∈ ns) (k : ∀ y ∈ ns, m ≤ y) : m = minI ns := by
  cases ns with
  | nil => simp at h
  | cons x xs =>
    obtain ⟨h1, h2⟩ := minI_fold xs x
    exact Int.le_antisymm (k _ h1) (h2 _ h)
theorem maxI_eq {ns : List Int} {m : Int} (h : m ∈ ns) (k : ∀ y ∈ ns, y ≤ m) : m = maxI ns := by
  cases ns with
  | nil => simp at h
  | cons x xs =>
    obtain ⟨h1, h2⟩ := maxI_fold xs x
    exact Int.le_antisymm (h2 _ h) (k _ h1)
theorem minI_mem {ns : List Int} (h : 0 < ns.length) : minI ns ∈ ns ∧ ∀ y ∈ ns, minI ns ≤ y := by
  cases ns with
  | nil => simp at h
  | cons x xs => exact minI_fold xs x
theorem maxI_mem {ns : List Int} (h : 0 < ns.length) : maxI ns ∈ ns ∧ ∀ y ∈ ns, y ≤ maxI ns := by
  cases ns with
  | nil => simp at h
  | cons x xs => exact maxI_fold xs x

def bLen : List D → Store → Res D
  | [.str z], st => if z.length ≤ 1000000 then .ok (.int z.length) st else .bad
  | [.loc n], st => match st[n]? with
    | some (.lst xs) => .ok (.int xs.length) st
    | some (.dk kvs) => .ok (.int kvs.length) st
    | _ => .bad
  | [x], st => match sqOf x st with
    | some xs => .ok (.int xs.length) st
    | none => .bad
  | _, _ => .bad
def bAbs : List D → Store → Res D
  | [.int i], st => .ok (.int (if i < 0 then -i else i)) st
  | _, _ => .bad
def bInt : List D → Store → Res D
  | [.int i], st => .ok (.int i) st
  | [.bl k], st => .ok (.int (if k then 1 else 0)) st
  | _, _ => .bad
def bDivmod : List D → Store → Res D
  | [.int i, .int j], st => if 0 < j ∧ j.natAbs < 1073741824 then .ok (.tup [.int (i / j), .int (i % j)]) st else .bad
  | _, _ => .bad
def bSum : List D → Store → Res D
  | [x], st => match sqOf x st with
    | some xs => match isInts xs with
      | some ns => .ok (.int ns.sum) st
      | none => .bad
    | none => .bad
  | _, _ => .bad
def bMax : List D → Store → Res D
  | [.int i, .int j], st => .ok (.int (if j > i then j else i)) st
  | [x], st => match sqOf x st with
    | some xs => match isInts xs with
      | some ns => if 0 < ns.length then .ok (.int (maxI ns)) st else .bad
      | none => .bad
    | none => .bad
  | _, _ => .bad
def bMin : List D → Store → Res D
  | [.int i, .int j], st => .ok (.int (if j < i then j else i)) st
  | [x], st => match sqOf x st with
    | some xs => match isInts xs with
      | some ns => if 0 < ns.length then .ok (.int (minI ns)) st else .bad
      | none => .bad
    | none => .bad
  | _, _ => .bad
def bAll : List D → Store → Res D
  | [x], st => match lsOf x st with
    | some xs => match isBls xs with
      | some bs => .ok (.bl (bs.all id)) st
      | none => .bad
    | none => .bad
  | _, _ => .bad
def bAny : List D → Store → Res D
  | [x], st => match lsOf x st with
    | some xs => match isBls xs with
      | some bs => .ok (.bl (bs.any id)) st
      | none => .bad
    | none => .bad
  | _, _ => .bad
/-- tuple(xs) -/
def bTuple : List D → Store → Res D
  | [x], st => match sqOf x st with
    | some xs => .ok (.tup xs) st
    | none => .bad
  | _, _ => .bad
/-- list(xs), a list that may change -/
def bList : List D → Store → Res D
  | [x], st => match sqOf x st with
    | some xs => .ok (.loc st.length) (st ++ [.lst xs])
    | none => .bad
  | _, _ => .bad
def reprOk (p : PyData) : Bool := p.showable && !p.hasDict && decide (p.depth ≤ 40) && decide (p.shown.length ≤ 1000000)
def bRepr : List D → Store → Res D
  | [x], st => match toPd x st with
    | some p => if reprOk p = true then .ok (.str p.shown) st else .bad
    | none => .bad
  | _, _ => .bad
/-- a value's type -/
def tyD : D → Store → Option Value
  | .non, _ => some (.type "NoneType")
  | .bl _, _ => some (.type "bool")
  | .int _, _ => some (.type "int")
  | .str _, _ => some (.type "str")
  | .tup _, _ => some (.type "tuple")
  | .fl _, _ => some (.type "list")
  | .rl _, _ => some (.type "list")
  | .obj C _ _, _ => some (.ref C)
  | .loc n, st => match st[n]? with
    | some (.lst _) => some (.type "list")
    | some (.dk _) => some (.type "dict")
    | some (.obj C _ _) => some (.ref C)
    | none => none
  | _, _ => none
def clsD : D → Option Value
  | .ty n => some (.type n)
  | .ref C => some (.ref C)
  | _ => none
def okTy (cs : List Addr) : Value → Bool
  | .ref C => cs.contains C
  | _ => true
/-- isinstance(x, c); cs: the own classes whose instances are told -/
def bIsi (K : PySem.W.Frag) (cs : List Addr) : List D → Store → Res D
  | [x, c], st => match tyD x st, clsD c with
    | some t, some u => if okTy cs t = true then match PySem.W.kitOne K t u with
      | some b => .ok (.bl b) st
      | none => .bad else .bad
    | _, _ => .bad
  | _, _ => .bad
/-- an own class whose instances are told by isinstance -/
structure TyC (K : PySem.W.Frag) (C : Addr) : Prop where
  ex : ∀ (H : Hp) (a dx : Addr) (fs : List (Str × V)), H a = some (.ins C dx fs) → TyX K H (.ref a) (.ref C)
section
variable {X : Cx} {T : Tb}
theorem tell_len : TellN X T (fun xs H Q => (∃ z, xs = [.str z] ∧ z.length ≤ sizeLine ∧ Q (.int z.length) H) ∨ (∃ p ys, xs = [.ref p] ∧ (SqL X.K H p ys ∨ SqT X.K H p ys) ∧ Q (.int ys.length) H) ∨ ∃ a kvs, xs = [V.ref a] ∧ H a = some (.dK kvs) ∧ Q (.int kvs.length) H) bLen := by
  intro W σ H ρ st xs vs Q ok r h
  unfold bLen at h
  split at h
  · rename_i z
    obtain ⟨v, rfl, rv⟩ := RL.one r
    cases rv
    split at h
    · rename_i hz
      exact .inl ⟨z, rfl, line1 hz, h.ok ok rfl⟩
    · exact h.elim
  · rename_i n
    obtain ⟨v, rfl, rv⟩ := RL.one r
    split at h
    · rename_i ds e
      obtain ⟨a, rfl, _, ys, h1, r1⟩ := locAt ok rv e
      exact .inr (.inl ⟨a, ys, rfl, .inl (.of h1), h.ok ok (by rw [r1.len]; rfl)⟩)
    · rename_i kds e
      obtain ⟨a, rfl, _, kxs, h1, e1, r1⟩ := locAt ok rv e
      exact .inr (.inr ⟨a, kxs, rfl, h1, h.ok ok (by rw [show kxs.length = kds.length by have := congrArg List.length e1; simpa using this]; rfl)⟩)
    · exact h.elim
  · rename_i x
    obtain ⟨v, rfl, rv⟩ := RL.one r
    split at h
    · rename_i ds e
      obtain ⟨a, ys, rfl, s, r1⟩ := sqAt ok rv e
      exact .inr (.inl ⟨a, ys, rfl, s, h.ok ok (by rw [r1.len]; rfl)⟩)
    · exact h.elim
  · exact h.elim
theorem tell_abs : TellN X T (fun xs H Q => ∃ i, xs = [.int i] ∧ Q (.int (if i < 0 then -i else i)) H) bAbs := by
  intro W σ H ρ st xs vs Q ok r h
  unfold bAbs at h
  split at h
  · rename_i i
    obtain ⟨v, rfl, rv⟩ := RL.one r
    cases rv
    exact ⟨i, rfl, h.ok ok rfl⟩
  · exact h.elim
theorem tell_int : TellN X T (fun xs H Q => (∃ i, xs = [.int i] ∧ Q (.int i) H) ∨ ∃ k, xs = [.bl k] ∧ Q (.int (if k then 1 else 0)) H) bInt := by
  intro W σ H ρ st xs vs Q ok r h
  unfold bInt at h
  split at h
  · rename_i i
    obtain ⟨v, rfl, rv⟩ := RL.one r
    cases rv
    exact .inl ⟨i, rfl, h.ok ok rfl⟩
  · rename_i k
    obtain ⟨v, rfl, rv⟩ := RL.one r
    cases rv
    exact .inr ⟨k, rfl, h.ok ok rfl⟩
  · exact h.elim
theorem tell_divmod : TellN X T (fun xs H Q => ∃ i j, xs = [.int i, .int j] ∧ CDivP i j ∧ ∀ p, H p = none → Q (.ref p) (upd H p (.tup [.int (i / j), .int (i % j)]))) bDivmod := by
  intro W σ H ρ st xs vs Q ok r h
  unfold bDivmod at h
  split at h
  · rename_i i j
    obtain ⟨v, u, rfl, rv, ru⟩ := RL.two r
    cases rv
    cases ru
    split at h
    · rename_i hj
      exact ⟨i, j, rfl, ⟨hj.1, PyProof.noPylong_small hj.2⟩, Post.newT (ds := [.int (i / j), .int (i % j)]) ok ⟨_, _, rfl, rfl, _, _, rfl, rfl, rfl⟩ h⟩
    · exact h.elim
  · exact h.elim
end
section
variable {X : Cx} {T : Tb} {W : WX}
theorem isTuple_of {h : Heap} {a : Addr} {its : Array Value} (t : IsTup h a its) : h.IsTuple a its := by
  obtain ⟨o, ho, hc, n, hd⟩ := t
  exact ⟨o, ho, hc, n, hd⟩
theorem call_sumT (hc : X.calm = true) : CallR X (.builtin "sum") (fun vs H Q => ∃ (a : Addr) (ns : List Int), vs = [V.ref a] ∧ SqT X.K H a (ns.map V.int) ∧ Q (.int ns.sum) H) := by
  intro pins s σ H vs us Q I r h
  obtain ⟨a, ns, rfl, hs, q⟩ := h
  obtain ⟨its, rv, hl, _⟩ := I.tuple hs
  rw [Vals.ref1 r]
  have hi := rv.ints
  have ht := isTuple_of hl
  obtain ⟨xs, hx⟩ := hi.allInts.items
  have hn : numsOf its.toArray.toList = ns := by rw [show its.toArray.toList = its from rfl, hi.numsOf]
  rw [hx] at ht hn
  rw [nums_intItems] at hn
  refine PySem.W.ktm_sumG (I.ok.hd hc) ht fun h' tk t' hk => ⟨.int _, H, I.kept hk, ⟨_, rfl⟩, ?_⟩
  rw [preSum_eq, List.take_of_length_le (by simp), hn]
  exact q
theorem holdInts {h : Heap} : ∀ {us : List Value} {ns : List Int}, IntsAre us ns → PySem.W.HoldAll h us ns
  | _, _, .nil => PySem.W.HoldAll.nil
  | _, _, .cons n t r => PySem.W.HoldAll.cons ⟨_, Reads.int n t⟩ (holdInts r)
theorem intsAt : ∀ {us : List Value} {ns : List Int} {i : Nat} {v : Value}, IntsAre us ns → us[i]? = some v → ∃ (n : Int) (t : Tok), v = .int n t
  | _, _, _, _, .nil, e => by simp at e
  | _, _, 0, _, .cons n t r, e => by simp at e; exact ⟨n, t, e.symm⟩
  | _, _, i + 1, _, .cons n t r, e => intsAt (i := i) r (by simpa using e)
theorem call_minT (hc : X.calm = true) (hu : X.A.units + 64 < cLine) : CallR X (.builtin "min") (fun vs H Q => ∃ (a : Addr) (ns : List Int), vs = [V.ref a] ∧ SqT X.K H a (ns.map V.int) ∧ 0 < ns.length ∧ Q (.int (minI ns)) H) := by
  intro pins s σ H vs us Q I r h
  obtain ⟨a, ns, rfl, hs, hne, q⟩ := h
  obtain ⟨its, rv, hl, _⟩ := I.tuple hs
  rw [Vals.ref1 r]
  cases ns with
  | nil => simp at hne
  | cons x xs =>
    refine PySem.W.min_tuple_datum (x := x) (xs := xs) (I.ok.hd hc) (isTuple_of hl) (holdInts rv.ints) (by show X.A.units + 1 + 0 < cLine; omega) fun i v h' tk hv hh hk => ?_
    obtain ⟨n, t, rfl⟩ := intsAt rv.ints (by simpa using hv)
    obtain ⟨as, hr⟩ := hh
    have e : n = PySem.W.minOf x xs := by
      cases hr
      rfl
    have e2 : PySem.W.minOf x xs = minI (x :: xs) := by
      unfold PySem.W.minOf minI
      congr 1
      funext a y
      by_cases hlt : y < a
      · rw [if_pos hlt, if_pos (show PySem.W.DatumOrd.lt y a = true from decide_eq_true hlt)]
      · rw [if_neg hlt, if_neg (show ¬ PySem.W.DatumOrd.lt y a = true from fun z => hlt (of_decide_eq_true z))]
    rw [e, e2]
    exact ⟨.int _, H, I.kept hk, ⟨_, rfl⟩, q⟩
theorem call_maxT (hc : X.calm = true) (hu : X.A.units + 64 < cLine) : CallR X (.builtin "max") (fun vs H Q => ∃ (a : Addr) (ns : List Int), vs = [V.ref a] ∧ SqT X.K H a (ns.map V.int) ∧ 0 < ns.length ∧ Q (.int (maxI ns)) H) := by
  intro pins s σ H vs us Q I r h
  obtain ⟨a, ns, rfl, hs, hne, q⟩ := h
  obtain ⟨its, rv, hl, _⟩ := I.tuple hs
  rw [Vals.ref1 r]
  cases ns with
  | nil => simp at hne
  | cons x xs =>
    refine PySem.W.max_tuple_datum (x := x) (xs := xs) (I.ok.hd hc) (isTuple_of hl) (holdInts rv.ints) (by show X.A.units + 1 + 0 < cLine; omega) fun i v h' tk hv hh hk => ?_
    obtain ⟨n, t, rfl⟩ := intsAt rv.ints (by simpa using hv)
    obtain ⟨as, hr⟩ := hh
    have e : n = PySem.W.maxOf x xs := by
      cases hr
      rfl
    have e2 : PySem.W.maxOf x xs = maxI (x :: xs) := by
      unfold PySem.W.maxOf maxI
      congr 1
      funext a y
      by_cases hlt : a < y
      · rw [if_pos (show y > a from hlt), if_pos (show PySem.W.DatumOrd.lt a y = true from decide_eq_true hlt)]
      · rw [if_neg (show ¬ y > a from hlt), if_neg (show ¬ PySem.W.DatumOrd.lt a y = true from fun z => hlt (of_decide_eq_true z))]
    rw [e, e2]
    exact ⟨.int _, H, I.kept hk, ⟨_, rfl⟩, q⟩
theorem call_reprD (hg : X.A.guards = some []) (hu : X.A.units + 64 < cLine) : CallR X (.builtin "repr") (fun vs H Q => ∃ v p, vs = [v] ∧ Dp X.K H v p ∧ reprOk p = true ∧ Q (.str p.shown) H) := by
  intro pins s σ H vs us Q I r h
  obtain ⟨v, p, rfl, hp, hok, q⟩ := h
  unfold reprOk at hok
  simp only [Bool.and_eq_true, Bool.not_eq_true', decide_eq_true_eq] at hok
  obtain ⟨⟨⟨h1, h2⟩, h3⟩, h4⟩ := hok
  have hsz : p.shown.length ≤ sizeLine := line1 h4
  cases r with
  | cons rv rr =>
    cases rr
    rename_i u
    obtain ⟨as, rd⟩ := hp.reads I _ _ _ rv
    cases p with
    | none => cases hp; cases rv; exact P.repr_of_none ⟨.str _, H, I.tok _, ⟨_, rfl⟩, by simpa [PyData.shown] using q⟩
    | bool b => cases hp; cases rv; exact P.repr_of_bool ⟨.str _, H, I.tok _, ⟨_, rfl⟩, by simpa [PyData.shown] using q⟩
    | int i =>
      cases hp
      obtain ⟨t, rfl⟩ := rv
      exact P.repr_of_int (by simpa [PyData.showable] using h1) ⟨.str _, H, I.tok _, ⟨_, rfl⟩, by simpa [PyData.shown] using q⟩
    | str x =>
      cases hp
      obtain ⟨t, rfl⟩ := rv
      exact P.repr_of_str ⟨.str _, H, I.tok _, ⟨_, rfl⟩, by simpa [PyData.shown] using q⟩ (by simpa [PyData.shown] using hsz)
    | list ds =>
      cases hp
      cases rv
      exact repr_of_reads' rd h1 (PyData.noDict_hsm h2) hg (by omega) (fun _ _ e => e) (fun h' u tk hk => ⟨.str _, H, I.kept hk, ⟨_, rfl⟩, q⟩) hsz
    | tuple ds =>
      cases hp
      cases rv
      exact repr_of_reads' rd h1 (PyData.noDict_hsm h2) hg (by omega) (fun _ _ e => e) (fun h' u tk hk => ⟨.str _, H, I.kept hk, ⟨_, rfl⟩, q⟩) hsz
    | dict kvs => cases hp
theorem tell_repr : TellN X T (fun vs H Q => ∃ v p, vs = [v] ∧ Dp X.K H v p ∧ reprOk p = true ∧ Q (.str p.shown) H) bRepr := by
  intro W σ H ρ st xs vs Q ok r h
  unfold bRepr at h
  split at h
  · rename_i x
    obtain ⟨v, rfl, rv⟩ := RL.one r
    split at h
    · rename_i p e
      split at h
      · rename_i hp
        exact ⟨v, p, rfl, toPd_ok ok e rv, hp, h.ok ok rfl⟩
      · exact h.elim
    · exact h.elim
  · exact h.elim
theorem tell_sum : TellN X T (fun xs H Q => rSum X.K xs H Q ∨ ∃ (a : Addr) (ns : List Int), xs = [V.ref a] ∧ SqT X.K H a (ns.map V.int) ∧ Q (.int ns.sum) H) bSum := by
  intro W σ H ρ st xs vs Q ok r h
  unfold bSum at h
  split at h
  · obtain ⟨v, rfl, rv⟩ := RL.one r
    split at h
    · rename_i ds e
      split at h
      · rename_i ns e2
        obtain ⟨a, ys, rfl, s, r1⟩ := sqAt ok rv e
        rw [ints_of e2] at r1
        rw [r1.ints] at s
        exact s.elim (fun s => .inl ⟨a, ns, rfl, s, h.ok ok rfl⟩) fun s => .inr ⟨a, ns, rfl, s, h.ok ok rfl⟩
      · exact h.elim
    · exact h.elim
  · exact h.elim
theorem tell_max : TellN X T (fun xs H Q => (∃ i j, xs = [.int i, .int j] ∧ Q (.int (if j > i then j else i)) H) ∨ rMax X.K xs H Q ∨ ∃ (a : Addr) (ns : List Int), xs = [V.ref a] ∧ SqT X.K H a (ns.map V.int) ∧ 0 < ns.length ∧ Q (.int (maxI ns)) H) bMax := by
  intro W σ H ρ st xs vs Q ok r h
  unfold bMax at h
  split at h
  · rename_i i j
    obtain ⟨v, u, rfl, rv, ru⟩ := RL.two r
    cases rv
    cases ru
    exact .inl ⟨i, j, rfl, h.ok ok rfl⟩
  · obtain ⟨v, rfl, rv⟩ := RL.one r
    split at h
    · rename_i ds e
      split at h
      · rename_i ns e2
        split at h
        · rename_i hn
          obtain ⟨a, ys, rfl, s, r1⟩ := sqAt ok rv e
          rw [ints_of e2] at r1
          rw [r1.ints] at s
          exact s.elim (fun s => .inr (.inl ⟨a, ns, rfl, s, hn, fun m h1 h2 => by rw [maxI_eq h1 h2]; exact h.ok ok rfl⟩)) fun s => .inr (.inr ⟨a, ns, rfl, s, hn, h.ok ok rfl⟩)
        · exact h.elim
      · exact h.elim
    · exact h.elim
  · exact h.elim
theorem tell_min : TellN X T (fun xs H Q => (∃ i j, xs = [.int i, .int j] ∧ Q (.int (if j < i then j else i)) H) ∨ rMin X.K xs H Q ∨ ∃ (a : Addr) (ns : List Int), xs = [V.ref a] ∧ SqT X.K H a (ns.map V.int) ∧ 0 < ns.length ∧ Q (.int (minI ns)) H) bMin := by
  intro W σ H ρ st xs vs Q ok r h
  unfold bMin at h
  split at h
  · rename_i i j
    obtain ⟨v, u, rfl, rv, ru⟩ := RL.two r
    cases rv
    cases ru
    exact .inl ⟨i, j, rfl, h.ok ok rfl⟩
  · obtain ⟨v, rfl, rv⟩ := RL.one r
    split at h
    · rename_i ds e
      split at h
      · rename_i ns e2
        split at h
        · rename_i hn
          obtain ⟨a, ys, rfl, s, r1⟩ := sqAt ok rv e
          rw [ints_of e2] at r1
          rw [r1.ints] at s
          exact s.elim (fun s => .inr (.inl ⟨a, ns, rfl, s, hn, fun m h1 h2 => by rw [minI_eq h1 h2]; exact h.ok ok rfl⟩)) fun s => .inr (.inr ⟨a, ns, rfl, s, hn, h.ok ok rfl⟩)
        · exact h.elim
      · exact h.elim
    · exact h.elim
  · exact h.elim
theorem tell_all : TellN X T (rAll X.K) bAll := by
  intro W σ H ρ st xs vs Q ok r h
  unfold bAll at h
  split at h
  · obtain ⟨v, rfl, rv⟩ := RL.one r
    split at h
    · rename_i ds e
      split at h
      · rename_i bs e2
        obtain ⟨a, ys, rfl, s, r1⟩ := lsAt ok rv e
        rw [bls_of e2] at r1
        rw [r1.bls] at s
        exact ⟨a, bs, rfl, s, h.ok ok rfl⟩
      · exact h.elim
    · exact h.elim
  · exact h.elim
theorem tell_any : TellN X T (rAny X.K) bAny := by
  intro W σ H ρ st xs vs Q ok r h
  unfold bAny at h
  split at h
  · obtain ⟨v, rfl, rv⟩ := RL.one r
    split at h
    · rename_i ds e
      split at h
      · rename_i bs e2
        obtain ⟨a, ys, rfl, s, r1⟩ := lsAt ok rv e
        rw [bls_of e2] at r1
        rw [r1.bls] at s
        exact ⟨a, bs, rfl, s, h.ok ok rfl⟩
      · exact h.elim
    · exact h.elim
  · exact h.elim
theorem tell_tuple : TellN X T (fun xs H Q => ∃ p ys, xs = [.ref p] ∧ ((SqL X.K H p ys ∧ ∀ l, H l = none → Q (.ref l) (upd H l (.tup ys))) ∨ (SqT X.K H p ys ∧ Q (.ref p) H))) bTuple := by
  intro W σ H ρ st xs vs Q ok r h
  unfold bTuple at h
  split at h
  · rename_i x
    obtain ⟨v, rfl, rv⟩ := RL.one r
    split at h
    · rename_i ds e
      by_cases ht : ∃ zs, x = .tup zs
      · obtain ⟨zs, rfl⟩ := ht
        cases e
        obtain ⟨a, ys, rfl, s, r1⟩ := tupAt rv
        exact ⟨a, ys, rfl, .inr ⟨s, h.ok ok rv⟩⟩
      · have e2 : lsOf x st = some ds := by
          cases x with
          | tup zs => exact absurd ⟨zs, rfl⟩ ht
          | _ => exact e
        obtain ⟨a, ys, rfl, s, r1⟩ := lsAt ok rv e2
        exact ⟨a, ys, rfl, .inl ⟨s, Post.newT ok r1 h⟩⟩
    · exact h.elim
  · exact h.elim
theorem tell_list : TellN X T (fun xs H Q => ∃ p ys, xs = [.ref p] ∧ (SqL X.K H p ys ∨ SqT X.K H p ys) ∧ ∀ l, H l = none → Q (.ref l) (upd H l (.lst ys))) bList := by
  intro W σ H ρ st xs vs Q ok r h
  unfold bList at h
  split at h
  · rename_i x
    obtain ⟨v, rfl, rv⟩ := RL.one r
    split at h
    · rename_i ds e
      obtain ⟨a, ys, rfl, s, r1⟩ := sqAt ok rv e
      exact ⟨a, ys, rfl, s, Post.newN ok r1 h⟩
    · exact h.elim
  · exact h.elim
theorem tyAt {H : Hp} {ρ : Wo} {st : Store} {x : D} {v : V} {t : Value} (hC : ∀ C, t = .ref C → TyC X.K C) (ok : Ok X.K T H ρ st) (r : R X.K H ρ x v) (e : tyD x st = some t) : TyX X.K H v t := by
  unfold tyD at e
  split at e
  · cases e; cases r; exact .base .non
  · cases e; cases r; exact .base (.bl _)
  · cases e; cases r; exact .base (.int _)
  · cases e; cases r; exact .base (.str _)
  · cases e
    obtain ⟨a, xs, rfl, s, r1⟩ := r
    rcases s with ⟨s | ⟨o, s⟩, _⟩ | s
    · exact .base (.tup s)
    · exact .fTuple s
    · rcases s with (s | ⟨o, s⟩) | ⟨o, its, n, hk, hc, _⟩
      · cases s
      · cases s
      · exact .kTuple hk hc
  · cases e
    obtain ⟨a, xs, rfl, h, n, r1⟩ := r
    exact .base (.lst h)
  · cases e
    obtain ⟨a, o, xs, rfl, h, n, r1⟩ := r
    exact .base (.frz h)
  · cases e
    obtain ⟨a, dx, xs, rfl, h, n, l, r1⟩ := r
    exact (hC _ rfl).ex _ _ _ _ h
  · rename_i n
    split at e
    · rename_i ds q
      cases e
      obtain ⟨a, rfl, _, xs, h1, _⟩ := locAt ok r q
      exact .base (.lst h1)
    · rename_i ds q
      cases e
      obtain ⟨a, rfl, _, xs, h1, _⟩ := locAt ok r q
      exact .base (.dK h1)
    · rename_i C ns ds q
      cases e
      obtain ⟨a, rfl, _, dx, xs, h1, _⟩ := locAt ok r q
      exact (hC _ rfl).ex _ _ _ _ h1
    · cases e
  · cases e
theorem tell_isi {cs : List Addr} (hC : ∀ C ∈ cs, TyC X.K C) : TellN X T (rIsi X.K) (bIsi X.K cs) := by
  intro W σ H ρ st xs vs Q ok r h
  unfold bIsi at h
  split at h
  · rename_i x c
    obtain ⟨v, w, rfl, rv, rw'⟩ := RL.two r
    split at h
    · rename_i t u e1 e2
      split at h
      · rename_i ht
        split at h
        · rename_i b e3
          refine ⟨v, w, t, u, b, rfl, ?_, tyAt (fun C hc => hC C (by subst hc; exact List.contains_iff_mem.mp ht)) ok rv e1, e3, h.ok ok rfl⟩
          unfold clsD at e2
          split at e2
          · cases e2; cases rw'; exact .ty _
          · cases e2; cases rw'; exact .own _
          · cases e2
        · exact h.elim
      · exact h.elim
    · exact h.elim
  · exact h.elim
end
end L3

/-! ### text Ln -/
namespace L3
open PySem PySem.Spec PyProof.Rows L2

/-! ### built-ins, called -/
theorem bv_abs : bootBuiltins "abs" = some (.builtin "abs") := by decide +kernel
theorem bv_int : bootBuiltins "int" = some (.type "int") := by decide +kernel
theorem bv_divmod : bootBuiltins "divmod" = some (.builtin "divmod") := by decide +kernel
theorem bv_sum : bootBuiltins "sum" = some (.builtin "sum") := by decide +kernel
theorem bv_max : bootBuiltins "max" = some (.builtin "max") := by decide +kernel
theorem bv_min : bootBuiltins "min" = some (.builtin "min") := by decide +kernel
theorem bv_all : bootBuiltins "all" = some (.builtin "all") := by decide +kernel
theorem bv_any : bootBuiltins "any" = some (.builtin "any") := by decide +kernel
theorem bv_tuple : bootBuiltins "tuple" = some (.type "tuple") := by decide +kernel
theorem bv_list : bootBuiltins "list" = some (.type "list") := by decide +kernel
theorem bv_repr : bootBuiltins "repr" = some (.builtin "repr") := by decide +kernel
theorem bv_isinstance : bootBuiltins "isinstance" = some (.builtin "isinstance") := by decide +kernel
theorem bv_str : bootBuiltins "str" = some (.type "str") := by decide +kernel
theorem bv_bool : bootBuiltins "bool" = some (.type "bool") := by decide +kernel
theorem bv_dict : bootBuiltins "dict" = some (.type "dict") := by decide +kernel
section
variable {X : Cx} {T : Tb} {W : WX} {a b c d e o i : Expr} {es : List Expr} {mas : AM} {ma mb mc md me mo mi : EM} {pos p1 p2 : Pos}
theorem de_len (hm : X.mg "len" = none) (ha : DA X T W (e :: es) mas) (hg : Gl X "len" := by rfl) (he : starEach (e :: es) X.env = (false, eval e X.env) :: starEach es X.env := by rfl) (hpl : (backTo pos (starEach es X.env)).any (·.1) = false := by rfl) : DE X T W (.Call (.Name "len" p1) (e :: es) [] pos) (eN bLen mas) :=
  de_bi (call_len_str.or (call_len_seq.or call_lenD)) tell_len hg hm PySem.boot_len ha (by decide) (by decide) he hpl
theorem de_abs (hm : X.mg "abs" = none) (ha : DA X T W (e :: es) mas) (hg : Gl X "abs" := by rfl) (he : starEach (e :: es) X.env = (false, eval e X.env) :: starEach es X.env := by rfl) (hpl : (backTo pos (starEach es X.env)).any (·.1) = false := by rfl) : DE X T W (.Call (.Name "abs" p1) (e :: es) [] pos) (eN bAbs mas) :=
  de_bi call_abs tell_abs hg hm bv_abs ha (by decide) (by decide) he hpl
theorem de_intc (hm : X.mg "int" = none) (ha : DA X T W (e :: es) mas) (hg : Gl X "int" := by rfl) (he : starEach (e :: es) X.env = (false, eval e X.env) :: starEach es X.env := by rfl) (hpl : (backTo pos (starEach es X.env)).any (·.1) = false := by rfl) : DE X T W (.Call (.Name "int" p1) (e :: es) [] pos) (eN bInt mas) :=
  de_bt call_int1 tell_int hg hm bv_int ha (by decide) (by decide) he hpl
theorem de_divmod (hm : X.mg "divmod" = none) (ha : DA X T W (e :: es) mas) (hg : Gl X "divmod" := by rfl) (he : starEach (e :: es) X.env = (false, eval e X.env) :: starEach es X.env := by rfl) (hpl : (backTo pos (starEach es X.env)).any (·.1) = false := by rfl) : DE X T W (.Call (.Name "divmod" p1) (e :: es) [] pos) (eN bDivmod mas) :=
  de_bi call_divmodW tell_divmod hg hm bv_divmod ha (by decide) (by decide) he hpl
theorem de_sum (hc : X.calm = true) (hm : X.mg "sum" = none) (ha : DA X T W (e :: es) mas) (hg : Gl X "sum" := by rfl) (he : starEach (e :: es) X.env = (false, eval e X.env) :: starEach es X.env := by rfl) (hpl : (backTo pos (starEach es X.env)).any (·.1) = false := by rfl) : DE X T W (.Call (.Name "sum" p1) (e :: es) [] pos) (eN bSum mas) :=
  de_bi ((cr_sum hc).or (call_sumT hc)) tell_sum hg hm bv_sum ha (by decide) (by decide) he hpl
theorem de_max (hc : X.calm = true) (hu : X.A.units + 64 < cLine) (hm : X.mg "max" = none) (ha : DA X T W (e :: es) mas) (hg : Gl X "max" := by rfl) (he : starEach (e :: es) X.env = (false, eval e X.env) :: starEach es X.env := by rfl) (hpl : (backTo pos (starEach es X.env)).any (·.1) = false := by rfl) : DE X T W (.Call (.Name "max" p1) (e :: es) [] pos) (eN bMax mas) :=
  de_bi ((call_max2 hc).or ((cr_max hc).or (call_maxT hc hu))) tell_max hg hm bv_max ha (by decide) (by decide) he hpl
theorem de_min (hc : X.calm = true) (hu : X.A.units + 64 < cLine) (hm : X.mg "min" = none) (ha : DA X T W (e :: es) mas) (hg : Gl X "min" := by rfl) (he : starEach (e :: es) X.env = (false, eval e X.env) :: starEach es X.env := by rfl) (hpl : (backTo pos (starEach es X.env)).any (·.1) = false := by rfl) : DE X T W (.Call (.Name "min" p1) (e :: es) [] pos) (eN bMin mas) :=
  de_bi ((call_min2 hc).or ((cr_min hc).or (call_minT hc hu))) tell_min hg hm bv_min ha (by decide) (by decide) he hpl
theorem de_all (hc : X.calm = true) (hm : X.mg "all" = none) (ha : DA X T W (e :: es) mas) (hg : Gl X "all" := by rfl) (he : starEach (e :: es) X.env = (false, eval e X.env) :: starEach es X.env := by rfl) (hpl : (backTo pos (starEach es X.env)).any (·.1) = false := by rfl) : DE X T W (.Call (.Name "all" p1) (e :: es) [] pos) (eN bAll mas) :=
  de_bi (cr_all hc) tell_all hg hm bv_all ha (by decide) (by decide) he hpl
theorem de_any (hc : X.calm = true) (hm : X.mg "any" = none) (ha : DA X T W (e :: es) mas) (hg : Gl X "any" := by rfl) (he : starEach (e :: es) X.env = (false, eval e X.env) :: starEach es X.env := by rfl) (hpl : (backTo pos (starEach es X.env)).any (·.1) = false := by rfl) : DE X T W (.Call (.Name "any" p1) (e :: es) [] pos) (eN bAny mas) :=
  de_bi (cr_any hc) tell_any hg hm bv_any ha (by decide) (by decide) he hpl
theorem de_tuple (hm : X.mg "tuple" = none) (ha : DA X T W (e :: es) mas) (hg : Gl X "tuple" := by rfl) (he : starEach (e :: es) X.env = (false, eval e X.env) :: starEach es X.env := by rfl) (hpl : (backTo pos (starEach es X.env)).any (·.1) = false := by rfl) : DE X T W (.Call (.Name "tuple" p1) (e :: es) [] pos) (eN bTuple mas) :=
  de_bt call_tuple_of tell_tuple hg hm bv_tuple ha (by decide) (by decide) he hpl
theorem de_list (hm : X.mg "list" = none) (ha : DA X T W (e :: es) mas) (hg : Gl X "list" := by rfl) (he : starEach (e :: es) X.env = (false, eval e X.env) :: starEach es X.env := by rfl) (hpl : (backTo pos (starEach es X.env)).any (·.1) = false := by rfl) : DE X T W (.Call (.Name "list" p1) (e :: es) [] pos) (eN bList mas) :=
  de_bt call_list_of tell_list hg hm bv_list ha (by decide) (by decide) he hpl
theorem de_repr (hgd : X.A.guards = some []) (hu : X.A.units + 64 < cLine) (hm : X.mg "repr" = none) (ha : DA X T W (e :: es) mas) (hg : Gl X "repr" := by rfl) (he : starEach (e :: es) X.env = (false, eval e X.env) :: starEach es X.env := by rfl) (hpl : (backTo pos (starEach es X.env)).any (·.1) = false := by rfl) : DE X T W (.Call (.Name "repr" p1) (e :: es) [] pos) (eN bRepr mas) :=
  de_bi (call_reprD hgd hu) tell_repr hg hm bv_repr ha (by decide) (by decide) he hpl
theorem de_isi {cs : List Addr} (hC : ∀ C ∈ cs, TyC X.K C) (hm : X.mg "isinstance" = none) (ha : DA X T W (e :: es) mas) (hg : Gl X "isinstance" := by rfl) (he : starEach (e :: es) X.env = (false, eval e X.env) :: starEach es X.env := by rfl) (hpl : (backTo pos (starEach es X.env)).any (·.1) = false := by rfl) : DE X T W (.Call (.Name "isinstance" p1) (e :: es) [] pos) (eN (bIsi X.K cs) mas) :=
  de_bi call_isi (tell_isi hC) hg hm bv_isinstance ha (by decide) (by decide) he hpl
/-- a built-in class as a value -/
theorem de_ty {x : Str} {n : String} (hm : X.mg x = none) (hv : bootBuiltins x = some (.type n)) (hg : Gl X x := by rfl) (hn : x ≠ "__name__" := by decide) (hd : (x == ("__debug__" : Str)) = false := by decide) : DE X T W (.Name x pos) (eC (.ty n)) := by
  refine ⟨⟨fun pins s σ H Q I ⟨ρ, δ, st, ok, rs, h⟩ => ?_⟩⟩
  exact ld_blt I hg hm hv ⟨V.ty n, H, I, rfl, (show Post X.K T W (R X.K) σ H ρ (.ok (.ty n) st) Q from h).ok ok rfl⟩ hn hd
/-! ### comparisons in a row -/
def eCh2 (f g : D → D → Store → Res D) (ma mb mc : EM) : EM := fun δ st => (ma δ st).bind fun x st1 => (mb δ st1).bind fun y st2 => (f x y st2).bind fun k st3 => match k with
  | .bl true => (mc δ st3).bind fun z st4 => g y z st4
  | .bl false => .ok (.bl false) st3
  | _ => .bad
def eCh3 (f g h : D → D → Store → Res D) (ma mb mc md : EM) : EM := fun δ st => (ma δ st).bind fun x st1 => (mb δ st1).bind fun y st2 => (f x y st2).bind fun k st3 => match k with
  | .bl true => (mc δ st3).bind fun z st4 => (g y z st4).bind fun k st5 => match k with
    | .bl true => (md δ st5).bind fun u st6 => h z u st6
    | .bl false => .ok (.bl false) st5
    | _ => .bad
  | .bl false => .ok (.bl false) st3
  | _ => .bad
/-- a value that is a truth value is a test -/
theorem Tell2.k {r : R2} {f : D → D → Store → Res D} (hf : Tell2 X T r f) {σ : L2.St} {H : Hp} {ρ : Wo} {st : Store} {x y : D} {v u : V} {Q : VK} {Z : Bool → Hp → Prop} (ok : Ok X.K T H ρ st) (rx : R X.K H ρ x v) (ry : R X.K H ρ y u) (k : D → Store → Res D) (h : Post X.K T W (R X.K) σ H ρ ((f x y st).bind k) Q)
    (hz : ∀ d st' H' ρ' b, Go H ρ H' ρ' → Ok X.K T H' ρ' st' → d = .bl b → Post X.K T W (R X.K) σ H' ρ' (k d st') Q → Z b H') (hk : ∀ d st', (∀ b, d ≠ .bl b) → k d st' = .bad) : r v u H fun z H' => ∃ b, z = .bl b ∧ Z b H' := by
  refine hf W σ H ρ st x y v u _ ok rx ry (Post.bind h fun d st' z H' ρ' g ok' rd h' => ?_)
  by_cases hb : ∃ b, d = .bl b
  · obtain ⟨b, rfl⟩ := hb
    exact ⟨b, rd, hz _ st' H' ρ' b g ok' rfl h'⟩
  · rw [hk d st' (fun b e => hb ⟨b, e⟩)] at h'
    exact h'.elim
theorem de_ch2 {op op' : CmpOp} {r r' : R2} {f g : D → D → Store → Res D} (ho : OpR X (compareOp op) r) (ho' : OpR X (compareOp op') r') (hf : Tell2 X T r f) (hg : Tell2 X T r' g) (ha : DE X T W a ma) (hb : DE X T W b mb) (hc : DE X T W c mc)
    (hm : lastMarks [op, op'] [b, c] = false := by with_unfolding_all rfl) : DE X T W (.Compare a [op, op'] [b, c] pos) (eCh2 f g ma mb mc) := by
  refine ⟨PE.imp (pe_chain ho ho' ha.pe hb.pe hc.pe hm) fun σ H Q ⟨ρ, δ, st, ok, rs, h⟩ => ⟨ρ, δ, st, ok, rs, Post.bind h fun x st1 v H1 ρ1 g1 ok1 rx h1 => ⟨ρ1, δ, st1, ok1, rs.go g1, Post.bind h1 fun y st2 u H2 ρ2 g2 ok2 ry h2 => ?_⟩⟩⟩
  refine hf.k ok2 (R.go g2 x v rx) ry _ h2 (fun d st3 H3 ρ3 b g3 ok3 e h3 => ?_) fun d st' hd => by
    cases d with
    | bl b => exact absurd rfl (hd b)
    | _ => rfl
  subst e
  cases b with
  | false => exact (show Post X.K T W (R X.K) σ H3 ρ3 (.ok (.bl false) st3) _ from h3).ok ok3 rfl
  | true => exact ⟨ρ3, δ, st3, ok3, ((rs.go g1).go g2).go g3, Post.bind h3 fun z st4 w H4 ρ4 g4 ok4 rz h4 => hg W σ H4 ρ4 st4 y z u w Q ok4 (R.go g4 y u (R.go g3 y u ry)) rz h4⟩
theorem pe_chain3 {op op' op3 : CmpOp} {r r' r3 : R2} {ta tb tc td : TE} (ho : OpR X (compareOp op) r) (ho' : OpR X (compareOp op') r') (ho3 : OpR X (compareOp op3) r3) (ha : PE X a ta) (hb : PE X b tb) (hc : PE X c tc) (hd : PE X d td)
    (hm : lastMarks [op, op', op3] [b, c, d] = false := by with_unfolding_all rfl) : PE X (.Compare a [op, op', op3] [b, c, d] pos) (fun σ H Q => ta σ H fun x H1 => tb σ H1 fun y H2 => r x y H2 fun z H3 => ∃ k, z = .bl k ∧
      (if k = true then tc σ H3 fun w' H4 => r' y w' H4 fun z H5 => ∃ k, z = .bl k ∧ (if k = true then td σ H5 fun u H6 => r3 w' u H6 Q else Q (.bl false) H5) else Q (.bl false) H3)) := by
  refine ⟨fun pins s σ H Q I h => ?_⟩
  refine Compare_chain (thn (ha.run pins s σ H _ I h) fun v s1 ⟨x, H1, I1, r1, q1⟩ => chain_link (thn (hb.run pins s1 σ H1 _ I1 q1) fun u s2 ⟨y, H2, I2, r2, q2⟩ =>
    thn (ho pins s2 σ H2 x y v u _ I2 r1 r2 q2) fun dd s3 ⟨z, H3, I3, r3, k, e, q3⟩ => ?_)) hm
  subst e
  cases r3
  refine wpAny_truthy_bool ?_
  cases k with
  | false => exact ite_ff ⟨.bl false, H3, I3, rfl, q3⟩
  | true =>
    refine ite_tt (chain_link (thn (hc.run pins s3 σ H3 _ I3 q3) fun w s4 ⟨y', H4, I4, r4, q4⟩ => thn (ho' pins s4 σ H4 y y' u w _ I4 r2 r4 q4) fun dd s5 ⟨z, H5, I5, r5, k, e, q5⟩ => ?_))
    subst e
    cases r5
    refine wpAny_truthy_bool ?_
    cases k with
    | false => exact ite_ff ⟨.bl false, H5, I5, rfl, q5⟩
    | true => exact ite_tt (chain_last (thn (hd.run pins s5 σ H5 _ I5 q5) fun w' s6 ⟨z', H6, I6, r6, q6⟩ => ho3 pins s6 σ H6 y' z' w w' Q I6 r4 r6 q6))
theorem pt_chain3 {op op' op3 : CmpOp} {r r' r3 : R2} {ta tb tc td : TE} (ho : OpR X (compareOp op) r) (ho' : OpR X (compareOp op') r') (ho3 : OpR X (compareOp op3) r3) (ha : PE X a ta) (hb : PE X b tb) (hc : PE X c tc) (hd : PE X d td)
    (hm : lastMarks [op, op', op3] [b, c, d] = false := by with_unfolding_all rfl) : PT X (.Compare a [op, op', op3] [b, c, d] pos) (tTest fun σ H Q => ta σ H fun x H1 => tb σ H1 fun y H2 => r x y H2 fun z H3 => ∃ k, z = .bl k ∧
      (if k = true then tc σ H3 fun w' H4 => r' y w' H4 fun z H5 => ∃ k, z = .bl k ∧ (if k = true then td σ H5 fun u H6 => r3 w' u H6 Q else Q (.bl false) H5) else Q (.bl false) H3)) := by
  refine ⟨fun pins s σ H Q I h => ?_⟩
  refine isTrue_chain (thn (ha.run pins s σ H _ I h) fun v s1 ⟨x, H1, I1, r1, q1⟩ => test_link (thn (hb.run pins s1 σ H1 _ I1 q1) fun u s2 ⟨y, H2, I2, r2, q2⟩ =>
    thn (ho pins s2 σ H2 x y v u _ I2 r1 r2 q2) fun dd s3 ⟨z, H3, I3, r3, k, e, q3⟩ => ?_)) hm
  subst e
  cases r3
  refine wpAny_truthy_bool ?_
  cases k with
  | false =>
    obtain ⟨k', e', q'⟩ := q3
    cases e'
    exact ite_ff ⟨H3, I3, q'⟩
  | true =>
    refine ite_tt (test_link (thn (hc.run pins s3 σ H3 _ I3 q3) fun w s4 ⟨y', H4, I4, r4, q4⟩ => thn (ho' pins s4 σ H4 y y' u w _ I4 r2 r4 q4) fun dd s5 ⟨z, H5, I5, r5, k, e, q5⟩ => ?_))
    subst e
    cases r5
    refine wpAny_truthy_bool ?_
    cases k with
    | false =>
      obtain ⟨k', e', q'⟩ := q5
      cases e'
      exact ite_ff ⟨H5, I5, q'⟩
    | true =>
      refine ite_tt (test_last (thn (hd.run pins s5 σ H5 _ I5 q5) fun w' s6 ⟨z', H6, I6, r6, q6⟩ => thn (ho3 pins s6 σ H6 y' z' w w' _ I6 r4 r6 q6) fun d' s7 ⟨z2, H7, I7, r7, k2, e2, q7⟩ => ?_))
      subst e2
      cases r7
      exact wpAny_truthy_bool ⟨H7, I7, q7⟩
theorem dt_ch2 {op op' : CmpOp} {r r' : R2} {f g : D → D → Store → Res D} (ho : OpR X (compareOp op) r) (ho' : OpR X (compareOp op') r') (hf : Tell2 X T r f) (hg : Tell2 X T r' g) (ha : DE X T W a ma) (hb : DE X T W b mb) (hc : DE X T W c mc)
    (hm : lastMarks [op, op'] [b, c] = false := by with_unfolding_all rfl) : DT X T W (.Compare a [op, op'] [b, c] pos) (tVal (eCh2 f g ma mb mc)) := by
  refine ⟨PT.imp (pt_chain ho ho' ha.pe hb.pe hc.pe hm) fun σ H Q h => ?_⟩
  have key : ∀ Q', rE X.K T W (eCh2 f g ma mb mc) σ H Q' → tChain r r' (rE X.K T W ma) (rE X.K T W mb) (rE X.K T W mc) σ H Q' := fun Q' ⟨ρ, δ, st, ok, rs, h⟩ => ⟨ρ, δ, st, ok, rs, Post.bind h fun x st1 v H1 ρ1 g1 ok1 rx h1 => ⟨ρ1, δ, st1, ok1, rs.go g1, Post.bind h1 fun y st2 u H2 ρ2 g2 ok2 ry h2 => by
    refine hf.k ok2 (R.go g2 x v rx) ry _ h2 (fun d st3 H3 ρ3 b g3 ok3 e h3 => ?_) fun d st' hd => by
      cases d with
      | bl b => exact absurd rfl (hd b)
      | _ => rfl
    subst e
    cases b with
    | false => exact (show Post X.K T W (R X.K) σ H3 ρ3 (.ok (.bl false) st3) _ from h3).ok ok3 rfl
    | true => exact ⟨ρ3, δ, st3, ok3, ((rs.go g1).go g2).go g3, Post.bind h3 fun z st4 w H4 ρ4 g4 ok4 rz h4 => hg W σ H4 ρ4 st4 y z u w Q' ok4 (R.go g4 y u (R.go g3 y u ry)) rz h4⟩⟩⟩
  exact key _ (rT_of h)
theorem ch3_key {r r' r3 : R2} {f g h3 : D → D → Store → Res D} (hf : Tell2 X T r f) (hg : Tell2 X T r' g) (hh : Tell2 X T r3 h3) {σ : L2.St} {H : Hp} {Q : VK} (h : rE X.K T W (eCh3 f g h3 ma mb mc md) σ H Q) :
    rE X.K T W ma σ H fun x H1 => rE X.K T W mb σ H1 fun y H2 => r x y H2 fun z H3 => ∃ k, z = .bl k ∧
      (if k = true then rE X.K T W mc σ H3 fun w' H4 => r' y w' H4 fun z H5 => ∃ k, z = .bl k ∧ (if k = true then rE X.K T W md σ H5 fun u H6 => r3 w' u H6 Q else Q (.bl false) H5) else Q (.bl false) H3) := by
  obtain ⟨ρ, δ, st, ok, rs, h⟩ := h
  refine ⟨ρ, δ, st, ok, rs, Post.bind h fun x st1 v H1 ρ1 g1 ok1 rx h1 => ⟨ρ1, δ, st1, ok1, rs.go g1, Post.bind h1 fun y st2 u H2 ρ2 g2 ok2 ry h2 => ?_⟩⟩
  refine hf.k ok2 (R.go g2 x v rx) ry _ h2 (fun d st3 H3 ρ3 b g3 ok3 e h3 => ?_) fun d st' hd => by
    cases d with
    | bl b => exact absurd rfl (hd b)
    | _ => rfl
  subst e
  cases b with
  | false => exact (show Post X.K T W (R X.K) σ H3 ρ3 (.ok (.bl false) st3) _ from h3).ok ok3 rfl
  | true =>
    refine ⟨ρ3, δ, st3, ok3, ((rs.go g1).go g2).go g3, Post.bind h3 fun z st4 w H4 ρ4 g4 ok4 rz h4 => ?_⟩
    refine hg.k ok4 (R.go g4 y u (R.go g3 y u ry)) rz _ h4 (fun d st5 H5 ρ5 b g5 ok5 e h5 => ?_) fun d st' hd => by
      cases d with
      | bl b => exact absurd rfl (hd b)
      | _ => rfl
    subst e
    cases b with
    | false => exact (show Post X.K T W (R X.K) σ H5 ρ5 (.ok (.bl false) st5) _ from h5).ok ok5 rfl
    | true => exact ⟨ρ5, δ, st5, ok5, ((((rs.go g1).go g2).go g3).go g4).go g5, Post.bind h5 fun t st6 wt H6 ρ6 g6 ok6 rt h6 => hh W σ H6 ρ6 st6 z t w wt Q ok6 (R.go g6 z w (R.go g5 z w rz)) rt h6⟩
theorem de_ch3 {op op' op3 : CmpOp} {r r' r3 : R2} {f g h3 : D → D → Store → Res D} (ho : OpR X (compareOp op) r) (ho' : OpR X (compareOp op') r') (ho3 : OpR X (compareOp op3) r3) (hf : Tell2 X T r f) (hg : Tell2 X T r' g) (hh : Tell2 X T r3 h3) (ha : DE X T W a ma) (hb : DE X T W b mb) (hc : DE X T W c mc) (hd : DE X T W d md)
    (hm : lastMarks [op, op', op3] [b, c, d] = false := by with_unfolding_all rfl) : DE X T W (.Compare a [op, op', op3] [b, c, d] pos) (eCh3 f g h3 ma mb mc md) :=
  ⟨PE.imp (pe_chain3 ho ho' ho3 ha.pe hb.pe hc.pe hd.pe hm) fun σ H Q h => ch3_key hf hg hh h⟩
theorem dt_ch3 {op op' op3 : CmpOp} {r r' r3 : R2} {f g h3 : D → D → Store → Res D} (ho : OpR X (compareOp op) r) (ho' : OpR X (compareOp op') r') (ho3 : OpR X (compareOp op3) r3) (hf : Tell2 X T r f) (hg : Tell2 X T r' g) (hh : Tell2 X T r3 h3) (ha : DE X T W a ma) (hb : DE X T W b mb) (hc : DE X T W c mc) (hd : DE X T W d md)
    (hm : lastMarks [op, op', op3] [b, c, d] = false := by with_unfolding_all rfl) : DT X T W (.Compare a [op, op', op3] [b, c, d] pos) (tVal (eCh3 f g h3 ma mb mc md)) :=
  ⟨PT.imp (pt_chain3 ho ho' ho3 ha.pe hb.pe hc.pe hd.pe hm) fun σ H Q h => ch3_key hf hg hh (rT_of h)⟩
end
/-! ### dicts -/
def keyD : D → Option Key
  | .int i => some (.inl i)
  | .str x => some (.inr x)
  | _ => none
theorem keyAt {K : PySem.W.Frag} {H : Hp} {ρ : Wo} {d : D} {v : V} {k : Key} (r : R K H ρ d v) (e : keyD d = some k) : v = kV k := by
  cases d with
  | int i => cases e; exact r
  | str x => cases e; exact r
  | _ => cases e
def valG {α : Type} (kvs : List (Key × α)) (k : Key) : Option α := (kvs.find? fun kv => decide (kv.1 = k)).map (·.2)
def putG {α : Type} (kvs : List (Key × α)) (k : Key) (v : α) : List (Key × α) :=
  if (kvs.any fun kv => decide (kv.1 = k)) = true then kvs.map (fun kv => if kv.1 = k then (kv.1, v) else kv) else kvs ++ [(k, v)]
theorem val_RL {K : PySem.W.Frag} {H : Hp} {ρ : Wo} {k : Key} : ∀ (kds : List (Key × D)) (kxs : List (Key × V)), kxs.map (·.1) = kds.map (·.1) → RL K H ρ (kds.map (·.2)) (kxs.map (·.2)) →
    (∀ d, valG kds k = some d → ∃ v, valV kxs k = some v ∧ R K H ρ d v) ∧ (valG kds k = none → valV kxs k = none)
  | [], [], _, _ => ⟨fun d h => (by cases h), fun _ => rfl⟩
  | [], _ :: _, e, _ => by simp at e
  | _ :: _, [], e, _ => by simp at e
  | p :: kds, q :: kxs, e, r => by
    simp only [List.map_cons, List.cons.injEq] at e
    obtain ⟨v, rest, e2, r1, r2⟩ := r
    simp only [List.map_cons, List.cons.injEq] at e2
    obtain ⟨rfl, rfl⟩ := e2
    by_cases h : p.1 = k
    · refine ⟨fun d hd => ?_, fun hn => ?_⟩
      · rw [show valG (p :: kds) k = some p.2 by simp [valG, List.find?_cons, h]] at hd
        cases hd
        exact ⟨_, valV_pos (e.1.trans h), r1⟩
      · rw [show valG (p :: kds) k = some p.2 by simp [valG, List.find?_cons, h]] at hn
        cases hn
    · have ih := val_RL (k := k) kds kxs e.2 r2
      rw [show valG (p :: kds) k = valG kds k by simp [valG, List.find?_cons, h], valV_neg (fun z => h (e.1.symm.trans z))]
      exact ih
theorem put_RL {K : PySem.W.Frag} {H : Hp} {ρ : Wo} {k : Key} {d : D} {v : V} (rd : R K H ρ d v) : ∀ {kds : List (Key × D)} {kxs : List (Key × V)}, kxs.map (·.1) = kds.map (·.1) → RL K H ρ (kds.map (·.2)) (kxs.map (·.2)) →
    (putK kxs k v).map (·.1) = (putG kds k d).map (·.1) ∧ RL K H ρ ((putG kds k d).map (·.2)) ((putK kxs k v).map (·.2)) := by
  intro kds kxs e r
  have any_eq : ∀ {kds : List (Key × D)} {kxs : List (Key × V)}, kxs.map (·.1) = kds.map (·.1) → (kxs.any fun kv => decide (kv.1 = k)) = (kds.any fun kv => decide (kv.1 = k)) := by
    intro kds
    induction kds with
    | nil => intro kxs e; cases kxs with
      | nil => rfl
      | cons _ _ => simp at e
    | cons p r ih => intro kxs e; cases kxs with
      | nil => simp at e
      | cons q s =>
        simp only [List.map_cons, List.cons.injEq] at e
        simp only [List.any_cons, e.1, ih e.2]
  have map_eq : ∀ {kds : List (Key × D)} {kxs : List (Key × V)}, kxs.map (·.1) = kds.map (·.1) → RL K H ρ (kds.map (·.2)) (kxs.map (·.2)) →
      (kxs.map fun kv => if kv.1 = k then (kv.1, v) else kv).map (·.1) = (kds.map fun kv => if kv.1 = k then (kv.1, d) else kv).map (·.1) ∧ RL K H ρ ((kds.map fun kv => if kv.1 = k then (kv.1, d) else kv).map (·.2)) ((kxs.map fun kv => if kv.1 = k then (kv.1, v) else kv).map (·.2)) := by
    intro kds
    induction kds with
    | nil => intro kxs e r; cases kxs with
      | nil => exact ⟨rfl, rfl⟩
      | cons _ _ => simp at e
    | cons p t ih => intro kxs e r; cases kxs with
      | nil => simp at e
      | cons q s =>
        simp only [List.map_cons, List.cons.injEq] at e
        obtain ⟨w, rest, e2, r1, r2⟩ := r
        simp only [List.map_cons, List.cons.injEq] at e2
        obtain ⟨rfl, rfl⟩ := e2
        obtain ⟨h1, h2⟩ := ih e.2 r2
        refine ⟨?_, ?_⟩
        · rw [List.map_cons, List.map_cons, List.map_cons, List.map_cons, h1]
          congr 1
          rw [e.1]
          split <;> simp [e.1]
        · simp only [List.map_cons]
          refine ⟨_, _, rfl, ?_, h2⟩
          rw [e.1]
          split
          · exact rd
          · exact r1
  unfold putK putG
  rw [any_eq e]
  split
  · exact map_eq e r
  · refine ⟨by simp [e], ?_⟩
    rw [List.map_append, List.map_append]
    exact r.append ⟨v, [], rfl, rd, rfl⟩
section
variable {X : Cx} {T : Tb} {W : WX} {a b c d e o i : Expr} {es : List Expr} {mas : AM} {ma mb mc md me mo mi : EM} {pos p1 p2 : Pos}
def eDictN : EM := fun _ st => .ok (.loc st.length) (st ++ [.dk []])
theorem de_dictN : DE X T W (.Dict [] [] pos) eDictN :=
  ⟨PE.imp pe_dnewK fun σ H Q ⟨ρ, δ, st, ok, rs, h⟩ p hp => h (.ref p) _ (ρ.more p) (go_more ok hp) (ok.more hp ⟨[], upd_same, rfl, rfl⟩) ⟨p, rfl, by show (ρ.m ++ [p])[st.length]? = _; rw [← ok.len]; simp⟩⟩
/-- d[k] -/
def dKx (x y : D) (st : Store) : Res D := match x, keyD y with
  | .loc n, some k => match st[n]? with
    | some (.dk kvs) => match valG kvs k with
      | some v => .ok v st
      | none => .bad
    | _ => .bad
  | _, _ => .bad
theorem de_kx (hu : X.A.units + 64 < cLine) (ha : DE X T W a ma) (hb : DE X T W b mb) (hs : NoSl b := by exact fun _ _ => rfl) : DE X T W (.Subscript a b pos) (e2 dKx ma mb) := by
  refine ⟨PE.imp (pe_dget (by omega) ha.pe hb.pe hs) fun σ H Q ⟨ρ, δ, st, ok, rs, h⟩ => ⟨ρ, δ, st, ok, rs, Post.bind h fun x st1 v H1 ρ1 g1 ok1 rx h1 => ⟨ρ1, δ, st1, ok1, rs.go g1, Post.bind h1 fun y st2 u H2 ρ2 g2 ok2 ry h2 => ?_⟩⟩⟩
  replace rx := R.go g2 x v rx
  unfold dKx at h2
  split at h2
  · rename_i n k ek
    split at h2
    · rename_i kds q
      split at h2
      · rename_i w ew
        obtain ⟨p, rfl, hp, kxs, hk, e1, r1⟩ := locAt ok2 rx q
        rw [keyAt ry ek]
        obtain ⟨z, hz, rz⟩ := (val_RL _ _ e1 r1).1 w ew
        exact ⟨p, z, rfl, by rw [← hz]; exact DGet.k hk, h2.ok ok2 rz⟩
      · exact h2.elim
    · exact h2.elim
  · exact h2.elim
/-- d[k] = v -/
def dKset (x y v : D) (st : Store) : Option Store := match x, keyD y with
  | .loc n, some k => match st[n]? with
    | some (.dk kvs) => if kvs.length < 1000000 then some (st.set n (.dk (putG kvs k v))) else none
    | _ => none
  | _, _ => none
def sKput (mo mi me : EM) : SM := fun δ st => sBind (me δ st) δ fun v st1 => sBind (mo δ st1) δ fun x st2 => sBind (mi δ st2) δ fun y st3 => match dKset x y v st3 with
  | some st4 => .nx δ st4
  | none => .bad
theorem ds_kput (hu : X.A.units + 64 < cLine) (ho : DE X T W o mo) (hi : DE X T W i mi) (hv : DE X T W e me) (hs : swapsWith e (some (.Subscript o i p1)) pos.line X.env = pure false := by rfl) : DS X T W (.Assign [.Subscript o i p1] e pos) (sKput mo mi me) := by
  refine ⟨PS.imp (ps_dput (by omega) ho.pe hi.pe hv.pe hs) fun D σ H ⟨ρ, δ, st, ok, rs, h⟩ => ⟨ρ, δ, st, ok, rs, PostS.bind h rs fun v st1 vv H1 ρ1 g1 ok1 rv h1 => ⟨ρ1, δ, st1, ok1, rs.go g1, PostS.bind h1 (rs.go g1) fun x st2 xv H2 ρ2 g2 ok2 rx h2 => ⟨ρ2, δ, st2, ok2, (rs.go g1).go g2, PostS.bind h2 ((rs.go g1).go g2) fun y st3 yv H3 ρ3 g3 ok3 ry h3 => ?_⟩⟩⟩⟩
  replace rv := R.go g3 _ _ (R.go g2 _ _ rv)
  replace rx := R.go g3 _ _ rx
  split at h3
  · rename_i st4 e4
    unfold dKset at e4
    split at e4
    · rename_i n k ek
      split at e4
      · rename_i kds q
        split at e4
        · rename_i hl
          cases e4
          obtain ⟨p, rfl, hp, kxs, hk, e1, r1⟩ := locAt ok3 rx q
          have hlen : kxs.length = kds.length := by have := congrArg List.length e1; simpa using this
          rw [keyAt ry ek]
          have g := go_put (H := H3) (o := .dK (putK kxs k vv)) hp ⟨_, hk⟩
          obtain ⟨z1, z2⟩ := put_RL (k := k) (R.go g _ _ rv) e1 (RL.go g _ _ r1)
          refine ⟨p, _, rfl, DPut.k hk (by rw [hlen, sizeLine_eq]; omega), ?_⟩
          exact h3 σ _ ρ3 g (ok3.put hp q ⟨_, upd_same, z1, z2⟩) ((((rs.go g1).go g2).go g3).go g)
        · cases e4
      · cases e4
    · cases e4
  · exact h3.elim
end
end L3

/-! ### text Lp -/
namespace L3
open PySem PySem.Spec PyProof.Rows L2

/-! ### what stands behind the top: facts by names, tables of code objects -/
/-- the code object and its table of the function at f -/
def codeA (K : PySem.W.Frag) (f : Addr) : Addr := match codeOf K f with
  | some (.ref c) => c
  | _ => 0
def tabP (K : PySem.W.Frag) (f : Addr) : Addr := match K.lookup (codeA K f) with
  | some ⟨_, _, .fields vs, _⟩ => match (vs[11]? : Option Value) with
    | some (Value.ref P) => P
    | _ => 0
  | _ => 0
def isTab (o : Obj) : Bool := match o with
  | ⟨.none, none, .fields vs, sl⟩ => vs.isEmpty && sl.isEmpty
  | _ => false
theorem isTab_ok {o : Obj} (h : isTab o = true) : o = { cls := .none, data := .fields #[] } := by
  obtain ⟨oc, od, dt, sl⟩ := o
  unfold isTab at h
  split at h
  · rename_i vs sl' e
    injection e with e1 e2 e3 e4
    subst e1 e2 e3 e4
    rw [Bool.and_eq_true] at h
    have h1 := Array.isEmpty_iff.mp h.1
    have h2 := Array.isEmpty_iff.mp h.2
    subst h1 h2
    rfl
  · cases h
def isLst (o : Obj) : Bool := match o.cls with
  | .type "list" => true
  | _ => false
/-- the kept part: no tables, no lists -/
def partOf (g : Addr → Option Obj) (as : List Addr) : PySem.W.Frag := He.frG (fun a => match g a with
  | some o => if (isTab o || isLst o) = true then none else some o
  | none => none) as
theorem partOf_in {as : List Addr} {h : Heap} : (partOf h.get? as).In h := fun a o e => by
  have e1 := He.frG_at as e
  split at e1
  · rename_i o' q
    split at e1
    · cases e1
    · cases e1; exact q
  · cases e1
theorem partOf_no {g : Addr → Option Obj} {as : List Addr} {a : Addr} {o : Obj} (e : (partOf g as).lookup a = some o) : isTab o = false ∧ isLst o = false := by
  have e1 := He.frG_at as e
  split at e1
  · rename_i o' q
    split at e1
    · cases e1
    · rename_i h
      cases e1
      simp only [Bool.or_eq_true, not_or, Bool.not_eq_true] at h
      exact h
  · cases e1
def hdB (K : PySem.W.Frag) (c P : Addr) : Bool := match K.lookup c with
  | some ⟨.type t, _, .fields vs, _⟩ => decide (t = "code") && decide (vs[11]? = some (.ref P)) && decide (c ≠ P) && (match vs.getD 18 .none with
    | .str _ _ => true
    | _ => false) && (match vs.getD 7 .none with
    | .int _ _ => true
    | _ => false) && (match vs.getD 9 .none with
    | .bool _ => true
    | _ => false) && (match vs.getD 10 .none with
    | .int _ _ => true
    | _ => false)
  | _ => false
theorem hdB_ok {K : PySem.W.Frag} {h : Heap} {c P : Addr} (X : K.In h) (e : hdB K c P = true) : PySem.W.CodeHd h c P := by
  unfold hdB at e
  split at e
  · rename_i t od vs sl q
    simp only [Bool.and_eq_true, decide_eq_true_eq] at e
    obtain ⟨⟨⟨⟨⟨⟨h1, h2⟩, h3⟩, h4⟩, h5⟩, h6⟩, h7⟩ := e
    subst h1
    have g11 : vs.getD 11 .none = .ref P := by
      rw [Array.getD_eq_getD_getElem?, h2]; rfl
    split at h4
    · rename_i x1 t1 q1
      split at h5
      · rename_i x2 t2 q2
        split at h6
        · rename_i x3 q3
          split at h7
          · rename_i x4 t4 q4
            exact ⟨_, vs, x1, t1, x2, t2, x3, x4, t4, X _ _ q, rfl, rfl, h2, g11, q1, q2, q3, q4, h3⟩
          · cases h7
        · cases h6
      · cases h5
    · cases h4
  · cases e
/-! ### defs at addresses that the kept part tells -/
def fnWa (K : PySem.W.Frag) (a : Addr) : He.FnW := match K.lookup a with
  | some o => match o.data with
    | .func fd => some (fd.name, fd.qualname, fd.params, fd.body, fd.scope, fd.globals, fd.closure, fd.builtins)
    | _ => none
  | none => none
/-- a def without defaults: where it stands, its name, qualified name, parameters, body, scope -/
structure DefA where
  adr : PySem.W.Frag → Addr
  name : Str
  qual : Str
  params : Arguments
  body : List Stmt
  scope : Scope
def DefA.val (d : DefA) : He.FnW := some (d.name, d.qual, d.params, .stmts d.body, d.scope, mainGlobals, [], builtinsNs)
def noneV (v : Value) : Bool := match v with
  | .none => true
  | _ => false
def DefA.ok (K : PySem.W.Frag) (d : DefA) : Bool := PySem.W.keepIn K (.ref (d.adr K)) && match K.lookup (d.adr K) with
  | some o => match o.data with
    | .func fd => PySem.W.codeIn K fd.code d.qual && noneV fd.defaults
    | _ => false
  | none => false
theorem DefA.fn {K : PySem.W.Frag} {stm : Stmt} {x q : Str} {ad : PySem.W.Frag → Addr} (e : fnWa K (ad K) = DefA.val ⟨ad, x, q, defArgs stm, defBody stm, defScope stm⟩) (c : DefA.ok K ⟨ad, x, q, defArgs stm, defBody stm, defScope stm⟩ = true) : ∃ fd, Fun K x q stm (ad K) fd := by
  unfold DefA.ok at c
  rw [Bool.and_eq_true] at c
  obtain ⟨kp, c⟩ := c
  unfold fnWa at e
  cases hl : K.lookup (ad K) with
  | none => rw [hl] at c; cases c
  | some o =>
    obtain ⟨oc, od, dt, osl⟩ := o
    rw [hl] at c e
    cases dt with
    | func fd =>
      obtain ⟨n1, n2, n3, n4, n5, n6, n7, n8, n9, n10, n11, n12, n13, n14, n15⟩ := fd
      have h2 : (some (n1, n2, n3, n4, n5, n6, n7, n15) : He.FnW) = some (x, q, defArgs stm, .stmts (defBody stm), defScope stm, mainGlobals, [], builtinsNs) := e
      simp only [Option.some.injEq, Prod.mk.injEq] at h2
      obtain ⟨rfl, rfl, rfl, rfl, rfl, rfl, rfl, rfl⟩ := h2
      have c3 : (PySem.W.codeIn K n13 n2 && noneV n8) = true := c
      rw [Bool.and_eq_true] at c3
      obtain ⟨k1, k2⟩ := c3
      cases n8 with
      | none => exact ⟨_, ⟨oc, od, n9, n10, n11, n12, n13, n14, osl, rfl, hl, k1⟩, kp⟩
      | _ => cases k2
    | _ => cases c
abbrev Nm2 : Type := Str × Option Str
/-- what the end leans on: all facts; each of cs has a code object with an empty table -/
structure Says (fa : List (PySem.W.Frag → Bool)) (fn : List DefA) (cs : List Nm2) (h : Heap) (K : PySem.W.Frag) : Prop where
  kin : K.In h
  fa : ∀ f ∈ fa, f K = true
  fn : ∀ d ∈ fn, d.ok K = true ∧ fnWa K (d.adr K) = d.val
  tab : ∀ x ∈ cs, h.get? (tabP K (He.fAd K x)) = some { cls := .none, data := .fields #[] } ∧ K.lookup (tabP K (He.fAd K x)) = none ∧ hdB K (codeA K (He.fAd K x)) (tabP K (He.fAd K x)) = true ∧ codeOf K (He.fAd K x) = some (.ref (codeA K (He.fAd K x)))
  nolst : ∀ a o, K.lookup a = some o → isLst o = false
abbrev AlT : Type := Bool × List He.FnW
def tabsB (g : Addr → Option Obj) (cs : List Nm2) (K : PySem.W.Frag) : Bool := cs.all fun x => (match g (tabP K (He.fAd K x)) with
  | some o => isTab o
  | none => false) && hdB K (codeA K (He.fAd K x)) (tabP K (He.fAd K x)) && decide (codeOf K (He.fAd K x) = some (.ref (codeA K (He.fAd K x))))
def obsT (n : Nat) (fa : List (PySem.W.Frag → Bool)) (fn : List DefA) (cs : List Nm2) (g : Addr → Option Obj) : AlT :=
  let K := partOf g (He.asD g n)
  ((fa.all fun f => f K) && fn.all (fun d => d.ok K) && tabsB g cs K, fn.map fun d => fnWa K (d.adr K))
theorem obsT_ok {n : Nat} {fa : List (PySem.W.Frag → Bool)} {fn : List DefA} {cs : List Nm2} {h : Heap} (e : obsT n fa fn cs h.get? = (true, fn.map DefA.val)) : Says fa fn cs h (partOf h.get? (He.asD h.get? n)) := by
  have e1 := congrArg (fun z : AlT => z.1) e
  have e2 := congrArg (fun z : AlT => z.2) e
  simp only [obsT, Bool.and_eq_true] at e1 e2
  obtain ⟨⟨h1, h2⟩, h3⟩ := e1
  refine ⟨partOf_in, fun f hf => List.all_eq_true.mp h1 f hf, fun d hd => ⟨List.all_eq_true.mp h2 d hd, ?_⟩, fun x hx => ?_, fun a o q => (partOf_no q).2⟩
  · obtain ⟨i, hi⟩ := List.mem_iff_getElem?.mp hd
    have e3 := congrArg (fun l => l[i]?) e2
    simp only [List.getElem?_map, hi, Option.map_some] at e3
    exact Option.some.inj e3
  · have z := List.all_eq_true.mp h3 x hx
    simp only [Bool.and_eq_true, decide_eq_true_eq] at z
    obtain ⟨⟨z1, z2⟩, z3⟩ := z
    split at z1
    · rename_i o q
      have eo := isTab_ok z1
      subst eo
      refine ⟨q, ?_, z2, z3⟩
      cases hk : (partOf h.get? (He.asD h.get? n)).lookup (tabP (partOf h.get? (He.asD h.get? n)) (He.fAd (partOf h.get? (He.asD h.get? n)) x)) with
      | none => rfl
      | some o' =>
        have k1 := partOf_in _ _ hk
        rw [q] at k1
        cases k1
        have := (partOf_no hk).1
        cases this
    · cases z1
theorem Says.keeps {fa : List (PySem.W.Frag → Bool)} {fn : List DefA} {cs : List Nm2} {h h' : Heap} {K : PySem.W.Frag} (c : Says fa fn cs h K) (k : ∀ b o, h.get? b = some o → h'.get? b = some o) : Says fa fn cs h' K :=
  ⟨PySem.W.Frag.In.keeps c.kin k, c.fa, c.fn, fun x hx => let ⟨a, b⟩ := c.tab x hx; ⟨k _ _ a, b⟩, c.nolst⟩
def hookT (n : Nat) (fa : List (PySem.W.Frag → Bool)) (fn : List DefA) (cs : List Nm2) : PySem.W.Hook where
  α := AlT
  obs := fun s => obsT n fa fn cs s.heap.get?
  val := fun _ => (true, fn.map DefA.val)
  says := fun _ h => ∃ K : PySem.W.Frag, Says fa fn cs h K
  of := fun _ _ e => ⟨_, obsT_ok e⟩
  keeps := fun _ _ _ ⟨K, c⟩ k => ⟨K, c.keeps k⟩
theorem obsT_eq {n : Nat} {fa : List (PySem.W.Frag → Bool)} {fn : List DefA} {cs : List Nm2} {g : Addr → Option Obj} {s : Shared} (h : ∀ a, g a = s.heap.get? a) : obsT n fa fn cs g = (hookT n fa fn cs).obs s := by
  have e : g = s.heap.get? := funext h
  rw [e] <;> rfl
theorem Says.at {fa : List (PySem.W.Frag → Bool)} {fn : List DefA} {cs : List Nm2} {h : Heap} {K : PySem.W.Frag} (c : Says fa fn cs h K) (i : Nat) {f : PySem.W.Frag → Bool} (e : fa[i]? = some f := by rfl) : f K = true := c.fa f (List.mem_of_getElem? e)
/-- a def by its place -/
theorem Says.def_ {fa : List (PySem.W.Frag → Bool)} {fn : List DefA} {cs : List Nm2} {h : Heap} {K : PySem.W.Frag} (c : Says fa fn cs h K) (i : Nat) {stm : Stmt} {x : Str} {q : Str} {ad : PySem.W.Frag → Addr} (e : fn[i]? = some ⟨ad, x, q, defArgs stm, defBody stm, defScope stm⟩ := by rfl) :
    ∃ fd, Fun K x q stm (ad K) fd := by
  obtain ⟨h1, h2⟩ := c.fn _ (List.mem_of_getElem? e)
  exact DefA.fn h2 h1
/-! ### the law's call -/
section
variable {P : Program} {w : World} {K : PySem.W.Frag} {mg mb : Str → Option Value} {k : Nat} {fa a : Addr} {cs : List (Addr × Addr)} {tabs : List NdefX.NTab} {fd : FuncData} {x : Str} {mf : List D → Store → Res D} {s₁ : Shared} {vs : List Value} {ns : List Int}
/-- the heap at the call: the script is locked, the tables are empty, nothing else is tracked -/
def lawH (a : Addr) (o : Obj) (xs : List V) (ts : List Addr) : Hp := fun b => if b = a then some (.frz o (.lst xs)) else if b ∈ ts then some (.tbl #[]) else none
theorem cx_false {P : Program} {w : World} {outer : List Env} {H : Hp} {s : Shared} {e : Value} {s' : Shared} (h : L2.CX P w outer H s (fun _ _ _ => False) e s') : False := by
  unfold L2.CX at h
  simp only [and_false, exists_false] at h
theorem law_callD (KX : K.In s₁.heap) (hns : s₁.heap.Ns mainGlobals mg) (hb : s₁.heap.Ns builtinsNs mb) (hbb : ∀ x : Str, x ≠ "__name__" → mb x = bootBuiltins x) (hlim : s₁.heap.NoLimit) (hg : s₁.gens = #[])
    (hT : ∀ p ∈ cs, s₁.heap.get? p.2 = some { cls := .none, data := .fields #[] }) (nT : ∀ p ∈ cs, K.lookup p.2 = none) (C : ∀ p ∈ cs, PySem.W.CodeHd s₁.heap p.1 p.2) (nA : K.lookup a = none)
    (hbm : ∃ (bm : Addr) (ob : Obj), mg "__builtins__" = some (.ref bm) ∧ bm ≠ builtinsNs ∧ s₁.heap.get? bm = some ob ∧ ob.cls = .type "module" ∧ ob.dict = some builtinsNs ∧ ob.data = .plain)
    (ha : s₁.heap.get? a = some { cls := .type "list", data := .seq vs.toArray }) (hi : IntsAre vs ns) (hl : ns.length ≤ sizeLine) (hr : Room k callerA) (hgd : callerA.guards = some [])
    (F : ∀ base : Heap, K.In base → base.Ns mainGlobals mg → (∀ p ∈ cs, LamX.TabB base mg p.1 p.2) → FnD P w K mg base tabs k fa fd [x] mf) (hbind : ∀ (s : Shared) (u : Value), BindsTo s fd ⟨[u], []⟩ [(x, u)]) (ht : ∀ p ∈ tabs, p.1 ∈ cs.map (·.2))
    (hmf : mf [.rl (ns.map D.int)] [] = .ok (.bl true) []) :
    codeAny (model P w) callerA (.call (.ref fa) ⟨[.ref a], []⟩) (fun r s' => r = .ok (.ret (.bool true)) ∧ OldK s₁.heap s'.heap ∧ s'.os = s₁.os ∧ AllBare s'.gens) s₁ := by
  have isT : ∀ b : Addr, b ∈ cs.map (·.2) → s₁.heap.get? b = some { cls := .none, data := .fields #[] } := fun b hb => by
    obtain ⟨p, hp, e⟩ := List.mem_map.mp hb
    exact e ▸ hT p hp
  have aT : a ∉ cs.map (·.2) := fun z => by
    have q := isT a z
    rw [ha] at q
    cases q
  obtain ⟨H, eH⟩ : ∃ H, H = lawH a { cls := .type "list", data := .seq vs.toArray } (ns.map V.int) (cs.map (·.2)) := ⟨_, rfl⟩
  have Ha : H a = some (.frz { cls := .type "list", data := .seq vs.toArray } (.lst (ns.map V.int))) := by rw [eH]; exact if_pos rfl
  have Ht : ∀ b ∈ cs.map (·.2), H b = some (.tbl #[]) := fun b hb => by
    rw [eH]
    exact (if_neg (fun z => aT (by rw [← z]; exact hb))).trans (if_pos hb)
  have Hn : ∀ b, b ≠ a → b ∉ cs.map (·.2) → H b = none := fun b h1 h2 => by
    rw [eH]
    exact (if_neg h1).trans (if_neg h2)
  have hid : ∀ {b : Addr} {o : Obj}, s₁.heap.get? b = some o → (∀ us n, o.data ≠ .seq us n) → o.data ≠ .fields #[] → H b = none := fun {b o} e h1 h2 => by
    refine Hn b (fun z => ?_) fun z => ?_
    · rw [z, ha] at e; cases e; exact h1 _ _ rfl
    · rw [isT b z] at e; cases e; exact h2 rfl
  have gt : ∀ {b : Addr} {o : Obj}, s₁.heap.get? b = some o → H b = none → (L2.hidT s₁.heap H).get? b = some o := fun e n => L2.hidT_get e n
  have nsK : ∀ {b : Addr} {m : Str → Option Value}, s₁.heap.Ns b m → (L2.hidT s₁.heap H).Ns b m := fun {b m} ⟨o, es, ep, e, d, r⟩ => ⟨o, es, ep, gt e (hid e (fun us n z => by rw [d] at z; cases z) fun z => by rw [d] at z; cases z), d, r⟩
  have KB : K.In (L2.hidT s₁.heap H) := fun b o e => gt (KX b o e) (Hn b (fun z => by rw [z, nA] at e; cases e) fun z => by
    obtain ⟨p, hp, ep⟩ := List.mem_map.mp z
    rw [← ep, nT p hp] at e
    cases e)
  have hM : L2.Mod K mg (L2.hidT s₁.heap H) := ⟨KB, nsK hns, ⟨mb, nsK hb, hbb⟩, let ⟨mc, h1, h2⟩ := hlim; ⟨mc, nsK h1, h2⟩⟩
  have TB : ∀ p ∈ cs, LamX.TabB (L2.hidT s₁.heap H) mg p.1 p.2 := fun p hp => by
    refine ⟨?_, ?_, fun z => ?_⟩
    · obtain ⟨o, us, file, tf, flags, tg, inF, text, tt, e1, r1, r2, r3, rest⟩ := C p hp
      exact ⟨o, us, file, tf, flags, tg, inF, text, tt, gt e1 (hid e1 (fun us' n z => by rw [r2] at z; cases z) fun z => by rw [r2] at z; cases z; simp at r3), r1, r2, r3, rest⟩
    · obtain ⟨bm, ob, b1, b2, b3, b4, b5, b6⟩ := hbm
      refine ⟨bm, ob, b1, b2, fun q => ?_, fun q => ?_, gt b3 (hid b3 (fun us n z => by rw [b6] at z; cases z) fun z => by rw [b6] at z; cases z), b4, b5, b6⟩
      · obtain ⟨o, es, ep, e, hd, _⟩ := hns
        rw [q, e] at b3; cases b3; rw [hd] at b6; cases b6
      · rw [q, hT p hp] at b3; cases b3; cases b6
    · obtain ⟨o, es, ep, e, hd, _⟩ := hns
      rw [z, hT p hp] at e; cases e; cases hd
  have hok : HOk P w H s₁.heap := fun b u z => by
    by_cases h1 : b = a
    · subst h1
      rw [Ha] at z; cases z
      exact ⟨ha, by rw [List.length_map]; exact hl, vs, _, vals_ints hi, ha⟩
    · by_cases h2 : b ∈ cs.map (·.2)
      · rw [Ht b h2] at z; cases z
        exact isT b h2
      · rw [Hn b h1 h2] at z; cases z
  have e0 : Env0 P w K mg (L2.hidT s₁.heap H) callerA [] s₁ H := ⟨rfl, hM, fun b o e => L2.of_hidT e, Nat.le_of_eq (L2.hidT_size _ _), trivial, fun b hb => absurd (show b ∈ ([] : List Addr) from hb) (by simp), hok, .of_eq hg⟩
  have okW : Ok K ⟨tabs, [], []⟩ H ⟨[], []⟩ [] := ⟨rfl, .nil, fun n b c h1 => by simp at h1, fun p hp => NdefX.TabN.nil (Ht _ (ht p hp)), fun b hb => by simp at hb, ⟨fun p hp => by simp at hp, fun q hq => by simp at hq⟩⟩
  have intR : ∀ zs : List Int, RL K H ⟨[], []⟩ (zs.map D.int) (zs.map V.int) := fun zs => by
    induction zs with
    | nil => rfl
    | cons z zs ih => exact ⟨.int z, _, rfl, rfl, ih⟩
  have rd : RL K H ⟨[], []⟩ [.rl (ns.map D.int)] [.ref a] := ⟨.ref a, [], rfl, ⟨a, _, _, rfl, Ha, fun z => by rcases z with z | z <;> simp at z, intR ns⟩, rfl⟩
  refine codeAny_mono ((F _ KB (nsK hns) TB).run ⟨tabs, [], []⟩ callerA [] s₁ H ⟨[.ref a], []⟩ [.ref a] [.ref a] [.rl (ns.map D.int)] ⟨[], []⟩ [] (fun v _ => v = .bl true) (fun _ _ _ => False) rfl hr hgd e0 (hbind s₁ (.ref a)) (.cons rfl .nil) okW rd ?_) fun r s' h => ?_
  · rw [hmf]
    exact fun b H' ρ' _ _ e => e
  cases r with
  | error e =>
    exact (cx_false h).elim
  | ok fl =>
    cases fl with
    | next => exact False.elim h
    | brk => exact False.elim h
    | cont => exact False.elim h
    | ret u =>
      obtain ⟨v, H', os, bare, un, hok', r', rfl⟩ := h
      obtain rfl : u = Value.bool true := r'
      have key : ∀ b o, b ∉ cs.map (·.2) → s₁.heap.get? b = some o → s'.heap.get? b = some o := fun b o nb e => by
        by_cases h1 : b = a
        · subst h1
          obtain ⟨e2, _⟩ := hok' b _ (un.frzs b _ _ Ha)
          rw [ha] at e; cases e
          exact e2
        · exact un.keep b o e (Hn b h1 nb) (by intro z; exact absurd (show b ∈ ([] : List Addr) from z) (by simp)) (by simp)
      refine ⟨rfl, ⟨fun b o e => ?_, fun b o e => ?_⟩, os, bare⟩
      · by_cases hb : b ∈ cs.map (·.2)
        · obtain ⟨p, hp, ep⟩ := List.mem_map.mp hb
          obtain ⟨more, z⟩ := un.tbls b #[] (Ht b hb)
          have hm := hok' b _ z
          rw [isT b hb] at e; cases e
          refine .inr (.inl ⟨?_, rfl, #[], _, rfl, hm⟩)
          rw [← ep]
          exact ((C p hp).tab (hT p hp)).isCodeTable
        · exact .inl (key b o hb e)
      · by_cases hb : b ∈ cs.map (·.2)
        · obtain ⟨more, z⟩ := un.tbls b #[] (Ht b hb)
          exact ⟨_, hok' b _ z⟩
        · exact ⟨o, key b o hb e⟩
end
/-- the law by its def's mirror -/
theorem walk_ofD {l : PySem.W.OpenLaw} {n nn k : Nat} {q : Program} {loose : List Str} {XP : (Str → Option Value) → Heap → Prop} {d : DefRec} {fa : List (PySem.W.Frag → Bool)} {fn : List DefA} {cs : List Nm2} {x : Str}
    (hn : l.most = some n) (hn2 : n ≤ sizeLine) (hdf : d.params.defaults = []) (hr : Room k callerA) (hgd : callerA.guards = some [])
    (F : ∀ (w : World) (mg : Str → Option Value) (fad : Addr) (h : Heap) (K : PySem.W.Frag), Says fa fn cs h K → h.Ns mainGlobals mg → mg d.name = some (.ref fad) →
      ∃ (fd : FuncData) (mf : List D → Store → Res D) (tabs : List NdefX.NTab), (∀ (s : Shared) (u : Value), BindsTo s fd ⟨[u], []⟩ [(x, u)]) ∧ (∀ p ∈ tabs, ∃ y ∈ cs, p.1 = tabP K (He.fAd K y)) ∧
        (∀ ns : List Int, ns.length ≤ n → (∀ z ∈ ns, Builtin.Int.intBits z ≤ 1048576) → mf [.rl (ns.map D.int)] [] = .ok (.bl true) []) ∧
        ∀ base : Heap, K.In base → base.Ns mainGlobals mg → (∀ y ∈ cs, LamX.TabB base mg (codeA K (He.fAd K y)) (tabP K (He.fAd K y))) → FnD l.prog w K mg base tabs k fad fd [x] mf) :
    PySem.W.WalkO q loose XP (hookT nn fa fn cs).says l.row.toRowW d [] (fun f vs => PySem.call f vs) := by
  refine Att.attach_callB hn hdf fun w s₀ s₁ mg mb fad o pm cd doc a vs ns G Y ho hd hcd hmg hobj hints hlen hbits hg => ?_
  obtain ⟨K, S⟩ := Y
  obtain ⟨fd, mf, tabs, hb, ht, hm, hF⟩ := F w mg fad _ K S G.T.g hmg
  have nA : K.lookup a = none := by
    cases e : K.lookup a with
    | none => rfl
    | some o' =>
      have e1 := S.kin _ _ e
      have e2 := S.nolst _ _ e
      rw [hobj] at e1
      cases e1
      cases e2
  have mem : ∀ {p : Addr × Addr}, p ∈ cs.map (fun y => (codeA K (He.fAd K y), tabP K (He.fAd K y))) → ∃ y ∈ cs, p = (codeA K (He.fAd K y), tabP K (He.fAd K y)) := fun {p} hp => by
    obtain ⟨y, hy, e⟩ := List.mem_map.mp hp
    exact ⟨y, hy, e.symm⟩
  refine law_callD (cs := cs.map fun y => (codeA K (He.fAd K y), tabP K (He.fAd K y))) S.kin G.T.g G.T.b G.T.builtins G.T.nolimit hg (fun p hp => ?_) (fun p hp => ?_) (fun p hp => ?_) nA G.T.bmain hobj hints (Nat.le_trans hlen hn2) hr hgd
    (fun base k1 k2 k3 => hF base k1 k2 fun y hy => k3 _ (List.mem_map.mpr ⟨y, hy, rfl⟩)) hb (fun p hp => ?_) (hm ns hlen hbits)
  · obtain ⟨y, hy, rfl⟩ := mem hp
    exact (S.tab y hy).1
  · obtain ⟨y, hy, rfl⟩ := mem hp
    exact (S.tab y hy).2.1
  · obtain ⟨y, hy, rfl⟩ := mem hp
    exact hdB_ok S.kin (S.tab y hy).2.2.1
  · obtain ⟨y, hy, e⟩ := ht p hp
    rw [e]
    exact List.mem_map.mpr ⟨_, List.mem_map.mpr ⟨y, hy, rfl⟩, rfl⟩
end L3

/-! ### text Lq -/
namespace L3
open PySem PySem.Spec PyProof.Rows L2

/-! ### facts by names -/
def fdOf (K : PySem.W.Frag) (f : Addr) : FuncData := match K.lookup f with
  | some ⟨_, _, .func fd, _⟩ => fd
  | _ => PySem.W.fnOf "" "" ⟨[], [], none, [], [], none, []⟩ [] ⟨.function, [], false, false, []⟩ .none .none .none .none none .none .none
theorem fun_fd {K : PySem.W.Frag} {x q : Str} {stm : Stmt} {f : Addr} {fd : FuncData} (F : Fun K x q stm f fd) : Fun K x q stm f (fdOf K f) := by
  obtain ⟨oc, od, kV, doc, pm, an, cdv, ct, osl, e1, e2, e3⟩ := F.ex
  have e : fdOf K f = fd := by unfold fdOf; rw [e2]
  rw [e]
  exact F
/-- a def of the module, by its name -/
structure FunA (K : PySem.W.Frag) (mg : Str → Option Value) (x : Str) (stm : Stmt) : Prop where
  f : Fun K x x stm (He.ga K x) (fdOf K (He.ga K x))
  m : mg x = some (.ref (He.ga K x))
theorem BindD.of {K : PySem.W.Frag} {x q : Str} {st : Stmt} {f : Addr} {fd : FuncData} {ps ks : List Str} {nu : Nat} {is : List Nat} (F : Fun K x q st f fd)
    (h : ∀ (kV doc pm : Value) (an : Option Addr) (cdv ct : Value) (us ws : List Value), us.length = nu → ws.length = ks.length → bindArgs (PySem.W.fnOf x q (defArgs st) (defBody st) (defScope st) .none kV doc pm an cdv ct) ⟨us, ks.zip ws⟩ = pure (ps.zip (perm is (us ++ ws)))) : BindD K fd ps ks nu is := by
  obtain ⟨oc, od, kV, doc, pm, an, cdv, ct, osl, rfl, lk, hcd⟩ := F.ex
  exact ⟨fun s us ws _ h1 h2 => .of_eq (h kV doc pm an cdv ct us ws h1 h2)⟩
section
variable {X : Cx} {T : Tb} {W : WX} {x : Str} {pos : Pos}
theorem de_gint {i : Int} (h : ∃ t, X.mg x = some (.int i t)) (hg : Gl X x := by rfl) (hd : (x == ("__debug__" : Str)) = false := by decide) : DE X T W (.Name x pos) (eC (.int i)) := by
  obtain ⟨t, h⟩ := h
  exact de_glob (v := .int i) hg h ⟨t, rfl⟩ (fun _ _ => rfl) hd
theorem de_gstr {i : Str} (h : ∃ t, X.mg x = some (.str i t)) (hg : Gl X x := by rfl) (hd : (x == ("__debug__" : Str)) = false := by decide) : DE X T W (.Name x pos) (eC (.str i)) := by
  obtain ⟨t, h⟩ := h
  exact de_glob (v := .str i) hg h ⟨t, rfl⟩ (fun _ _ => rfl) hd
theorem de_gref {a : Addr} (h : X.mg x = some (.ref a)) (hg : Gl X x := by rfl) (hd : (x == ("__debug__" : Str)) = false := by decide) : DE X T W (.Name x pos) (eC (.ref a)) :=
  de_glob (v := .ref a) hg h rfl (fun _ _ => rfl) hd
end
def dvD (K : PySem.W.Frag) : He.Dv → D
  | .non => .non
  | .bl b => .bl b
  | .int i => .int i
  | .str x => .str x
  | .ty n => .ty n
  | .glo x => .ref (He.ga K x)
  | .adr p => .ref (p K)
  | _ => .non
def dvPlain : He.Dv → Bool
  | .byt _ => false
  | .flt _ => false
  | _ => true
theorem dv_R {K : PySem.W.Frag} {H : Hp} {ρ : Wo} : ∀ (vs : List He.Dv), vs.all dvPlain = true → RL K H ρ (vs.map (dvD K)) (vs.map (He.Dv.v K))
  | [], _ => rfl
  | d :: vs, h => by
    simp only [List.all_cons, Bool.and_eq_true] at h
    refine ⟨d.v K, _, rfl, ?_, dv_R vs h.2⟩
    cases d with
    | byt b => exact absurd (show false = true from h.1) (by decide)
    | flt b => exact absurd (show false = true from h.1) (by decide)
    | _ => rfl
/-- a flat tuple of the module -/
structure TupA (K : PySem.W.Frag) (mg : Str → Option Value) (x : Str) (vs : List He.Dv) : Prop where
  m : mg x = some (.ref (He.ga K x))
  s : SqT K (fun _ => none) (He.ga K x) (vs.map (He.Dv.v K))
theorem de_gtup {X : Cx} {T : Tb} {W : WX} {x : Str} {pos : Pos} {vs : List He.Dv} (h : TupA X.K X.mg x vs) (hp : vs.all dvPlain = true := by rfl) (hg : Gl X x := by rfl) (hd : (x == ("__debug__" : Str)) = false := by decide) : DE X T W (.Name x pos) (eC (.tup (vs.map (dvD X.K)))) :=
  de_glob (v := .ref (He.ga X.K x)) hg h.m rfl (fun H ρ => ⟨_, _, rfl, .inr h.s, dv_R vs hp⟩) hd
/-! ### the looks -/
def intB (x : Str) (i : Int) (K : PySem.W.Frag) : Bool := (He.Fa.int x i).ok K
def strB (x z : Str) (K : PySem.W.Frag) : Bool := (He.Fa.str x z).ok K
def gloB (x : Str) (K : PySem.W.Frag) : Bool := (He.Fa.glo x).ok K
def freeB (x : Str) (K : PySem.W.Frag) : Bool := (He.Fa.free x).ok K
def tupAB (x : Str) (vs : List He.Dv) (K : PySem.W.Frag) : Bool := gloB x K && He.tupB K x vs
/-- an own exception class of one field -/
def oexB (K : PySem.W.Frag) (C : Addr) : Bool := (match K.lookup C with
  | some ⟨.type t, _, .cls cd, sl⟩ => decide (t = "type") && (cd.hasDict && (!cd.hasDel && ((match cd.mro with
    | .ref C' :: bm => decide (C' = C) && HandSPX.refsVE bm
    | _ => false) && (match sl.toList with
    | [_, _, _, _, some (.builtin n), _] => decide (n = "ValueError.__new__")
    | _ => false))))
  | _ => false) && (decide (PySem.W.findIn K (.ref C) "__setattr__" = some (some (.builtin "object.__setattr__"))) && (decide (PySem.W.subIn K (.ref C) (.type "BaseException") = some true) && (decide (PySem.W.typeIn K (.ref C) = some (.type "type")) && PySem.W.keepIn K (.ref C))))
theorem oexB_ok {K : PySem.W.Frag} {C : Addr} (h : oexB K C = true) : OexC K C := by
  unfold oexB at h
  simp only [Bool.and_eq_true, decide_eq_true_eq] at h
  obtain ⟨h0, h1, h2, h3, h4⟩ := h
  refine ⟨?_, h1, h2, h3, h4⟩
  split at h0
  · rename_i t dd cd sl q
    simp only [Bool.and_eq_true, decide_eq_true_eq, Bool.not_eq_true'] at h0
    obtain ⟨a1, a2, a3, a4, a5⟩ := h0
    subst a1
    split at a4
    · rename_i C' bm e1
      simp only [Bool.and_eq_true, decide_eq_true_eq] at a4
      obtain ⟨rfl, a4⟩ := a4
      split at a5
      · rename_i k0 k1 k2 k3 n k5 e2
        have e3 := of_decide_eq_true a5
        subst e3
        obtain ⟨n1, n2, n3, n4, n5, n6, n7, n8, n9, n10, n11⟩ := cd
        simp only at a2 a3 e1
        subst a2 a3 e1
        refine ⟨n1, n5, n4, n2, bm, n7, n8, n9, n10, dd, k0, k1, k2, k3, k5, ?_, a4⟩
        rw [q]
        have e4 : sl = #[k0, k1, k2, k3, some (.builtin "ValueError.__new__"), k5] := by
          apply Array.toList_inj.mp
          rw [e2]
        rw [e4]
      · cases a5
    · cases a4
  · cases h0
def excB (x fld : Str) (K : PySem.W.Frag) : Bool := gloB x K && (oexB K (He.ga K x) && (decide (PySem.W.findIn K (.ref (He.ga K x)) "__init__" = some (some (.ref (He.ma K (He.ga K x) "__init__")))) && (decide (PySem.W.typeIn K (.ref (He.ma K (He.ga K x) "__init__")) = some (.type "function")) && (decide (PySem.W.findIn K (.ref (He.ga K x)) fld = some none) && xfB K (He.ga K x)))))
/-- what is known of an own exception class -/
structure ExA (P : Program) (w : World) (K : PySem.W.Frag) (mg : Str → Option Value) (base : Heap) (x fld : Str) : Prop where
  m : mg x = some (.ref (He.ga K x))
  e : ExD P w K mg base x (He.ga K x) fld
  xf : XfC K (He.ga K x)
  no : PySem.W.findIn K (.ref (He.ga K x)) fld = some none
theorem ExA.of {P : Program} {w : World} {K : PySem.W.Frag} {mg : Str → Option Value} {base h : Heap} {x fld q : Str} {stm : Stmt} {fd : FuncData} {fld2 : Str} {p1 p2 p3 p4 : Pos} (X : K.In h) (G : h.Ns mainGlobals mg) (c : excB x fld K = true) (F : Fun K "__init__" q stm (He.ma K (He.ga K x) "__init__") fd)
    (S : FnScope ["self", fld2] ["self", fld2] (defScope stm)) (hb : defBody stm = [.Assign [.Attribute (.Name "self" p1) fld p2] (.Name fld2 p3) p4]) (hd : (fld2 == ("__debug__" : Str)) = false) (hc : (fld2 == ("__classdict__" : Str)) = false)
    (hbind : ∀ (kV doc pm : Value) (an : Option Addr) (cdv ct : Value) (us : List Value), us.length = 2 → bindArgs (PySem.W.fnOf "__init__" q (defArgs stm) (defBody stm) (defScope stm) .none kV doc pm an cdv ct) ⟨us, []⟩ = pure ((["self", fld2] : List Str).zip us)) : ExA P w K mg base x fld := by
  unfold excB at c
  simp only [Bool.and_eq_true, decide_eq_true_eq] at c
  obtain ⟨c1, c2, c3, c4, c5, c6⟩ := c
  have m := He.glo_ok X G c1
  exact ⟨m, ⟨_, _, _, oexB_ok c2, c3, c4, exInit F S hb hd hc, F.binds hbind, m, c5⟩, xfB_ok c6, c5⟩
def exmB (x y : Str) (b : Bool) (K : PySem.W.Frag) : Bool := decide (PySem.W.exmOne K (.ref (He.ga K x)) (.ref (He.ga K y)) = some b)
end L3

/-! ### text Lr -/
namespace L3
open PySem PySem.Spec PyProof.Rows L2

theorem huOf {k : Nat} {A : Around} (h : Room k A) : A.units + 64 < cLine := by
  have := h.un
  omega
def freeC (sc nsc : Scope) : Bool := nsc.names.all fun y => !decide (y.2 = .free) || decide (sc.names.lookup y.1 = some .cell) || decide (sc.names.lookup y.1 = some .free)
theorem free_by {sc nsc : Scope} (h : freeC sc nsc = true) : ∀ y ∈ nsc.names, y.2 = .free → sc.names.lookup y.1 = some .cell ∨ sc.names.lookup y.1 = some .free := by
  unfold freeC at h
  simp only [Bool.or_eq_true, Bool.not_eq_true', decide_eq_true_eq, decide_eq_false_iff_not, List.all_eq_true] at h
  intro y hy e
  rcases h y hy with (z | z) | z
  · exact absurd e z
  · exact .inl z
  · exact .inr z
theorem tupA_of {K : PySem.W.Frag} {h : Heap} {mg : Str → Option Value} {x : Str} {vs : List He.Dv} (X : K.In h) (G : h.Ns mainGlobals mg) (c : tupAB x vs K = true) : TupA K mg x vs := by
  unfold tupAB at c
  rw [Bool.and_eq_true] at c
  exact ⟨He.glo_ok X G c.1, He.tupB_ok c.2 _⟩
theorem funA_of {fa : List (PySem.W.Frag → Bool)} {fn : List DefA} {cs : List Nm2} {h : Heap} {K : PySem.W.Frag} {mg : Str → Option Value} (S : Says fa fn cs h K) (G : h.Ns mainGlobals mg) {x : Str} {stm : Stmt} (c : gloB x K = true) (i : Nat)
    (e : fn[i]? = some ⟨fun K => He.ga K x, x, x, defArgs stm, defBody stm, defScope stm⟩) : FunA K mg x stm := by
  obtain ⟨fd, F⟩ := S.def_ i e
  exact ⟨fun_fd F, He.glo_ok S.kin G c⟩
def kitB (a b : String) (v : Bool) (K : PySem.W.Frag) : Bool := decide (PySem.W.kitOne K (.type a) (.type b) = some v)
end L3

/-! ### text Ls -/
namespace L3
open PySem PySem.Spec PyProof.Rows L2

/-! ### zip of three tuples -/
theorem valsB : ∀ {xs : List V} {us : List Value} {i : Nat} {u : Value}, Vals xs us → us[i]? = some u → ∃ x, xs[i]? = some x ∧ RelV x u
  | _, _, _, _, .nil, e => by simp at e
  | _, _, 0, _, .cons r _, e => by simp at e; subst e; exact ⟨_, rfl, r⟩
  | _, _, i + 1, u, .cons _ t, e => by
    obtain ⟨x, h1, h2⟩ := valsB (i := i) t (by simpa using e)
    exact ⟨x, by simpa using h1, h2⟩
def It3T (K : PySem.W.Frag) (a b c : Addr) : It :=
  ⟨fun i H => ∃ xs ys zs, i < min (min xs.length ys.length) zs.length ∧ SqT K H a xs ∧ SqT K H b ys ∧ SqT K H c zs,
    fun i H v H' => ∃ T x y z, v = .ref T ∧ H T = none ∧ H' = upd H T (.tup [x, y, z]) ∧ (∀ xs, SqT K H a xs → xs[i]? = some x) ∧ (∀ xs, SqT K H b xs → xs[i]? = some y) ∧ ∀ xs, SqT K H c xs → xs[i]? = some z,
    fun i H => ∃ xs ys zs, i = min (min xs.length ys.length) zs.length ∧ SqT K H a xs ∧ SqT K H b ys ∧ SqT K H c zs⟩
section
variable {P : Program} {w : World} {K : PySem.W.Frag} {elts : List Expr} {kk : Nat} {tpos : Pos} {a b c : Addr}
theorem turn_zip3 (N : Nat) (ha : a < N) (hb : b < N) (hc : c < N) :
    Turn P w K (.Tuple elts kk tpos) (It3T K a b c) [N + 5, N + 3, N + 4, N, N + 1, N + 2] (N + 5) (fun i h => IsZip h (N + 5) (N + 3) (N + 4) .none ∧ IsTupOf3 h (N + 3) (.ref N) (.ref (N + 1)) (.ref (N + 2)) ∧ (∃ x y z, IsTupOf3 h (N + 4) x y z) ∧ h.IsTupleIter N a i ∧ h.IsTupleIter (N + 1) b i ∧ h.IsTupleIter (N + 2) c i) where
  mem := by simp
  obj := fun i h st d hd => by
    obtain ⟨hz, hTI, ⟨x, y, z, hTO⟩, ⟨o1, e1, _, d1⟩, ⟨o2, e2, _, d2⟩, ⟨o3, e3, _, d3⟩⟩ := st
    simp only [List.mem_cons, List.not_mem_nil, or_false] at hd
    rcases hd with q | q | q | q | q | q
    · rw [q]; exact ⟨_, hz, fun v q => nomatch q⟩
    · rw [q]; exact ⟨_, hTI, fun v q => nomatch q⟩
    · rw [q]; exact ⟨_, hTO, fun v q => nomatch q⟩
    · rw [q]; exact ⟨o1, e1, fun v q => by rw [d1] at q; cases q⟩
    · rw [q]; exact ⟨o2, e2, fun v q => by rw [d2] at q; cases q⟩
    · rw [q]; exact ⟨o3, e3, fun v q => by rw [d3] at q; cases q⟩
  keep := fun i h h' st k => by
    obtain ⟨hz, hTI, ⟨x, y, z, hTO⟩, h1, h2, h3⟩ := st
    exact ⟨k _ (by simp) _ hz, k _ (by simp) _ hTI, ⟨x, y, z, k _ (by simp) _ hTO⟩, h1.at fun o q => k _ (by simp) o q, h2.at fun o q => k _ (by simp) o q, h3.at fun o q => k _ (by simp) o q⟩
  item := by
    intro X hP hw hK hcalm i pins s σ H E I hf st hg
    subst hP hw hK
    obtain ⟨hz, hTI, ⟨x0, y0, z0, hTO⟩, h1, h2, h3⟩ := st
    obtain ⟨xs, ys, zs, hi, sa, sb, sc⟩ := hg
    obtain ⟨ia, ra, pa, _⟩ := I.tuple sa
    obtain ⟨ib, rb, pb, _⟩ := I.tuple sb
    obtain ⟨ic, rc, pc, _⟩ := I.tuple sc
    have la := ra.length
    have lb := rb.length
    have lc := rc.length
    have hh : X.A.in1.handled = none := I.ok.hd hcalm
    have sep := zip_sep3 (N := N) (fp1 := [a]) (fp2 := [b]) (fp3 := [c]) (by simpa using ha) (by simpa using hb) (by simpa using hc)
    have G := PySem.GoesN.zip3 (elts := elts) (x1 := kk) (pos := tpos) sep (Draws.tuple (prog := X.prog) (w := X.w) (A := X.A.in1) hh N a (Nat.ne_of_lt ha) ia.toArray) (Draws.tuple hh (N + 1) b (Nat.ne_of_lt (Nat.lt_succ_of_lt hb)) ib.toArray) (Draws.tuple hh (N + 2) c (Nat.ne_of_lt (Nat.lt_succ_of_lt (Nat.lt_succ_of_lt hc))) ic.toArray)
    refine wpAny_mono (G.goes i s (fun v s2 => ∃ x H', Inv X pins σ H' s2 ∧ RelV x v ∧ (It3T X.K a b c).yld i H x H' ∧ (IsZip s2.heap (N + 5) (N + 3) (N + 4) .none ∧ IsTupOf3 s2.heap (N + 3) (.ref N) (.ref (N + 1)) (.ref (N + 2)) ∧ (∃ x y z, IsTupOf3 s2.heap (N + 4) x y z) ∧ s2.heap.IsTupleIter N a (i + 1) ∧ s2.heap.IsTupleIter (N + 1) b (i + 1) ∧ s2.heap.IsTupleIter (N + 2) c (i + 1)) ∧ ∀ d ∈ [N + 5, N + 3, N + 4, N, N + 1, N + 2], H' d = none) E
      (by simp only [List.size_toArray]; omega) ⟨hz, hTI, ⟨x0, y0, z0, hTO⟩, ⟨h1, isTuple_of pa⟩, ⟨h2, isTuple_of pb⟩, ⟨h3, isTuple_of pc⟩⟩ fun v h' tk hY st' hk _ => ?_) (fun r s1 ⟨v, e, h⟩ => ⟨v, e, h⟩) (fun _ _ e => e)
    obtain ⟨T, u1, u2, u3, rfl, hT, e1, e2, e3, hTup⟩ := hY
    obtain ⟨z', hTI', ⟨x1, y1, zz1, hTO'⟩, ⟨i1', _⟩, ⟨i2', _⟩, ⟨i3', _⟩⟩ := st'
    obtain ⟨v1, q1, r1⟩ := valsB ra (by simpa using e1)
    obtain ⟨v2, q2, r2⟩ := valsB rb (by simpa using e2)
    obtain ⟨v3, q3, r3⟩ := valsB rc (by simpa using e3)
    have hTn : H T = none := I.hok.fresh hT
    have new : ObjOk X.prog X.w (upd H T (.tup [v1, v2, v3])) h' T (.tup [v1, v2, v3]) := by
      obtain ⟨o, ho, hcl, n, hd⟩ := hTup
      exact ⟨by show 3 ≤ sizeLine; decide, [u1, u2, u3], .cons r1 (.cons r2 (.cons r3 .nil)), o, ho, hcl, n, hd⟩
    have I1 : Inv X pins σ (upd H T (.tup [v1, v2, v3])) { s with heap := h', toks := tk } :=
      I.turnedNew (ch := [N + 5, N + 3, N + 4, N, N + 1, N + 2]) (fun d o hb q => hk d o (fun z => hb (by simp only [List.mem_cons, List.not_mem_nil, or_false] at z ⊢; rcases z with z | z | z | z | z <;> simp [z])) q) hf hT new
    refine ⟨.ref T, _, I1, rfl, ⟨T, v1, v2, v3, rfl, hTn, rfl, fun l hl => by rw [I.tuple_inj hl sa]; exact q1, fun l hl => by rw [I.tuple_inj hl sb]; exact q2, fun l hl => by rw [I.tuple_inj hl sc]; exact q3⟩, ⟨z', hTI', ⟨x1, y1, zz1, hTO'⟩, i1', i2', i3'⟩, fun d hd => ?_⟩
    have hlt : d < s.heap.objs.size := by
      simp only [List.mem_cons, List.not_mem_nil, or_false] at hd
      have : d ≤ N + 5 := by omega
      exact Nat.lt_of_le_of_lt this (Heap.lt_size hz)
    rw [upd_ne (Nat.ne_of_lt (Nat.lt_of_lt_of_le hlt hT))]
    exact (hf d hd).1
  done := by
    intro X hP hw hK hcalm i pins s σ H E I hf st hg
    subst hP hw hK
    obtain ⟨hz, hTI, ⟨x0, y0, z0, hTO⟩, h1, h2, h3⟩ := st
    obtain ⟨xs, ys, zs, hi, sa, sb, sc⟩ := hg
    obtain ⟨ia, ra, pa, _⟩ := I.tuple sa
    obtain ⟨ib, rb, pb, _⟩ := I.tuple sb
    obtain ⟨ic, rc, pc, _⟩ := I.tuple sc
    have la := ra.length
    have lb := rb.length
    have lc := rc.length
    have hh : X.A.in1.handled = none := I.ok.hd hcalm
    have sep := zip_sep3 (N := N) (fp1 := [a]) (fp2 := [b]) (fp3 := [c]) (by simpa using ha) (by simpa using hb) (by simpa using hc)
    have G := PySem.GoesN.zip3 (elts := elts) (x1 := kk) (pos := tpos) sep (Draws.tuple (prog := X.prog) (w := X.w) (A := X.A.in1) hh N a (Nat.ne_of_lt ha) ia.toArray) (Draws.tuple hh (N + 1) b (Nat.ne_of_lt (Nat.lt_succ_of_lt hb)) ib.toArray) (Draws.tuple hh (N + 2) c (Nat.ne_of_lt (Nat.lt_succ_of_lt (Nat.lt_succ_of_lt hc))) ic.toArray)
    have hn : i = min (min ia.toArray.size ib.toArray.size) ic.toArray.size := by simp only [List.size_toArray]; omega
    subst hn
    exact wpAny_mono (G.stops s (fun s1 => Inv X pins σ H s1) E ⟨hz, hTI, ⟨x0, y0, z0, hTO⟩, ⟨h1, isTuple_of pa⟩, ⟨h2, isTuple_of pb⟩, ⟨h3, isTuple_of pc⟩⟩ fun h' tk hk _ =>
      I.turnedL (ch := [N + 5, N + 3, N + 4, N, N + 1, N + 2]) (fun d o hb q => hk d o (fun z => hb (by simp only [List.mem_cons, List.not_mem_nil, or_false] at z ⊢; rcases z with z | z | z | z | z <;> simp [z])) q) hf) (fun r s1 h => h) (fun _ _ e => e)
  self := fun A i s Q E st h => wpAny_pyIter_zip st.1 h
theorem walk_zip3 {n : Nat} : Walk (It3T K a b c) n (fun H => ∃ xs ys zs, n = min (min xs.length ys.length) zs.length ∧ SqT K H a xs ∧ SqT K H b ys ∧ SqT K H c zs) (fun i H v H' => ∃ T x y z, v = .ref T ∧ H T = none ∧ H' = upd H T (.tup [x, y, z]) ∧ (∀ xs, SqT K H a xs → xs[i]? = some x) ∧ (∀ xs, SqT K H b xs → xs[i]? = some y) ∧ ∀ xs, SqT K H c xs → xs[i]? = some z) :=
  ⟨fun i H hi ⟨xs, ys, zs, h, r⟩ => ⟨xs, ys, zs, by omega, r⟩, fun H h => h, fun i H x H' _ _ y => y⟩
def z3 (a b c : List D) : List D := (List.zip a (List.zip b c)).map fun p => .tup [p.1, p.2.1, p.2.2]
theorem z3_len (a b c : List D) : (z3 a b c).length = min (min a.length b.length) c.length := by
  simp only [z3, List.length_map, List.length_zip]
  omega
theorem z3_get {a b c : List D} {i : Nat} {d : D} (h : (z3 a b c)[i]? = some d) : ∃ x y z, a[i]? = some x ∧ b[i]? = some y ∧ c[i]? = some z ∧ d = .tup [x, y, z] := by
  unfold z3 at h
  rw [List.getElem?_map] at h
  cases q : (List.zip a (List.zip b c))[i]? with
  | none => rw [q] at h; cases h
  | some p =>
    rw [q] at h
    cases h
    obtain ⟨h1, h2⟩ := List.getElem?_zip_eq_some.mp q
    obtain ⟨h3, h4⟩ := List.getElem?_zip_eq_some.mp h2
    exact ⟨_, _, _, h1, h3, h4, rfl⟩
end
theorem wk_zip3 {K : PySem.W.Frag} {T : Tb} {H : Hp} {ρ : Wo} {a b c : Addr} {da db dc : List D} (ha : R K H ρ (.tup da) (.ref a)) (hb : R K H ρ (.tup db) (.ref b)) (hc : R K H ρ (.tup dc) (.ref c)) : WkR K T H ρ ⟨z3 da db dc, fun st => True⟩ (It3T K a b c) := by
  refine ⟨[.tup da, .tup db, .tup dc], [.ref a, .ref b, .ref c], _, _, ⟨_, _, rfl, ha, _, _, rfl, hb, _, _, rfl, hc, rfl⟩, walk_zip3, fun H1 ρ1 st1 o r0 k => ?_, fun i x H1 ρ1 st1 v H2 o r0 k hi hy => ?_⟩
  all_goals
    obtain ⟨_, _, e0, h, _, _, e00, h', _, _, e000, h'', _⟩ := r0
    cases e000
    cases e00
    cases e0
    obtain ⟨a', xs, e1, s, r⟩ := tupAt h
    cases ref_inj e1
    obtain ⟨b', ys, e2, s2, r2⟩ := tupAt h'
    cases ref_inj e2
    obtain ⟨c', zs, e3, s3, r3⟩ := tupAt h''
    cases ref_inj e3
  · exact ⟨xs, ys, zs, by rw [r.len, r2.len, r3.len]; exact z3_len _ _ _, s, s2, s3⟩
  · obtain ⟨p, y, z, u, rfl, hp, rfl, hy, hz, hu⟩ := hy
    obtain ⟨d1, d2, d3, f1, f2, f3, rfl⟩ := z3_get hi
    obtain ⟨v1, q1, t1⟩ := r.get f1
    obtain ⟨v2, q2, t2⟩ := r2.get f2
    obtain ⟨v3, q3, t3⟩ := r3.get f3
    rw [hy xs s] at q1; cases q1
    rw [hz ys s2] at q2; cases q2
    rw [hu zs s3] at q3; cases q3
    exact ⟨go_new hp, o.alloc hp, p, _, rfl, .inl ⟨.inl upd_same, o.new hp⟩, _, _, rfl, R.go (go_new hp) _ _ t1, _, _, rfl, R.go (go_new hp) _ _ t2, _, _, rfl, R.go (go_new hp) _ _ t3, rfl⟩
def iZip3 (m : AM) : IM := fun δ st => (m δ st).bind fun xs st1 => match xs with
  | [.tup a, .tup b, .tup c] => .ok ⟨z3 a b c, fun _ => True⟩ st1
  | _ => .bad
theorem di_zip3 {X : Cx} {T : Tb} {W : WX} {e e2 e3 : Expr} {mas : AM} {p1 pos tpos : Pos} {elts : List Expr} {kk : Nat} (hg : Gl X "zip") (hm : X.mg "zip" = none) (h : DA X T W [e, e2, e3] mas)
    (hs : starEach (e :: [e2, e3]) X.env = (false, eval e X.env) :: starEach [e2, e3] X.env := by rfl) (hpl : (backTo pos (starEach [e2, e3] X.env)).any (·.1) = false := by rfl) :
    DI X T W (.Tuple elts kk tpos) (.Call (.Name "zip" p1) [e, e2, e3] [] pos) (iZip3 mas) := by
  refine ⟨⟨fun pins s σ H Rr I ⟨ρ, δ, st, ok, rs, h0⟩ => ?_⟩⟩
  refine Call_ (ld_blt I hg hm PyProof.Rows.boot_zip (PyProof.Rows.callWith_type1 (thn (h.pa.run pos pins s σ H (fun vs H1 => ∃ ρ1 a b c da db dc, vs = [.ref a, .ref b, .ref c] ∧ R X.K H1 ρ1 (.tup da) (.ref a) ∧ R X.K H1 ρ1 (.tup db) (.ref b) ∧ R X.K H1 ρ1 (.tup dc) (.ref c) ∧ Rr (It3T X.K a b c) H1) I
    ⟨ρ, δ, st, ok, rs, Post.bind h0 fun xs st1 vs H1 ρ1 g1 ok1 rx h1 => ?_⟩) fun us s1 ⟨vs, H1, I1, r1, ρ1, a, b, c, da, db, dc, ex, ra, rb, rc, q⟩ => ?_) hs hpl))
  · split at h1
    · rename_i da db dc
      obtain ⟨v, u, w, rfl, r1, r2, r3⟩ := RL.three rx
      obtain ⟨a, xs, rfl, _⟩ := id r1
      obtain ⟨b, ys, rfl, _⟩ := id r2
      obtain ⟨c, zs, rfl, _⟩ := id r3
      exact ⟨ρ1, a, b, c, da, db, dc, rfl, r1, r2, r3, h1 _ H1 ρ1 (Go.refl _ _) ok1 (wk_zip3 r1 r2 r3)⟩
    · exact h1.elim
  · subst ex
    cases r1 with
    | cons t1 rr =>
      cases rr with
      | cons t2 rr =>
        cases rr with
        | cons t3 rr =>
          cases rr
          cases t1
          cases t2
          cases t3
          obtain ⟨_, xs, e1, sa, _⟩ := tupAt ra
          cases ref_inj e1
          obtain ⟨_, ys, e1, sb, _⟩ := tupAt rb
          cases ref_inj e1
          obtain ⟨_, zs, e1, sc, _⟩ := tupAt rc
          cases ref_inj e1
          obtain ⟨ia, va, pa, _⟩ := I1.tuple sa
          obtain ⟨ib, vb, pb, _⟩ := I1.tuple sb
          obtain ⟨ic, vc, pc, _⟩ := I1.tuple sc
          have ta := isTuple_of pa
          have tb := isTuple_of pb
          have tc := isTuple_of pc
          have lt : ∀ {x : Addr} {its : Array Value}, s1.heap.IsTuple x its → x < s1.heap.objs.size := fun {x its} ⟨o, ho, _⟩ => Heap.lt_size ho
          refine PySem.zip_begins3 (PySem.begins_tuple a ia.toArray) (PySem.begins_tuple b ib.toArray) (PySem.begins_tuple c ic.toArray) ta tb tc fun h' hz hTI hTO h1 h2 h3 hsz hk => wpAny_pyIter_zip hz ?_
          have I2 : Inv X pins σ H1 { s1 with heap := h' } := I1.kept (t' := s1.toks) hk
          refine ⟨_, [s1.heap.objs.size + 5, s1.heap.objs.size + 3, s1.heap.objs.size + 4, s1.heap.objs.size, s1.heap.objs.size + 1, s1.heap.objs.size + 2], _, _, H1, rfl, I2, turn_zip3 s1.heap.objs.size (lt ta) (lt tb) (lt tc), ⟨hz, hTI, ⟨_, _, _, hTO⟩, ⟨_, h1, rfl, rfl⟩, ⟨_, h2, rfl, rfl⟩, ⟨_, h3, rfl, rfl⟩⟩, fun d hd => ?_, q⟩
          have hle : s1.heap.objs.size ≤ d := by
            simp only [List.mem_cons, List.not_mem_nil, or_false] at hd
            rcases hd with z | z | z | z | z | z <;> rw [z] <;> omega
          exact I1.fpOk hle (I1.hok.fresh hle)
end L3

/-! ### text Lt -/
namespace L3
open PySem PySem.Spec PyProof.Rows L2

/-! ### plain laws: texts -/
theorem map_inj {α β : Type} {f : α → β} (hf : ∀ a b, f a = f b → a = b) : ∀ {l m : List α}, l.map f = m.map f → l = m
  | [], [], _ => rfl
  | [], _ :: _, h => by simp at h
  | _ :: _, [], h => by simp at h
  | a :: l, b :: m, h => by
    simp only [List.map_cons, List.cons.injEq] at h
    rw [hf a b h.1, map_inj hf h.2]
theorem lit_eq (a b : String) : (Str.ofString a = Str.ofString b) = (a = b) := by
  apply propext
  constructor
  · intro h
    rw [Str.ofString_eq_toList, Str.ofString_eq_toList] at h
    have h1 : (a.toList.map Char.toNat).toArray = (b.toList.map Char.toNat).toArray := congrArg Str.cps h
    have h2 : a.toList.map Char.toNat = b.toList.map Char.toNat := by simpa using congrArg Array.toList h1
    have h3 := map_inj (fun x y e => Char.toNat_inj.mp e) h2
    exact String.toList_inj.mp h3
  · intro h; rw [h]
/-! ### repr tells data -/
mutual
/-- a bound of a shown text -/
def pw : PyData → Nat
  | .none => 4
  | .bool _ => 5
  | .int _ => 101
  | .str x => 10 * x.length + 2
  | .list xs => pwL xs + 3
  | .tuple xs => pwL xs + 3
  | .dict _ => 0
def pwL : List PyData → Nat
  | [] => 0
  | x :: xs => pw x + 2 + pwL xs
end
mutual
/-- ints below 10 ^ 100, texts of whole letters, no dicts -/
def pok : PyData → Bool
  | .none => true
  | .bool _ => true
  | .int i => decide (i.natAbs < 10 ^ 100)
  | .str x => x.cps.toList.all fun c => decide (c < 16 ^ 8)
  | .list xs => pokL xs
  | .tuple xs => pokL xs
  | .dict _ => false
def pokL : List PyData → Bool
  | [] => true
  | x :: xs => pok x && pokL xs
end
theorem strApp (a b : Str) : (a ++ b).length = a.length + b.length := strLen_append a b
mutual
theorem pw_le : ∀ d : PyData, pok d = true → d.shown.length ≤ pw d
  | .none, _ => by show (PyData.shown .none).length ≤ 4; decide
  | .bool b, _ => by cases b <;> (show (PyData.shown (.bool _)).length ≤ 5; decide)
  | .int i, h => by
    have h1 : i.natAbs < 10 ^ 100 := of_decide_eq_true h
    have e := int_text_length_le10 (a := i) (k := 100) (by decide) h1
    show (Str.ofString (toString i)).length ≤ 101
    rw [PySem.ofString_length]
    exact e
  | .str x, h => by
    have hx : ∀ c ∈ x.cps.toList, c < 16 ^ 8 := fun c hc => of_decide_eq_true (List.all_eq_true.mp (show (x.cps.toList.all fun c => decide (c < 16 ^ 8)) = true from h) c hc)
    exact StrLaws.reprText_len x hx
  | .list xs, h => by
    have e1 := listText_len_le (PyData.shownAll xs)
    have e2 := pwL_le xs h
    simp only [PyData.shown, pw]
    omega
  | .tuple xs, h => by
    have e1 := tupleText_len_le (PyData.shownAll xs)
    have e2 := pwL_le xs h
    simp only [PyData.shown, pw]
    omega
  | .dict _, h => by cases h
theorem pwL_le : ∀ ds : List PyData, pokL ds = true → ((PyData.shownAll ds).map (·.length)).sum + 2 * (PyData.shownAll ds).length ≤ pwL ds
  | [], _ => by simp [PyData.shownAll, pwL]
  | d :: ds, h => by
    simp only [pokL, Bool.and_eq_true] at h
    have e1 := pw_le d h.1
    have e2 := pwL_le ds h.2
    simp only [PyData.shownAll, List.map_cons, List.sum_cons, List.length_cons, pwL]
    omega
end
mutual
theorem pok_ok : ∀ d : PyData, pok d = true → d.showable = true ∧ d.hasDict = false
  | .none, _ => ⟨rfl, rfl⟩
  | .bool b, _ => ⟨rfl, rfl⟩
  | .int i, h => by
    refine ⟨?_, rfl⟩
    have h1 : i.natAbs < 10 ^ 100 := of_decide_eq_true h
    show decide (i.natAbs.log2 < 1920) = true
    apply decide_eq_true
    by_cases h0 : i.natAbs = 0
    · rw [h0]; decide
    · rw [Nat.log2_lt h0]
      exact Nat.lt_of_lt_of_le h1 (by decide +kernel)
  | .str x, _ => ⟨rfl, rfl⟩
  | .list xs, h => pokL_ok xs h
  | .tuple xs, h => pokL_ok xs h
  | .dict _, h => by cases h
theorem pokL_ok : ∀ ds : List PyData, pokL ds = true → PyData.showableAll ds = true ∧ PyData.hasDictAll ds = false
  | [], _ => ⟨rfl, rfl⟩
  | d :: ds, h => by
    simp only [pokL, Bool.and_eq_true] at h
    obtain ⟨a1, a2⟩ := pok_ok d h.1
    obtain ⟨b1, b2⟩ := pokL_ok ds h.2
    exact ⟨by simp [PyData.showableAll, a1, b1], by simp [PyData.hasDictAll, a2, b2]⟩
end
theorem reprOk_of {p : PyData} (h : pok p = true) (hw : pw p ≤ 1000000) (hd : p.depth ≤ 40) : reprOk p = true := by
  obtain ⟨h1, h2⟩ := pok_ok p h
  have h3 := pw_le p h
  unfold reprOk
  rw [h1, h2, decide_eq_true hd, decide_eq_true (Nat.le_trans h3 hw)]
  rfl
theorem lit_lt (s : String) : ∀ c ∈ (Str.ofString s).cps.toList, c < 0x110000 := by
  intro c hc
  rw [Str.ofString_eq_toList] at hc
  simp only [List.mem_map] at hc
  obtain ⟨ch, _, rfl⟩ := hc
  have := ch.valid
  have e : ch.toNat = ch.val.toNat := rfl
  rw [e]
  rcases this with h | h
  · exact Nat.lt_trans h (by decide)
  · exact h.2
@[simp] theorem pok_lit (s : String) : pok (.str (Str.ofString s)) = true := by
  show ((Str.ofString s).cps.toList.all fun c => decide (c < 16 ^ 8)) = true
  rw [List.all_eq_true]
  exact fun c hc => decide_eq_true (Nat.lt_of_lt_of_le (lit_lt s c hc) (by decide))
@[simp] theorem shaped_lit (s : String) : SeqAt.shaped (.str (Str.ofString s)) = true := by
  unfold SeqAt.shaped
  have h1 : PyData.canLay0 (.str (Str.ofString s)) = true := by
    show PyData.strOk (Str.ofString s) = true
    unfold PyData.strOk
    rw [Array.all_eq_true]
    intro i hi
    exact decide_eq_true (lit_lt s _ (by simp))
  rw [h1]
  rfl
@[simp] theorem shaped_int (i : Int) : SeqAt.shaped (.int i) = true := rfl
@[simp] theorem shaped_bool (i : Bool) : SeqAt.shaped (.bool i) = true := rfl
@[simp] theorem shaped_none : SeqAt.shaped .none = true := rfl
/-! ### == on data -/
theorem dEq_str (a b : Str) (st : Store) : dEq (.str a) (.str b) st = .ok (.bl (decide (a = b))) st := rfl
theorem dEq_lit (a b : String) (st : Store) : dEq (.str (Str.ofString a)) (.str (Str.ofString b)) st = .ok (.bl (decide (a = b))) st := by
  rw [dEq_str]
  congr 2
  rw [Bool.eq_iff_iff, decide_eq_true_iff, lit_eq, decide_eq_true_iff]
theorem dEq_int (a b : Int) (st : Store) : dEq (.int a) (.int b) st = .ok (.bl (decide (a = b))) st := by
  simp only [dEq, toPd, toP, shaped_int, and_self, if_true]
  congr 2
theorem dNe_int (a b : Int) (st : Store) : dNe (.int a) (.int b) st = .ok (.bl (!decide (a = b))) st := by
  simp only [dNe, toPd, toP, shaped_int, and_self, if_true]
  congr 2
/-! ### loops -/
/-- a for that goes through -/
theorem loop_ok {keep : Store → Prop} {t : Nm} {m : SM} {n0 : Nat} (Iv : Nat → Sl → Store → Prop) : ∀ (ds : List D) (i : Nat) (δ : Sl) (st : Store), Iv i δ st → (∀ j δ st, Iv j δ st → keep st) →
    (∀ (j : Nat) (d : D) (δ : Sl) (st : Store), ds[j]? = some d → Iv (i + j) δ st → ∃ δ1 δ2 st2 δ3 st3, t.put d δ = some δ1 ∧ (m δ1 st = .nx δ2 st2 ∨ m δ1 st = .ct δ2 st2) ∧ tidy n0 δ2 st2 = some (δ3, st3) ∧ Iv (i + j + 1) δ3 st3) →
    ∃ δ' st', loop keep t m n0 ds δ st = .nx δ' st' ∧ Iv (i + ds.length) δ' st'
  | [], i, δ, st, h, hk, _ => ⟨δ, st, by rw [loop, if_pos (hk _ _ _ h)], h⟩
  | d :: ds, i, δ, st, h, hk, hs => by
    obtain ⟨δ1, δ2, st2, δ3, st3, e1, e2, e3, h3⟩ := hs 0 d δ st rfl h
    obtain ⟨δ', st', e4, h4⟩ := loop_ok (keep := keep) (t := t) (m := m) (n0 := n0) Iv ds (i + 1) δ3 st3 (by simpa using h3) hk (fun j d' δ st hd hi => by
      have := hs (j + 1) d' δ st (by simpa using hd) (by rw [show i + (j + 1) = i + 1 + j by omega]; exact hi)
      rw [show i + (j + 1) + 1 = i + 1 + j + 1 by omega] at this
      exact this)
    refine ⟨δ', st', ?_, by rw [List.length_cons, show i + (ds.length + 1) = i + 1 + ds.length by omega]; exact h4⟩
    rw [loop, if_pos (hk _ _ _ h), e1]
    rcases e2 with e2 | e2 <;> simp only [e2, e3] <;> exact e4
/-- a comprehension whose items leave the store alone -/
theorem lcL_map {keep : Store → Prop} {t : Nm} {m : EM} {δ : Sl} {st : Store} (f : D → D) (hk : keep st) : ∀ (ds acc : List D), acc.length + ds.length ≤ 1000000 →
    (∀ d ∈ ds, ∃ δ1, t.put d δ = some δ1 ∧ m δ1 st = .ok (f d) st) → lcL keep t tYesM m δ ds acc st = .ok (acc ++ ds.map f) st
  | [], acc, _, _ => by rw [lcL, if_pos hk]; simp
  | d :: ds, acc, hl, h => by
    obtain ⟨δ1, e1, e2⟩ := h d List.mem_cons_self
    simp only [List.length_cons] at hl
    rw [lcL, if_pos ⟨hk, by omega⟩, e1]
    simp only [tYesM, e2, noErr, Res.bind_ok]
    rw [lcL_map f hk ds (acc ++ [f d]) (by simp; omega) (fun d hd => h d (List.mem_cons_of_mem _ hd))]
    simp
/-- .. whose items change it -/
theorem lcL_go {keep : Store → Prop} {t : Nm} {m : EM} {δ : Sl} (Iv : Store → Prop) (G : D → Prop) (hk : ∀ st, Iv st → keep st) : ∀ (ds acc : List D) (st : Store), acc.length + ds.length ≤ 1000000 → Iv st →
    (∀ d ∈ ds, ∀ st, Iv st → ∃ δ1 x st', t.put d δ = some δ1 ∧ m δ1 st = .ok x st' ∧ G x ∧ Iv st') → ∃ xs st', lcL keep t tYesM m δ ds acc st = .ok (acc ++ xs) st' ∧ xs.length = ds.length ∧ (∀ x ∈ xs, G x) ∧ Iv st'
  | [], acc, st, _, h0, _ => ⟨[], st, by rw [lcL, if_pos (hk _ h0)]; simp, rfl, by simp, h0⟩
  | d :: ds, acc, st, hl, h0, h => by
    obtain ⟨δ1, x, st1, e1, e2, g, h1⟩ := h d List.mem_cons_self st h0
    simp only [List.length_cons] at hl
    obtain ⟨xs, st2, e3, l3, g3, h3⟩ := lcL_go (keep := keep) (t := t) (m := m) (δ := δ) Iv G hk ds (acc ++ [x]) st1 (by simp; omega) h1 (fun d hd => h d (List.mem_cons_of_mem _ hd))
    refine ⟨x :: xs, st2, ?_, by simp [l3], fun y hy => ?_, h3⟩
    · rw [lcL, if_pos ⟨hk _ h0, by omega⟩, e1]
      simp only [tYesM, noErr, Res.bind_ok, if_true, e2, e3]
      simp
    · rcases List.mem_cons.mp hy with rfl | hy
      · exact g
      · exact g3 y hy
end L3

/-! ### text Lu -/
namespace L3
open PySem PySem.Spec PyProof.Rows L2

/-! ### instances: fields -/
/-- the class and the fields of an instance -/
def objOf : D → Store → Option (Addr × List Str × List D)
  | .obj C ns ds, _ => some (C, ns, ds)
  | .loc n, st => match st[n]? with
    | some (.obj C ns ds) => some (C, ns, ds)
    | _ => none
  | _, _ => none
theorem objAt {K : PySem.W.Frag} {T : Tb} {H : Hp} {ρ : Wo} {st : Store} (ok : Ok K T H ρ st) {d : D} {v : V} {C : Addr} {ns : List Str} {ds : List D} (h : R K H ρ d v) (e : objOf d st = some (C, ns, ds)) : ∃ a dx xs, v = .ref a ∧ H a = some (.ins C dx (ns.zip xs)) ∧ ns.length = xs.length ∧ RL K H ρ ds xs := by
  cases d with
  | obj C' ns' ds' =>
    cases e
    obtain ⟨a, dx, xs, e, h, _, l, r⟩ := h
    exact ⟨a, dx, xs, e, h, l, r⟩
  | loc n =>
    simp only [objOf] at e
    split at e
    · rename_i C' ns' ds' q
      cases e
      obtain ⟨a, rfl, _, dx, xs, h, l, r⟩ := locAt ok h q
      exact ⟨a, dx, xs, rfl, h, l, r⟩
    · cases e
  | _ => cases e
theorem zip_lookup {K : PySem.W.Frag} {H : Hp} {ρ : Wo} {f : Str} {d : D} : ∀ (ns : List Str) (ds : List D) (xs : List V), RL K H ρ ds xs → (ns.zip ds).lookup f = some d → ∃ v, (ns.zip xs).lookup f = some v ∧ R K H ρ d v
  | [], _, _, _, e => by cases e
  | n :: ns, [], _, _, e => by cases e
  | n :: ns, x :: ds, _, ⟨v, r, e1, h1, h2⟩, e => by
    subst e1
    rw [List.zip_cons_cons, List.lookup_cons] at e
    rw [List.zip_cons_cons, List.lookup_cons]
    cases q : f == n with
    | true => rw [q] at e; cases e; exact ⟨v, rfl, h1⟩
    | false => rw [q] at e; exact zip_lookup ns ds r h2 e
/-- e.f, f a field -/
def eFld (C : Addr) (f : Str) (m : EM) : EM := fun δ st => (m δ st).bind fun x st1 => match objOf x st1 with
  | some (C', ns, ds) => if C' = C then match (ns.zip ds).lookup f with
    | some d => .ok d st1
    | none => .bad
    else .bad
  | none => .bad
section
variable {X : Cx} {T : Tb} {W : WX} {e o : Expr} {es : List Expr} {kws : List Keyword} {me mo : EM} {mas mks : AM} {pos pos' p1 p2 : Pos} {C : Addr} {f : Str}
theorem de_fld (c : Cls X.K C) (n : NoAttr X.K C f) (he : DE X T W e me) (hb : attributeBase e f X.env (eval e X.env) = eval e X.env := by rfl) : DE X T W (.Attribute e f pos) (eFld C f me) :=
  ⟨PE.imp (pe_fld he.pe hb) fun σ H Q ⟨ρ, δ, st, ok, rs, h⟩ => ⟨ρ, δ, st, ok, rs, Post.bind h fun x st1 v H1 ρ1 g1 ok1 rx h1 => by
    split at h1
    · rename_i C' ns ds eo
      split at h1
      · rename_i hC
        subst hC
        split at h1
        · rename_i d ed
          obtain ⟨a, dx, xs, rfl, ha, l, r⟩ := objAt ok1 rx eo
          obtain ⟨w, hw, rw'⟩ := zip_lookup ns ds xs r ed
          exact ⟨a, _, dx, _, w, rfl, ha, c, n, hw, h1.ok ok1 rw'⟩
        · exact h1.elim
      · exact h1.elim
    · exact h1.elim⟩⟩
/-! ### a field is set -/
def putN (f : Str) (d : D) : List Str → List D → List Str × List D
  | n :: ns, x :: ds => if n = f then (n :: ns, d :: ds) else (n :: (putN f d ns ds).1, x :: (putN f d ns ds).2)
  | ns, _ => ([f], [d])
theorem putN_len (f : Str) (d : D) : ∀ (ns : List Str) (ds : List D), (putN f d ns ds).1.length = (putN f d ns ds).2.length ∨ ns.length ≠ ds.length
  | [], [] => .inl rfl
  | [], _ :: _ => .inr (by simp)
  | _ :: _, [] => .inr (by simp)
  | n :: ns, x :: ds => by
    unfold putN
    split
    · by_cases h : ns.length = ds.length
      · exact .inl (by simp [h])
      · exact .inr (by simpa using h)
    · rcases putN_len f d ns ds with h | h
      · exact .inl (by simp [h])
      · exact .inr (by simpa using h)
theorem putN_ok {K : PySem.W.Frag} {H : Hp} {ρ : Wo} {f : Str} {d : D} {v : V} (rd : R K H ρ d v) : ∀ (ns : List Str) (ds : List D) (xs : List V), ns.length = xs.length → RL K H ρ ds xs →
    ∃ ys, putF f v (ns.zip xs) = (putN f d ns ds).1.zip ys ∧ (putN f d ns ds).1.length = ys.length ∧ RL K H ρ (putN f d ns ds).2 ys
  | [], [], _, hl, r => by cases r; exact ⟨[v], rfl, rfl, v, [], rfl, rd, rfl⟩
  | [], x :: ds, _, hl, ⟨w, r, e1, h1, h2⟩ => by subst e1; simp at hl
  | n :: ns, [], _, hl, r => by cases r; simp at hl
  | n :: ns, x :: ds, _, hl, ⟨w, r, e1, h1, h2⟩ => by
    subst e1
    unfold putN
    rw [List.zip_cons_cons]
    unfold putF
    split
    · exact ⟨v :: r, rfl, by simpa using hl, v, r, rfl, rd, h2⟩
    · obtain ⟨ys, q1, q2, q3⟩ := putN_ok rd ns ds r (by simpa using hl) h2
      exact ⟨w :: ys, by rw [q1]; rfl, by simp [q2], w, ys, rfl, h1, q3⟩
/-- o.f = e -/
def sFldS (C : Addr) (f : Str) (mo me : EM) : SM := fun δ st => sBind (me δ st) δ fun y st1 => sBind (mo δ st1) δ fun x st2 => match x with
  | .loc n => match st2[n]? with
    | some (.obj C' ns ds) => if C' = C ∧ ns.length < 1000 then .nx δ (st2.set n (.obj C' (putN f y ns ds).1 (putN f y ns ds).2)) else .bad
    | _ => .bad
  | _ => .bad
theorem ds_fldS (c : Cls X.K C) (n : NoAttr X.K C f) (ho : DE X T W o mo) (he : DE X T W e me) (hs : swapsWith e (some (.Attribute o f pos')) pos.line X.env = pure false := by rfl) : DS X T W (.Assign [.Attribute o f pos'] e pos) (sFldS C f mo me) := by
  refine ⟨PS.imp (ps_fld ho.pe he.pe hs) fun Dn σ H ⟨ρ, δ, st, ok, rs, h⟩ => ⟨ρ, δ, st, ok, rs, PostS.bind h rs fun y st1 yv H1 ρ1 g1 ok1 ry h1 => ⟨ρ1, δ, st1, ok1, rs.go g1, PostS.bind h1 (rs.go g1) fun x st2 xv H2 ρ2 g2 ok2 rx h2 => ?_⟩⟩⟩
  replace ry := R.go g2 _ _ ry
  split at h2
  · rename_i m
    split at h2
    · rename_i C' ns ds q
      split at h2
      · rename_i hC
        obtain ⟨rfl, hl⟩ := hC
        obtain ⟨a, rfl, ha, dx, xs, hx, l, r⟩ := locAt ok2 rx q
        have g := go_put (H := H2) (o := .ins C' dx (putF f yv (ns.zip xs))) ha ⟨_, hx⟩
        obtain ⟨ys, q1, q2, q3⟩ := putN_ok (f := f) (R.go g _ _ ry) ns ds xs l (RL.go g _ _ r)
        refine ⟨a, C', dx, _, rfl, hx, c, n, by rw [List.length_zip, ← l]; omega, ?_⟩
        exact h2 _ _ ρ2 g (ok2.put ha q ⟨dx, ys, by rw [upd_same, q1], q2, q3⟩) (((rs.go g1).go g2).go g)
      · exact h2.elim
    · exact h2.elim
  · exact h2.elim
end
end L3

/-! ### text Lv -/
namespace L3
open PySem PySem.Spec PyProof.Rows L2

/-! ### an instance is made -/
/-- C(..): __init__ runs at the new thing; it is frozen behind it -/
def mkO (C : Addr) (go : D → Store → Res D) (st : Store) : Res D := match go (.loc st.length) (st ++ [.obj C [] []]) with
  | .ok .non st' => leave st.length (.loc st.length) st'
  | .err Ce p st' => leaveE st.length Ce p st'
  | _ => .bad
section
variable {X : Cx} {T : Tb} {W : WX} {e o : Expr} {es : List Expr} {kws : List Keyword} {me mo : EM} {mas mks : AM} {pos p1 p2 : Pos} {C f : Addr} {k : Nat} {fd : FuncData} {ps ks : List Str} {nu : Nat} {is : List Nat} {mf : List D → Store → Res D} {x : Str}
theorem run_mkD {pins : List (Addr × Obj)} {σ : L2.St} {H : Hp} {s : Shared} {Q : VK} {us ws : List Value} {vs zs : List V} {ds es : List D} {ρ : Wo} {st : Store} (M : Mk X.K C f) (F : FnD X.prog X.w X.K X.mg X.base T.tabs k f fd ps mf) (hr : Room (k + 1) X.A) (hgd : X.A.guards = some []) (tk : Takes X W)
    (hb : BindD X.K fd ps ks (nu + 1) is) (I : Inv X pins σ H s) (r : Vals vs us) (rz : Vals zs ws) (l1 : vs.length = nu) (l2 : zs.length = ks.length) (ok : Ok X.K T H ρ st) (rd : RL X.K H ρ ds vs) (re : RL X.K H ρ es zs)
    (h : Post X.K T W (R X.K) σ H ρ (mkO C (fun d st' => mf (perm is (d :: ds ++ es)) st') st) Q) :
    wpAny (model X.prog X.w) X.A (call (.ref C) us (ks.zip ws)) (EP X pins σ Q) X.xe s := by
  have f1 : H (s.heap.objs.size + 1) = none := I.hok.fresh (Nat.le_succ _)
  have f2 : H s.heap.objs.size = none := I.hok.fresh (Nat.le_refl _)
  have I2 := Inv.made (C := C) I
  have r1 : Vals (V.ref (s.heap.objs.size + 1) :: vs) (Value.ref (s.heap.objs.size + 1) :: us) := .cons rfl r
  have okA := ok.alloc (o := .own (s.heap.objs.size + 1)) f2
  have gA := go_new (ρ := ρ) (o := .own (s.heap.objs.size + 1)) f2
  have f1' : upd H s.heap.objs.size (.own (s.heap.objs.size + 1)) (s.heap.objs.size + 1) = none := by rw [upd_ne (Nat.succ_ne_self _)]; exact f1
  have gB := go_more (o := .ins C s.heap.objs.size []) okA f1'
  have okB := okA.more (o := .ins C s.heap.objs.size []) (c := .obj C [] []) f1' ⟨s.heap.objs.size, [], upd_same, rfl, rfl⟩
  have g := gA.trans gB
  have rL : R X.K (upd (upd H s.heap.objs.size (.own (s.heap.objs.size + 1))) (s.heap.objs.size + 1) (.ins C s.heap.objs.size [])) (ρ.more (s.heap.objs.size + 1)) (.loc st.length) (.ref (s.heap.objs.size + 1)) :=
    ⟨_, rfl, by show (ρ.m ++ [_])[st.length]? = _; rw [← ok.len]; simp⟩
  have e1 : (Value.ref (s.heap.objs.size + 1) :: us).length = nu + 1 := r1.length.symm.trans (congrArg Nat.succ l1)
  have e2 : ws.length = ks.length := rz.length.symm.trans l2
  have rA : RL X.K (upd (upd H s.heap.objs.size (.own (s.heap.objs.size + 1))) (s.heap.objs.size + 1) (.ins C s.heap.objs.size [])) (ρ.more (s.heap.objs.size + 1)) (.loc st.length :: ds ++ es) (V.ref (s.heap.objs.size + 1) :: vs ++ zs) :=
    ⟨_, _, rfl, rL, (RL.go g _ _ rd).append (RL.go g _ _ re)⟩
  refine wpAny_call (make_map (f := f) I.kIn M.makes M.init (beq_iff_eq.mp M.fn) (codeAny_mono (F.run T _ X.stack _ _ ⟨Value.ref (s.heap.objs.size + 1) :: us, ks.zip ws⟩ (perm is (Value.ref (s.heap.objs.size + 1) :: us ++ ws)) (perm is (V.ref (s.heap.objs.size + 1) :: vs ++ zs)) (perm is (.loc st.length :: ds ++ es)) (ρ.more (s.heap.objs.size + 1)) (st ++ [.obj C [] []])
    (fun v H2 => v = .non ∧ Q (.ref (s.heap.objs.size + 1)) H2) (WE W σ) rfl (hr.make C us (ks.zip ws)) hgd (I2.env0.make C us (ks.zip ws)) (hb.to _ (Value.ref (s.heap.objs.size + 1) :: us) ws I2.kIn e1 e2) (perm_vals (r1.append rz) is) okB (perm_RL rA is) ?_) fun r s' hq' => ?_))
  · unfold mkO at h
    dsimp only at h
    cases q : mf (perm is (.loc st.length :: ds ++ es)) (st ++ [.obj C [] []]) with
    | ok d st' =>
      rw [q] at h
      cases d with
      | non =>
        intro v H' ρ' g' o rv
        obtain rfl : v = .non := rv
        refine ⟨rfl, ?_⟩
        rw [← ok.len] at h
        exact leaves_leave _ _ W σ _ _ _ _ _ _ st' Q ok.al (g.trans g') o (R.go g' _ _ (by rw [ok.len]; exact rL)) h
      | _ => exact h.elim
    | err Ce p st' =>
      rw [q] at h
      rw [← ok.len] at h
      intro d H' ρ' g' o pr
      exact leaveE_ok (σ := σ) ok.al (g.trans g') o pr h
    | bad => rw [q] at h; exact h.elim
  · cases r with
    | error e => exact passAt tk σ pins _ _ e s' I2 hq'
    | ok fl =>
      cases fl with
      | ret u =>
        obtain ⟨v, H', I3, rv, ev, q3⟩ := I2.after hq'
        subst ev
        exact ⟨rv, ⟨V.ref (s.heap.objs.size + 1), H', I3, rfl, q3⟩⟩
      | next => exact False.elim hq'
      | brk => exact False.elim hq'
      | cont => exact False.elim hq'
def eMake (C : Addr) (mf : List D → Store → Res D) (nu nk : Nat) (is : List Nat) (m n : AM) : EM := fun δ st => (m δ st).bind fun xs st1 => (n δ st1).bind fun ys st2 => if xs.length = nu ∧ ys.length = nk then mkO C (fun d st' => mf (perm is (d :: xs ++ ys)) st') st2 else .bad
/-- C(e, ..) -/
theorem de_make (M : Mk X.K C f) (F : FnD X.prog X.w X.K X.mg X.base T.tabs k f fd ps mf) (hr : Room (k + 1) X.A) (hgd : X.A.guards = some []) (tk : Takes X W) (hg : Gl X x) (hm : X.mg x = some (.ref C)) (hb : BindD X.K fd ps [] (nu + 1) is)
    (ha : DA X T W (e :: es) mas) (hdb : (x == ("__debug__" : Str)) = false := by decide) (he : starEach (e :: es) X.env = (false, eval e X.env) :: starEach es X.env := by rfl) (hpl : (backTo pos (starEach es X.env)).any (·.1) = false := by rfl) :
    DE X T W (.Call (.Name x p1) (e :: es) [] pos) (eMake C mf nu 0 is mas aNil) := by
  refine ⟨⟨fun pins s σ H Q I ⟨ρ, δ, st, ok, rs, h⟩ => ?_⟩⟩
  refine wpAny_Call_Name_kw (ld_glob I hg hm ?_ hdb)
  refine PySem.W.callWith_K (h₀ := X.base) I.ok.mod.kin M.kp (thn (ha.pa.run pos pins s σ H (fun vs H1 => ∃ ρ1 ds st1, Ok X.K T H1 ρ1 st1 ∧ RL X.K H1 ρ1 ds vs ∧ ds.length = nu ∧ Post X.K T W (R X.K) σ H1 ρ1 (mkO C (fun d st' => mf (perm is (d :: ds ++ [])) st') st1) Q) I
    ⟨ρ, δ, st, ok, rs, Post.bind (f := fun xs st1 => if xs.length = nu ∧ ([] : List D).length = 0 then mkO C (fun d st' => mf (perm is (d :: xs ++ [])) st') st1 else .bad) h fun xs st1 vs H1 ρ1 g1 ok1 rx h1 => ?_⟩) fun us s1 ⟨vs, H1, I1, r, ρ1, ds, st1, ok1, rd, hl, h1⟩ => ⟨I1.kIn, ?_⟩) he hpl
  · split at h1
    · rename_i hl
      exact ⟨ρ1, xs, st1, ok1, rx, hl.1, h1⟩
    · exact h1.elim
  · exact run_mkD (ws := []) (zs := []) (es := []) M F hr hgd tk hb I1 r .nil (by have := rd.len; omega) rfl ok1 rd rfl h1
/-- C(k = v, ..) -/
theorem de_makeK0 (M : Mk X.K C f) (F : FnD X.prog X.w X.K X.mg X.base T.tabs k f fd ps mf) (hr : Room (k + 1) X.A) (hgd : X.A.guards = some []) (tk : Takes X W) (hg : Gl X x) (hm : X.mg x = some (.ref C)) (hb : BindD X.K fd ps ks (0 + 1) is)
    (hkw : DK X T W kws mks) (hall : (backToKw pos (keywordEach kws X.env)).all (·.1.isSome) = true := by rfl) (hks : (backToKw pos (keywordEach kws X.env)).filterMap (·.1) = ks := by rfl)
    (hdb : (x == ("__debug__" : Str)) = false := by decide)
    (hpl : ((backTo pos (starEach [] X.env)).any (·.1) || (backToKw pos (keywordEach kws X.env)).any (·.1.isNone)) = false := by rfl) :
    DE X T W (.Call (.Name x p1) [] kws pos) (eMake C mf 0 ks.length is aNil mks) := by
  refine ⟨⟨fun pins s σ H Q I ⟨ρ, δ, st, ok, rs, h⟩ => ?_⟩⟩
  refine wpAny_Call_Name_kw (ld_glob I hg hm ?_ hdb)
  refine PySem.W.callWith_KW0 (h₀ := X.base) I.ok.mod.kin M.kp hall ?_ hpl
  refine thn (hkw.pk.run pos pins s σ H (fun zs H2 => ∃ ρ2 es st2, Ok X.K T H2 ρ2 st2 ∧ RL X.K H2 ρ2 es zs ∧ es.length = ks.length ∧ Post X.K T W (R X.K) σ H2 ρ2 (mkO C (fun d st' => mf (perm is (d :: [] ++ es)) st') st2) Q) I
    ⟨ρ, δ, st, ok, rs, Post.bind (f := fun ys st2 => if ([] : List D).length = 0 ∧ ys.length = ks.length then mkO C (fun d st' => mf (perm is (d :: [] ++ ys)) st') st2 else .bad) h fun ys st2 zs H2 ρ2 g2 ok2 ry h2 => ?_⟩) fun ws s2 ⟨zs, H2, I2, rz, ρ2, es, st2, ok2, re2, l2, h2⟩ => ⟨I2.kIn, ?_⟩
  · split at h2
    · rename_i hl
      exact ⟨ρ2, ys, st2, ok2, ry, hl.2, h2⟩
    · exact h2.elim
  · rw [hks]
    exact run_mkD (us := []) (vs := []) (ds := []) M F hr hgd tk hb I2 .nil rz rfl (by have := re2.len; omega) ok2 rfl re2 h2
end
end L3

/-! ### text Lw -/
namespace L3
open PySem PySem.Spec PyProof.Rows L2

/-! ### a property is read -/
/-- a getter raises nothing -/
def okOnly {α : Type} (r : Res α) : Res α := match r with
  | .ok d st => .ok d st
  | _ => .bad
def eProp (C : Addr) (mf : List D → Store → Res D) (m : EM) : EM := fun δ st => (m δ st).bind fun x st1 => match objOf x st1 with
  | some (C', _, _) => if C' = C then okOnly (mf [x] st1) else .bad
  | none => .bad
section
variable {X : Cx} {T : Tb} {W : WX} {e : Expr} {me : EM} {pos : Pos} {C p g : Addr} {f : Str} {k : Nat} {fd : FuncData} {mf : List D → Store → Res D}
theorem de_prop (c : Cls X.K C) (hp : PropOf X.K C f p g) (F : FnD X.prog X.w X.K X.mg X.base T.tabs k g fd ["self"] mf) (hr : Room (k + 1) X.A) (hgd : X.A.guards = some []) (hb : Binds X.K fd ["self"] []) (he : DE X T W e me)
    (hab : attributeBase e f X.env (eval e X.env) = eval e X.env := by rfl) : DE X T W (.Attribute e f pos) (eProp C mf me) := by
  refine ⟨⟨fun pins s σ H Q I ⟨ρ, δ, st, ok, rs, h⟩ => ?_⟩⟩
  refine attr_of hab (thn (he.pe.run pins s σ H (fun v H1 => ∃ a dx fs ρ1 d st1, v = .ref a ∧ H1 a = some (.ins C dx fs) ∧ Ok X.K T H1 ρ1 st1 ∧ R X.K H1 ρ1 d (.ref a) ∧ Post X.K T W (R X.K) σ H1 ρ1 (okOnly (mf [d] st1)) Q) I
    ⟨ρ, δ, st, ok, rs, Post.bind h fun x st1 v H1 ρ1 g1 ok1 rx h1 => ?_⟩) fun u s1 ⟨v, H1, I1, rx, a, dx, fs, ρ1, d, st1, ev, ea, ok1, rd, h1⟩ => ?_)
  · split at h1
    · rename_i C' ns ds eo
      split at h1
      · rename_i hC
        subst hC
        obtain ⟨a, dx, xs, rfl, ha, l, r⟩ := objAt ok1 rx eo
        exact ⟨a, dx, _, ρ1, x, st1, rfl, ha, ok1, rx, h1⟩
      · exact h1.elim
    · exact h1.elim
  · subst ev
    obtain rfl : u = Value.ref a := rx
    obtain ⟨mA, O, _, _, _, _⟩ := ins_get I1.hok ea
    obtain ⟨od, J, _⟩ := O.look
    obtain ⟨rest, hrec⟩ := hp.rec_
    have I2 := I1.tok (s1.toks + 1)
    have hc : (PySem.W.clsIn X.K C).isSome = true := by
      obtain ⟨cd, hc, _⟩ := PySem.W.any_some c.hd
      rw [hc]
      rfl
    refine PySem.W.get_bind I1.kIn J (PySem.W.plainGet_of (c.get f)).1 (PySem.W.findObj_data hc hp.at_ hp.get hp.tak) (PySem.W.plainGet_of (c.get f)).2 (wpAny_call (PySem.W.prop_get (s := { s1 with toks := s1.toks + 1 }) I1.kIn hrec ?_))
    refine codeAny_mono (F.run T X.A.in1 X.stack { s1 with toks := s1.toks + 1 } H1 ⟨[.ref a], []⟩ [.ref a] [.ref a] [d] ρ1 st1 Q (fun _ _ _ => False) rfl hr.in1 hgd I2.env0.in1 (hb _ [.ref a] I2.kIn rfl) (.cons rfl .nil) ok1 ⟨_, _, rfl, rd, rfl⟩ ?_) fun r s' hq => ?_
    · unfold okOnly at h1
      cases q : mf [d] st1 with
      | ok d' st' => rw [q] at h1; exact h1
      | err C p st' => rw [q] at h1; exact h1.elim
      | bad => rw [q] at h1; exact h1.elim
    · cases r with
      | error er =>
        obtain ⟨_, _, _, _, _, _, _, _, _, _, _, _, hE⟩ := hq
        exact False.elim hE
      | ok fl =>
        cases fl with
        | ret u =>
          obtain ⟨v, H', I3, rv, q3⟩ := I2.after hq
          show wpAny _ _ (handedOut u) _ _ _
          rw [PySem.W.handedOut_of (handed_of rv)]
          exact wpAny_pure ⟨v, H', I3, rv, q3⟩
        | next => exact False.elim hq
        | brk => exact False.elim hq
        | cont => exact False.elim hq
end
end L3

/-! ### text Lx -/
namespace L3
open PySem PySem.Spec PyProof.Rows L2

/-! ### == by an own __eq__ -/
section
variable {X : Cx} {T : Tb} {W : WX} {C f : Addr} {k : Nat} {fd : FuncData} {ps : List Str} {mf : List D → Store → Res D}
/-- the class's own ==, where the left is an instance of C, else the data's -/
def dEqC (K : PySem.W.Frag) (cs : List Addr) (C : Addr) (mf : List D → Store → Res D) (x y : D) (st : Store) : Res D := match objOf x st with
  | some (C', _, _) => if C' = C then match tyD y st with
    | some t => if okTy cs t = true ∧ PySem.W.notFirst K C t = true then match okOnly (mf [x, y] st) with
      | .ok (.bl b) st' => .ok (.bl b) st'
      | _ => .bad else .bad
    | none => .bad
    else .bad
  | none => dEq x y st
def rEqC (K : PySem.W.Frag) (C : Addr) (mf : List D → Store → Res D) (T : Tb) : R2 := fun x y H Q => (∃ (W : WX) (σ : L2.St) (ρ : Wo) (st : Store) (d d' : D) (a dx : Addr) (fs : List (Str × V)) (t : Value), x = .ref a ∧ H a = some (.ins C dx fs) ∧ TyX K H y t ∧ PySem.W.notFirst K C t = true ∧ Ok K T H ρ st ∧ R K H ρ d x ∧ R K H ρ d' y ∧
  ∃ (b : Bool) (st' : Store), mf [d, d'] st = .ok (.bl b) st' ∧ Post K T W (R K) σ H ρ (.ok (.bl b) st') Q) ∨ rEqS K x y H Q
theorem op_eqC (hu : X.A.units + 64 < cLine) (F : FnD X.prog X.w X.K X.mg X.base T.tabs k f fd ps mf) (hr : Room k X.A) (hgd : X.A.guards = some []) (hb : Binds X.K fd ps [])
    (hs : PySem.W.findIn X.K (.ref C) "__eq__" = some (some (.ref f))) (hf : PySem.W.isFn X.K (.ref f) = true) : OpR X (compareOp .Eq) (rEqC X.K C mf T) := by
  refine OpR.or ?_ (op_eqS hu)
  intro pins s σ H x y v u Q I rx ry h
  obtain ⟨W, σ1, ρ, st, d, d', a, dx, fs, t, rfl, ea, ty, hn, ok, rd, rd', b, st', em, h⟩ := h
  cases rx
  obtain ⟨mA, J, _⟩ := ins_get I.hok ea
  obtain ⟨od, J, _⟩ := J.look
  obtain ⟨m, hF⟩ := I.fr
  obtain ⟨P, kx, hP, _⟩ := kit_of I ry ty
  show wpAny (model X.prog X.w) X.A (richCompare .Eq _ _) (EP X pins σ Q) X.xe s
  refine PySem.W.cmp_K (op := .Eq) (tb := t) hr.units0 hF I.ok.mod.kin J (kx.ty _ _ I.kIn hP) hn hs hf ?_
  have r2 : Vals [V.ref a, y] [Value.ref a, u] := .cons rfl (.cons ry .nil)
  have hlen : ([d, d'] : List D).length = ps.length := by
    by_cases q : ([d, d'] : List D).length = ps.length
    · exact q
    · rw [F.len _ _ q] at em; cases em
  refine wpAny_call (codeAny_mono (F.run T X.A X.stack s H ⟨[.ref a, u], []⟩ [.ref a, u] [.ref a, y] [d, d'] ρ st (fun v H' => v = .bl b ∧ Q (.bl b) H') (fun _ _ _ => False) rfl hr hgd I.env0 (by
    have := hb s [.ref a, u] I.kIn (by simpa using hlen)
    simpa using this) r2 ok ⟨_, _, rfl, rd, _, _, rfl, rd', rfl⟩ ?_) fun r s' hq => ?_)
  · rw [em]
    intro v H' ρ' g o rv
    obtain rfl : v = .bl b := rv
    exact ⟨rfl, h _ H' ρ' g o rfl⟩
  · cases r with
    | error e =>
      obtain ⟨_, _, _, _, _, _, _, _, _, _, _, _, hE⟩ := hq
      exact False.elim hE
    | ok fl =>
      cases fl with
      | ret w =>
        obtain ⟨z, H', I', rz, ez, q⟩ := I.after hq
        subst ez
        cases rz
        exact ⟨.bl b, H', I', rfl, q⟩
      | next => exact False.elim hq
      | brk => exact False.elim hq
      | cont => exact False.elim hq
theorem tell_eqC {cs : List Addr} (hC : ∀ C' ∈ cs, TyC X.K C') : Tell2 X T (rEqC X.K C mf T) (dEqC X.K cs C mf) := by
  intro W σ H ρ st x y v u Q ok rx ry h
  unfold dEqC at h
  split at h
  · rename_i C' ns ds eo
    split at h
    · rename_i hCC
      subst hCC
      split at h
      · rename_i t et
        split at h
        · rename_i hn
          obtain ⟨a, dx, xs, rfl, ha, l, r⟩ := objAt ok rx eo
          cases q : mf [x, y] st with
          | ok d st' =>
            rw [q] at h
            cases d with
            | bl b => exact .inl ⟨W, σ, ρ, st, x, y, a, dx, _, t, rfl, ha, tyAt (fun C e => hC C (by have := hn.1; rw [e] at this; simpa [okTy] using this)) ok ry et, hn.2, ok, rx, ry, b, st', q, h⟩
            | _ => exact h.elim
          | err Ce p st' => rw [q] at h; exact h.elim
          | bad => rw [q] at h; exact h.elim
        · exact h.elim
      · exact h.elim
    · exact h.elim
  · exact .inr (tell_eq _ _ _ _ _ _ _ _ _ _ ok rx ry h)
end
end L3

/-! ### text Ly -/
namespace L3
open PySem PySem.Spec PyProof.Rows L2

/-! ### != where the class has an own __eq__ and no own __ne__ -/
section
variable {prog : Program} {w : World} {A : Around} {E : Value → Shared → Prop} {s : Shared} {K : PySem.W.Frag} {x C f : Addr} {ox : Obj} {od : Option Obj} {b : Value}
theorem objNe_body (Kn : K.In s.heap) (I : PySem.W.InstAt s.heap x ox C od) (hE : PySem.W.findIn K (.ref C) "__eq__" = some (some (.ref f))) (hF : PySem.W.isFn K (.ref f) = true) (hu : A.units < cLine) {Q : Fin → Shared → Prop}
    (hc : wpAny (model prog w) A (call (.ref f) [.ref x, b]) (fun v s' => ∃ k, v = .bool k ∧ Q (.done (.ret (.bool (!k)))) s') E s) : wpAny (model prog w) A (Builtin.«object.__ne__» ⟨[.ref x, b], []⟩) Q E s := by
  unfold Builtin.«object.__ne__»
  repeat (first
    | with_reducible refine wpAny_cRoomFor hu ?_
    | (refine wpAny_bind (m := callSpecialIfBound? (.ref x) (Str.ofString "__eq__") [b]) (PySem.W.ifBound_K Kn I hE hF (wpAny_mono hc (fun r s' hr => by
          obtain ⟨k, rfl, hq⟩ := hr
          repeat (first | exact hq | exact wpAny_pure hq | exact wpAny_truthy_bool hq | (refine wpAny_bind (m := truthy (.bool _)) (wpAny_truthy_bool ?_)) | wp_step)) fun _ _ e => e)))
    | wp_step)
theorem objNe_call (Kn : K.In s.heap) (I : PySem.W.InstAt s.heap x ox C od) (hM : PySem.W.mroIn K C (.type "object") = some true) (hE : PySem.W.findIn K (.ref C) "__eq__" = some (some (.ref f))) (hF : PySem.W.isFn K (.ref f) = true) (hu : A.units + 1 < cLine) {Q : Value → Shared → Prop}
    (hc : wpAny (model prog w) A.in1 (call (.ref f) [.ref x, b]) (fun v s' => ∃ k, v = .bool k ∧ Q (.bool (!k)) s') E s) : wpAny (model prog w) A (call (.builtin "object.__ne__") [.ref x, b]) Q E s :=
  wpAny_call (codeAny_call_builtin F.cmp_object.ne.plain F.cmpEntry_ne (PySem.W.check_slot F.cmpKind_ne F.cmpSplit_ne (I.type.andThen (PySem.W.looks_mroIn Kn hM)) (F.cmpArgs_ne _ _) (objNe_body (A := A.in1) Kn I hE hF hu hc)))
theorem objNe_bound {M : Model} {args : List Value} {Q : Option Value → Shared → Prop} (Kn : K.In s.heap) (I : PySem.W.InstAt s.heap x ox C od) (hN : PySem.W.findIn K (.ref C) "__ne__" = some (some (.builtin "object.__ne__")))
    (hc : wpAny M A (call (.builtin "object.__ne__") (.ref x :: args)) (fun v => Q (some v)) E s) : wpAny M A (callSpecialIfBound? (.ref x) "__ne__" args) Q E s := by
  have fin : wpAny M A (call (.builtin "object.__ne__") ([.ref x] ++ args) >>= fun v => pure (some v)) Q E s := wpAny_bind (wpAny_mono hc (fun v s' q => wpAny_pure q) fun _ _ q => q)
  simp only [callSpecialIfBound?, bindSpecialIfBound?]
  refine wpAny_holding (wpAny_bind (wpAny_bind (wpAny_bind (I.type.here ((PySem.W.looks_findIn Kn hN).here (wpAny_bind (wpAny_askSetting (wpAny_ite ?_))))))))
  split
  · exact wpAny_bind (wpAny_of_eq (F.cmp_object.ne.bind _) (wpAny_pure (by exact fin)))
  · exact wpAny_tryCatch (wpAny_bind (wpAny_of_eq (F.cmp_object.ne.bind _) (wpAny_pure (by exact fin))))
theorem ne_K {tb : Value} {Q : Value → Shared → Prop} (Kn : K.In s.heap) (I : PySem.W.InstAt s.heap x ox C od) (hM : PySem.W.mroIn K C (.type "object") = some true) (hE : PySem.W.findIn K (.ref C) "__eq__" = some (some (.ref f))) (hF : PySem.W.isFn K (.ref f) = true)
    (hN : PySem.W.findIn K (.ref C) "__ne__" = some (some (.builtin "object.__ne__"))) (hb : PySem.W.Looks (model prog w) s.heap (typeOf b) tb) (hn : PySem.W.notFirst K C tb = true) (hu : A.units + 1 < cLine)
    (hc : wpAny (model prog w) A.in1 (call (.ref f) [.ref x, b]) (fun v s' => ∃ k, v = .bool k ∧ Q (.bool (!k)) s') E s) : wpAny (model prog w) A (richCompare .NotEq (.ref x) b) Q E s := by
  have one : wpAny (model prog w) A (tryCompare (.ref x) "__ne__" b) (fun r s' => ∃ k, r = some (.bool (!k)) ∧ Q (.bool (!k)) s') E s := by
    unfold tryCompare
    refine wpAny_bind (objNe_bound Kn I hN (objNe_call Kn I hM hE hF hu (wpAny_mono hc (fun v s' ⟨k, e, q⟩ => ⟨k, e, wpAny_pure ⟨k, rfl, q⟩⟩) fun _ _ q => q)))
  unfold richCompare
  simp only [oneThing_ref]
  refine wpAny_holding (wpAny_bind (wpAny_cRoomFor (Nat.lt_of_succ_lt hu) (wpAny_bind (I.type.here (wpAny_bind (hb.here ?_))))))
  split
  · rename_i q
    have ef : PySem.W.subIn K tb (.ref C) = some false := by
      rcases Bool.or_eq_true_iff.mp hn with z | z
      · rw [beq_iff_eq.mp z] at q
        simp at q
      · exact beq_iff_eq.mp z
    refine wpAny_bind ((PySem.W.looks_subIn Kn ef).here ?_)
    simp only [Bool.false_eq_true, if_false]
    exact wpAny_bind (wpAny_mono one (fun r s' ⟨k, e, z⟩ => by subst e; exact wpAny_pure z) fun _ _ z => z)
  · refine wpAny_bind (wpAny_pure ?_)
    simp only [Bool.false_eq_true, if_false]
    exact wpAny_bind (wpAny_mono one (fun r s' ⟨k, e, z⟩ => by subst e; exact wpAny_pure z) fun _ _ z => z)
end
section
variable {X : Cx} {T : Tb} {C f : Addr} {k : Nat} {fd : FuncData} {ps : List Str} {mf : List D → Store → Res D}
/-- != by the class's own == -/
def dNeC (K : PySem.W.Frag) (cs : List Addr) (C : Addr) (mf : List D → Store → Res D) (x y : D) (st : Store) : Res D := match objOf x st with
  | some (C', _, _) => if C' = C then match tyD y st with
    | some t => if okTy cs t = true ∧ PySem.W.notFirst K C t = true then match okOnly (mf [x, y] st) with
      | .ok (.bl b) st' => .ok (.bl (!b)) st'
      | _ => .bad else .bad
    | none => .bad
    else .bad
  | none => dNe x y st
def rNeC (K : PySem.W.Frag) (C : Addr) (mf : List D → Store → Res D) (T : Tb) : R2 := fun x y H Q => (∃ (W : WX) (σ : L2.St) (ρ : Wo) (st : Store) (d d' : D) (a dx : Addr) (fs : List (Str × V)) (t : Value), x = .ref a ∧ H a = some (.ins C dx fs) ∧ TyX K H y t ∧ PySem.W.notFirst K C t = true ∧ Ok K T H ρ st ∧ R K H ρ d x ∧ R K H ρ d' y ∧
  ∃ (b : Bool) (st' : Store), mf [d, d'] st = .ok (.bl b) st' ∧ Post K T W (R K) σ H ρ (.ok (.bl (!b)) st') Q) ∨ rNeS K x y H Q
theorem op_neC (hu : X.A.units + 64 < cLine) (F : FnD X.prog X.w X.K X.mg X.base T.tabs k f fd ps mf) (hr : Room (k + 1) X.A) (hgd : X.A.guards = some []) (hb : Binds X.K fd ps [])
    (hM : PySem.W.mroIn X.K C (.type "object") = some true) (hN : PySem.W.findIn X.K (.ref C) "__ne__" = some (some (.builtin "object.__ne__")))
    (hs : PySem.W.findIn X.K (.ref C) "__eq__" = some (some (.ref f))) (hf : PySem.W.isFn X.K (.ref f) = true) : OpR X (compareOp .NotEq) (rNeC X.K C mf T) := by
  refine OpR.or ?_ (op_neS hu)
  intro pins s σ H x y v u Q I rx ry h
  obtain ⟨W, σ1, ρ, st, d, d', a, dx, fs, t, rfl, ea, ty, hn, ok, rd, rd', b, st', em, h⟩ := h
  cases rx
  obtain ⟨mA, J, _⟩ := ins_get I.hok ea
  obtain ⟨od, J, _⟩ := J.look
  obtain ⟨P, kx, hP, _⟩ := kit_of I ry ty
  show wpAny (model X.prog X.w) X.A (richCompare .NotEq _ _) (EP X pins σ Q) X.xe s
  refine ne_K I.kIn J hM hs hf hN (kx.ty _ _ I.kIn hP) hn (by omega) ?_
  have r2 : Vals [V.ref a, y] [Value.ref a, u] := .cons rfl (.cons ry .nil)
  have hlen : ([d, d'] : List D).length = ps.length := by
    by_cases q : ([d, d'] : List D).length = ps.length
    · exact q
    · rw [F.len _ _ q] at em; cases em
  refine wpAny_call (codeAny_mono (F.run T X.A.in1 X.stack s H ⟨[.ref a, u], []⟩ [.ref a, u] [.ref a, y] [d, d'] ρ st (fun v H' => v = .bl b ∧ Q (.bl (!b)) H') (fun _ _ _ => False) rfl hr.in1 hgd I.env0.in1 (by
    have := hb s [.ref a, u] I.kIn (by simpa using hlen)
    simpa using this) r2 ok ⟨_, _, rfl, rd, _, _, rfl, rd', rfl⟩ ?_) fun r s' hq => ?_)
  · rw [em]
    intro v H' ρ' g o rv
    obtain rfl : v = .bl b := rv
    exact ⟨rfl, h _ H' ρ' g o rfl⟩
  · cases r with
    | error e =>
      obtain ⟨_, _, _, _, _, _, _, _, _, _, _, _, hE⟩ := hq
      exact False.elim hE
    | ok fl =>
      cases fl with
      | ret w =>
        obtain ⟨z, H', I', rz, ez, q⟩ := I.after hq
        subst ez
        cases rz
        exact ⟨b, rfl, .bl (!b), H', I', rfl, q⟩
      | next => exact False.elim hq
      | brk => exact False.elim hq
      | cont => exact False.elim hq
theorem tell_neC {cs : List Addr} (hC : ∀ C' ∈ cs, TyC X.K C') : Tell2 X T (rNeC X.K C mf T) (dNeC X.K cs C mf) := by
  intro W σ H ρ st x y v u Q ok rx ry h
  unfold dNeC at h
  split at h
  · rename_i C' ns ds eo
    split at h
    · rename_i hCC
      subst hCC
      split at h
      · rename_i t et
        split at h
        · rename_i hn
          obtain ⟨a, dx, xs, rfl, ha, l, r⟩ := objAt ok rx eo
          cases q : mf [x, y] st with
          | ok d st' =>
            rw [q] at h
            cases d with
            | bl b => exact .inl ⟨W, σ, ρ, st, x, y, a, dx, _, t, rfl, ha, tyAt (fun C e => hC C (by have := hn.1; rw [e] at this; simpa [okTy] using this)) ok ry et, hn.2, ok, rx, ry, b, st', q, h⟩
            | _ => exact h.elim
          | err Ce p st' => rw [q] at h; exact h.elim
          | bad => rw [q] at h; exact h.elim
        · exact h.elim
      · exact h.elim
    · exact h.elim
  · exact .inr (tell_ne _ _ _ _ _ _ _ _ _ _ ok rx ry h)
end
end L3

/-! ### text Ma -/
namespace L3
open PySem PySem.Spec PyProof.Rows L2

/-! ### enumerate(v), v a tuple -/
set_option maxHeartbeats 1000000 in
theorem enum1_new {v : Value} {o : Obj} {G : Heap → Prop} (B : Begins v o G) :
    Meets (Builtin.«enumerate.__new__» ⟨[.type "enumerate", v], []⟩) (fun _ R s => G s.heap ∧ R (.ok (.ret (.ref (s.heap.push o).objs.size))) { s with heap := (s.heap.push o).push { cls := .type "enumerate", data := .fields #[.none, .bool false, .ref s.heap.objs.size, rawInt 0, .none, .none] } }) :=
  .of_wp fun prog w A R s hh => by
    obtain ⟨hp, gn, dr, tk, os⟩ := s; obtain ⟨hG, hh⟩ := hh
    have he := sub_enumerate
    have it1 : ∀ {A' : Around} {E : Value → Shared → Prop} {Q : Value → Shared → Prop}, Q (.ref hp.objs.size) ⟨hp.push o, gn, dr, tk, os⟩ → wpAny (model prog w) A' (pyIter v) Q E ⟨hp, gn, dr, tk, os⟩ := fun q => B.iter prog w _ _ ⟨hp, gn, dr, tk, os⟩ _ hG q
    wp_walk using it1
    refine wpAny_stack_any fun _ => wpAny_pure ?_
    split
    · rename_i c _ _ _ _ _
      cases (c == Value.type "enumerate") <;> (wp_walk using it1; exact ⟨_, rfl, hh⟩)
    · wp_walk using it1; exact ⟨_, rfl, hh⟩
theorem enum1_begins {prog : Program} {w : World} {A : Around} {E : Value → Shared → Prop} {s : Shared} {v : Value} {o : Obj} {G : Heap → Prop} {Q : Value → Shared → Prop} (B : Begins v o G) (hG : G s.heap)
    (h : ∀ h', IsEnum h' (s.heap.objs.size + 1) s.heap.objs.size 0 .none → h'.get? s.heap.objs.size = some o → h'.objs.size = s.heap.objs.size + 2 → (∀ b o, s.heap.get? b = some o → h'.get? b = some o) → Q (.ref (s.heap.objs.size + 1)) { s with heap := h' }) :
    wpAny (model prog w) A (call (.type "enumerate") [v]) Q E s := by
  refine callType_new F.called_enumerate (by decide) (F.typeCall_enumerate_1 _) (F.newCall_enumerate_1 _) (fun obj => F.args_object_init_2 obj _) F.entry_enumerate_new (enum1_new B) ⟨hG, ?_⟩
  have hz : (s.heap.push o).objs.size = s.heap.objs.size + 1 := Heap.size_push ..
  show _ ∧ _
  rw [hz]
  have he : IsEnum ((s.heap.push o).push { cls := .type "enumerate", data := .fields #[.none, .bool false, .ref s.heap.objs.size, rawInt 0, .none, .none] }) (s.heap.objs.size + 1) s.heap.objs.size 0 .none := by
    have := Heap.get?_push_size (s.heap.push o) (o := { cls := .type "enumerate", data := .fields #[.none, .bool false, .ref s.heap.objs.size, rawInt 0, .none, .none] }) rfl
    rw [hz] at this
    exact this
  exact ⟨⟨_, he, rfl⟩, h _ he (Heap.get?_push_of_some _ (Heap.get?_push_size _ B.free)) (by rw [Heap.size_push, hz]) fun b o x => Heap.get?_push_of_some _ (Heap.get?_push_of_some _ x)⟩
/-- the tuple at a, its items in new pairs -/
def IteT (K : PySem.W.Frag) (a : Addr) : It :=
  ⟨fun i H => ∃ xs : List V, i < xs.length ∧ SqT K H a xs, fun i H v H' => ∃ T x, v = .ref T ∧ H T = none ∧ H' = upd H T (.tup [.int (i : Nat), x]) ∧ ∀ xs, SqT K H a xs → xs[i]? = some x, fun i H => ∃ xs : List V, i = xs.length ∧ SqT K H a xs⟩
section
variable {P : Program} {w : World} {K : PySem.W.Frag} {elts : List Expr} {kk : Nat} {tpos : Pos} {a : Addr}
theorem turn_enumT (N : Nat) (ha : a < N) : Turn P w K (.Tuple elts kk tpos) (IteT K a) [N + 1, N] (N + 1) (fun i h => (∃ old, IsEnum h (N + 1) N (0 + (i : Int)) old) ∧ h.IsTupleIter N a i) where
  mem := by simp
  obj := fun i h st d hd => by
    obtain ⟨⟨old, hz⟩, ⟨o1, q1, _, d1⟩⟩ := st
    simp only [List.mem_cons, List.not_mem_nil, or_false] at hd
    rcases hd with q | q
    · rw [q]; exact ⟨_, hz, fun v q => nomatch q⟩
    · rw [q]; exact ⟨o1, q1, fun v q => by rw [d1] at q; cases q⟩
  keep := fun i h h' ⟨⟨old, hz⟩, h1⟩ k => ⟨⟨old, k _ (by simp) _ hz⟩, h1.at fun o q => k _ (by simp) o q⟩
  item := by
    intro X hP hw hK hcalm i pins s σ H E I hf st hg
    subst hP hw hK
    obtain ⟨⟨old, hz⟩, h1⟩ := st
    obtain ⟨xs, hi, sa⟩ := hg
    obtain ⟨ia, ra, pa, _⟩ := I.tuple sa
    have la := ra.length
    have hh : X.A.in1.handled = none := I.ok.hd hcalm
    have Gn := PySem.GoesN.enumFrom (elts := elts) (x1 := kk) (pos := tpos) 0 (Draws.tuple (prog := X.prog) (w := X.w) (A := X.A.in1) hh N a (Nat.ne_of_lt ha) ia.toArray) (N + 1) (Nat.succ_ne_self _) (fun z => by rcases List.mem_cons.mp z with z | z; exact Nat.succ_ne_self _ z; exact Nat.ne_of_gt (Nat.lt_succ_of_lt ha) (List.mem_singleton.mp z)) (by simp)
    refine wpAny_mono (Gn.goes i s (fun v s2 => ∃ x H', Inv X pins σ H' s2 ∧ RelV x v ∧ (IteT X.K a).yld i H x H' ∧ ((∃ old, IsEnum s2.heap (N + 1) N (0 + ((i + 1 : Nat) : Int)) old) ∧ s2.heap.IsTupleIter N a (i + 1)) ∧ ∀ d ∈ [N + 1, N], H' d = none) E
      (by simp only [List.size_toArray]; omega) ⟨⟨old, hz⟩, ⟨h1, isTuple_of pa⟩⟩ fun v h' tk hY st' hk _ => ?_) (fun r s1 ⟨v, e, h⟩ => ⟨v, e, h⟩) (fun _ _ e => e)
    obtain ⟨T, t, u1, rfl, hT, f1, hTup⟩ := hY
    obtain ⟨hz', ⟨i1', _⟩⟩ := st'
    obtain ⟨v1, q1, r1⟩ := valsB ra (by simpa using f1)
    have hTn : H T = none := I.hok.fresh hT
    have new : ObjOk X.prog X.w (upd H T (.tup [.int (i : Nat), v1])) h' T (.tup [.int (i : Nat), v1]) := by
      obtain ⟨o, ho, hcl, n, hd⟩ := hTup
      exact ⟨by show 2 ≤ sizeLine; decide, [.int (0 + (i : Int)) t, u1], .cons ⟨t, by rw [Int.zero_add]⟩ (.cons r1 .nil), o, ho, hcl, n, hd⟩
    have I1 : Inv X pins σ (upd H T (.tup [.int (i : Nat), v1])) { s with heap := h', toks := tk } :=
      I.turnedNew (ch := [N + 1, N]) (fun d o hb q => hk d o hb q) hf hT new
    refine ⟨.ref T, _, I1, rfl, ⟨T, v1, rfl, hTn, rfl, fun l hl => by rw [I.tuple_inj hl sa]; exact q1⟩, ⟨hz', i1'⟩, fun d hd => ?_⟩
    have hlt : d < s.heap.objs.size := by
      simp only [List.mem_cons, List.not_mem_nil, or_false] at hd
      have : d ≤ N + 1 := by omega
      exact Nat.lt_of_le_of_lt this (Heap.lt_size hz)
    rw [upd_ne (Nat.ne_of_lt (Nat.lt_of_lt_of_le hlt hT))]
    exact (hf d hd).1
  done := by
    intro X hP hw hK hcalm i pins s σ H E I hf st hg
    subst hP hw hK
    obtain ⟨⟨old, hz⟩, h1⟩ := st
    obtain ⟨xs, hi, sa⟩ := hg
    obtain ⟨ia, ra, pa, _⟩ := I.tuple sa
    have la := ra.length
    have hh : X.A.in1.handled = none := I.ok.hd hcalm
    have Gn := PySem.GoesN.enumFrom (elts := elts) (x1 := kk) (pos := tpos) 0 (Draws.tuple (prog := X.prog) (w := X.w) (A := X.A.in1) hh N a (Nat.ne_of_lt ha) ia.toArray) (N + 1) (Nat.succ_ne_self _) (fun z => by rcases List.mem_cons.mp z with z | z; exact Nat.succ_ne_self _ z; exact Nat.ne_of_gt (Nat.lt_succ_of_lt ha) (List.mem_singleton.mp z)) (by simp)
    have hn : i = ia.toArray.size := by simp only [List.size_toArray]; omega
    subst hn
    exact wpAny_mono (Gn.stops s (fun s1 => Inv X pins σ H s1) E ⟨⟨old, hz⟩, ⟨h1, isTuple_of pa⟩⟩ fun h' tk hk _ => I.turnedL (ch := [N + 1, N]) (fun d o hb q => hk d o hb q) hf) (fun r s1 h => h) (fun _ _ e => e)
  self := fun A i s Q E st h => let ⟨⟨_, hz⟩, _⟩ := st; wpAny_pyIter_enum hz h
theorem walk_enumT {n : Nat} : Walk (IteT K a) n (fun H => ∃ xs : List V, n = xs.length ∧ SqT K H a xs) (fun i H v H' => ∃ T x, v = .ref T ∧ H T = none ∧ H' = upd H T (.tup [.int (i : Nat), x]) ∧ ∀ xs, SqT K H a xs → xs[i]? = some x) :=
  ⟨fun i H hi ⟨xs, h, r⟩ => ⟨xs, by omega, r⟩, fun H h => h, fun i H x H' _ _ y => y⟩
end
theorem wk_enumT {K : PySem.W.Frag} {T : Tb} {H : Hp} {ρ : Wo} {a : Addr} {da : List D} (ha : R K H ρ (.tup da) (.ref a)) : WkR K T H ρ ⟨enumD 0 da, fun st => True⟩ (IteT K a) := by
  refine ⟨[.tup da], [.ref a], _, _, ⟨_, _, rfl, ha, rfl⟩, walk_enumT, fun H1 ρ1 st1 o r0 k => ?_, fun i x H1 ρ1 st1 v H2 o r0 k hi hy => ?_⟩
  all_goals
    obtain ⟨_, _, e0, h, _⟩ := r0
    cases e0
    obtain ⟨b, ys, e1, s, r⟩ := tupAt h
    cases ref_inj e1
  · exact ⟨ys, by rw [r.len, enumD_len], s⟩
  · obtain ⟨p, y, rfl, hp, rfl, hy⟩ := hy
    obtain ⟨d', h0, rfl⟩ := enumD_get _ _ _ _ hi
    obtain ⟨w, h1, h2⟩ := r.get h0
    rw [hy ys s] at h1
    cases h1
    exact new_pair o hp (x := .int ((0 + i : Nat) : Int)) (v := .int (i : Nat)) (by rw [Nat.zero_add]; exact rfl) h2
/-- enumerate over a tuple or a list -/
def iEnumA (m : AM) : IM := fun δ st => (m δ st).bind fun xs st1 => match xs with
  | [.tup ds] => .ok ⟨enumD 0 ds, fun _ => True⟩ st1
  | [d] => match lsOf d st1 with
    | some ds => .ok ⟨enumD 0 ds, keepOf d ds⟩ st1
    | none => .bad
  | _ => .bad
def iEnT (K : PySem.W.Frag) (ta : TA) : TI := fun σ H Rr => ta σ H fun vs H1 => ∃ a xs, vs = [.ref a] ∧ SqT K H1 a xs ∧ Rr (IteT K a) H1
theorem pi_enumT {X : Cx} {e : Expr} {ta : TA} {p pos tpos : Pos} {elts : List Expr} {kk : Nat} (hg : Gl X "enumerate") (hm : X.mg "enumerate" = none) (ha : PA X [e] ta) (hs : starEach [e] X.env = [(false, eval e X.env)] := by rfl) :
    PI X (.Tuple elts kk tpos) (.Call (.Name "enumerate" p) [e] [] pos) (iEnT X.K ta) := by
  refine ⟨fun pins s σ H Rr I h => ?_⟩
  refine Call_ (ld_blt I hg hm boot_enumerate (PyProof.Rows.callWith_type1 (thn (ha.run pos pins s σ H _ I h) fun us s1 ⟨vs, H1, I1, r1, a, xs, ex, sa, q⟩ => ?_) hs rfl))
  subst ex
  cases r1 with
  | cons r rr =>
    cases rr
    cases r
    obtain ⟨ia, va, pa, _⟩ := I1.tuple sa
    have ta := isTuple_of pa
    have lt : a < s1.heap.objs.size := by obtain ⟨o, ho, _⟩ := ta; exact Heap.lt_size ho
    refine enum1_begins (PySem.begins_tuple a ia.toArray) ta fun h' hz h1 hsz hk => wpAny_pyIter_enum hz ?_
    have I2 : Inv X pins σ H1 { s1 with heap := h' } := I1.kept (t' := s1.toks) hk
    refine ⟨_, [s1.heap.objs.size + 1, s1.heap.objs.size], _, _, H1, rfl, I2, turn_enumT s1.heap.objs.size lt, ⟨⟨.none, hz⟩, ⟨_, h1, rfl, rfl⟩⟩, fun d hd => ?_, q⟩
    have hle : s1.heap.objs.size ≤ d := by
      rcases List.mem_cons.mp hd with z | z
      · rw [z]; exact Nat.le_succ _
      · rw [List.mem_singleton.mp z]; exact Nat.le_refl _
    exact I1.fpOk hle (I1.hok.fresh hle)
theorem di_enumA {X : Cx} {T : Tb} {W : WX} {e : Expr} {mas : AM} {p1 pos tpos : Pos} {elts : List Expr} {kk : Nat} (hg : Gl X "enumerate") (hm : X.mg "enumerate" = none) (h : DA X T W [e] mas) (hs : starEach [e] X.env = [(false, eval e X.env)] := by rfl) :
    DI X T W (.Tuple elts kk tpos) (.Call (.Name "enumerate" p1) [e] [] pos) (iEnumA mas) := by
  refine ⟨PI.imp (piOr (pi_enum hg hm h.pa hs) (pi_enumT hg hm h.pa hs)) fun σ H Rr ⟨ρ, δ, st, ok, rs, h⟩ => ?_⟩
  unfold iEnumA at h
  cases q : mas δ st with
  | bad => rw [q] at h; exact h.elim
  | err C p st1 =>
    rw [q] at h
    exact .inl ⟨ρ, δ, st, ok, rs, by rw [q]; exact h⟩
  | ok xs st1 =>
    rw [q, Res.bind_ok] at h
    split at h
    · rename_i ds
      refine .inr ⟨ρ, δ, st, ok, rs, by
        rw [q]
        intro vs H1 ρ1 g1 ok1 rx
        obtain ⟨v, rfl, rd⟩ := RL.one rx
        obtain ⟨a, xs, rfl, s, r⟩ := id rd
        exact ⟨a, xs, rfl, s.sq, h _ H1 ρ1 g1 ok1 (wk_enumT rd)⟩⟩
    · split at h
      · rename_i d hne ds e1
        refine .inl ⟨ρ, δ, st, ok, rs, by
          rw [q]
          intro vs H1 ρ1 g1 ok1 rx
          obtain ⟨v, rfl, rd⟩ := RL.one rx
          obtain ⟨a, xs, rfl, s, r⟩ := lsAt ok1 rd e1
          exact ⟨a, xs, rfl, s, h _ H1 ρ1 g1 ok1 (wk_enum rd e1)⟩⟩
      · exact h.elim
    · exact h.elim
end L3

/-! ### text Mb -/
namespace L3
open PySem PySem.Spec PyProof.Rows L2

/-! ### < <= > >= of data that are alike (tuples, lists, texts, numbers) -/
/-- the two may be ordered -/
def ordOk (p q : PyData) : Bool := PySem.W.alike p q && (match p with | .none => false | _ => true) && decide (p.depth ≤ 40)
theorem ordOk_of {p q : PyData} (h : ordOk p q = true) : PySem.W.alike p q = true ∧ p ≠ .none ∧ p.depth ≤ 40 := by
  unfold ordOk at h
  simp only [Bool.and_eq_true, decide_eq_true_eq] at h
  exact ⟨h.1.1, fun e => by subst e; exact absurd h.1.2 (by simp), h.2⟩
def dOrd (lt : PyData → PyData → Bool) (old : D → D → Store → Res D) (x y : D) (st : Store) : Res D := match old x y st with
  | .bad => match toPd x st, toPd y st with
    | some p, some q => if ordOk p q = true then .ok (.bl (lt p q)) st else .bad
    | _, _ => .bad
  | r => r
def dLtA : D → D → Store → Res D := dOrd (fun p q => PySem.W.dataLt p q) dLt
def dLeA : D → D → Store → Res D := dOrd (fun p q => !PySem.W.dataLt q p) dLe
def dGtA : D → D → Store → Res D := dOrd (fun p q => PySem.W.dataLt q p) dGt
def dGeA : D → D → Store → Res D := dOrd (fun p q => !PySem.W.dataLt p q) dGe
section
variable {X : Cx} {T : Tb}
def rOrdD (K : PySem.W.Frag) (lt : PyData → PyData → Bool) : R2 := fun x y H Q => ∃ p q, Dp K H x p ∧ Dp K H y q ∧ ordOk p q = true ∧ Q (.bl (lt p q)) H
theorem tell_ord {lt : PyData → PyData → Bool} {old : D → D → Store → Res D} {r : R2} (h0 : Tell2 X T r old) : Tell2 X T (fun x y H Q => r x y H Q ∨ rOrdD X.K lt x y H Q) (dOrd lt old) := by
  intro W σ H ρ st x y v u Q ok rx ry h
  unfold dOrd at h
  split at h
  · rename_i hb
    split at h
    · rename_i p q e1 e2
      split at h
      · rename_i hz
        exact .inr ⟨p, q, toPd_ok ok e1 rx, toPd_ok ok e2 ry, hz, h.ok ok rfl⟩
      · exact h.elim
    · exact h.elim
  · exact .inl (h0 _ _ _ _ _ _ _ _ _ _ ok rx ry h)
theorem op_ltO (hu : X.A.units + 64 < cLine) : OpR X (compareOp .Lt) (rOrdD X.K fun p q => PySem.W.dataLt p q) := by
  intro pins s σ H x y v u Q I rx ry ⟨p, q, hp, hq, ho, h⟩
  obtain ⟨z1, z2, z3⟩ := ordOk_of ho
  obtain ⟨as, r1⟩ := Dp.reads I p x v hp rx
  obtain ⟨bs, r2⟩ := Dp.reads I q y u hq ry
  exact PySem.W.lt_data r1 r2 z1 z2 (by omega) ⟨.bl _, H, I, rfl, h⟩
theorem op_leO (hu : X.A.units + 64 < cLine) : OpR X (compareOp .LtE) (rOrdD X.K fun p q => !PySem.W.dataLt q p) := by
  intro pins s σ H x y v u Q I rx ry ⟨p, q, hp, hq, ho, h⟩
  obtain ⟨z1, z2, z3⟩ := ordOk_of ho
  obtain ⟨as, r1⟩ := Dp.reads I p x v hp rx
  obtain ⟨bs, r2⟩ := Dp.reads I q y u hq ry
  exact PySem.W.le_data r1 r2 z1 z2 (by omega) ⟨.bl _, H, I, rfl, h⟩
theorem op_gtO (hu : X.A.units + 64 < cLine) : OpR X (compareOp .Gt) (rOrdD X.K fun p q => PySem.W.dataLt q p) := by
  intro pins s σ H x y v u Q I rx ry ⟨p, q, hp, hq, ho, h⟩
  obtain ⟨z1, z2, z3⟩ := ordOk_of ho
  obtain ⟨as, r1⟩ := Dp.reads I p x v hp rx
  obtain ⟨bs, r2⟩ := Dp.reads I q y u hq ry
  exact PySem.W.gt_data r1 r2 z1 z2 (by omega) ⟨.bl _, H, I, rfl, h⟩
theorem op_geO (hu : X.A.units + 64 < cLine) : OpR X (compareOp .GtE) (rOrdD X.K fun p q => !PySem.W.dataLt p q) := by
  intro pins s σ H x y v u Q I rx ry ⟨p, q, hp, hq, ho, h⟩
  obtain ⟨z1, z2, z3⟩ := ordOk_of ho
  obtain ⟨as, r1⟩ := Dp.reads I p x v hp rx
  obtain ⟨bs, r2⟩ := Dp.reads I q y u hq ry
  exact PySem.W.ge_data r1 r2 z1 z2 (by omega) ⟨.bl _, H, I, rfl, h⟩
theorem op_ltA (hu : X.A.units + 64 < cLine) : OpR X (compareOp .Lt) (fun x y H Q => rLtD x y H Q ∨ rOrdD X.K (fun p q => PySem.W.dataLt p q) x y H Q) := op_ltD.or (op_ltO hu)
theorem op_leA (hu : X.A.units + 64 < cLine) : OpR X (compareOp .LtE) (fun x y H Q => rI0 (fun i j => .bl (decide (i ≤ j))) x y H Q ∨ rOrdD X.K (fun p q => !PySem.W.dataLt q p) x y H Q) := op_le.or (op_leO hu)
theorem op_gtA (hu : X.A.units + 64 < cLine) : OpR X (compareOp .Gt) (fun x y H Q => rI0 (fun i j => .bl (decide (j < i))) x y H Q ∨ rOrdD X.K (fun p q => PySem.W.dataLt q p) x y H Q) := op_gt.or (op_gtO hu)
theorem op_geA (hu : X.A.units + 64 < cLine) : OpR X (compareOp .GtE) (fun x y H Q => rI0 (fun i j => .bl (decide (j ≤ i))) x y H Q ∨ rOrdD X.K (fun p q => !PySem.W.dataLt p q) x y H Q) := op_ge.or (op_geO hu)
theorem tell_ltA : Tell2 X T (fun x y H Q => rLtD x y H Q ∨ rOrdD X.K (fun p q => PySem.W.dataLt p q) x y H Q) dLtA := tell_ord tell_lt
theorem tell_leA : Tell2 X T (fun x y H Q => rI0 (fun i j => .bl (decide (i ≤ j))) x y H Q ∨ rOrdD X.K (fun p q => !PySem.W.dataLt q p) x y H Q) dLeA := tell_ord tell_le
theorem tell_gtA : Tell2 X T (fun x y H Q => rI0 (fun i j => .bl (decide (j < i))) x y H Q ∨ rOrdD X.K (fun p q => PySem.W.dataLt q p) x y H Q) dGtA := tell_ord tell_gt
theorem tell_geA : Tell2 X T (fun x y H Q => rI0 (fun i j => .bl (decide (j ≤ i))) x y H Q ∨ rOrdD X.K (fun p q => !PySem.W.dataLt p q) x y H Q) dGeA := tell_ord tell_ge
end
end L3

/-! ### text Mc -/
namespace L3
open PySem PySem.Spec PyProof.Rows L2

/-! ### sorted(xs), xs a list of alike data -/
def encD (d : D) : PyData := (toP d).getD .none
def encP (b : D × V) : PyData := encD b.1
def rSortD (K : PySem.W.Frag) : List V → Hp → VK → Prop := fun vs H Q => ∃ (a : Addr) (bs : List (D × V)), vs = [V.ref a] ∧ SqL K H a (bs.map (·.2)) ∧ (∀ b ∈ bs, Dp K H b.2 (encP b)) ∧ PySem.W.AllAlike (bs.map encP) ∧ PySem.W.Sortable (bs.map encP) ∧ bs.length ≤ sizeLine ∧ (∀ b ∈ bs, (encP b).depth ≤ 40) ∧
  ∀ p, H p = none → Q (.ref p) (upd H p (.lst ((bs.mergeSort (PySem.W.dataLe false encP)).map (·.2))))
theorem each_vals : ∀ {bs : List (D × V)} {us : List Value}, Vals (bs.map (·.2)) us → PySem.W.EachIs (fun u (b : D × V) => RelV b.2 u) us bs
  | [], _, h => by cases h; exact .nil
  | b :: bs, _, h => by
    cases h with
    | cons r t => exact .cons r (each_vals t)
theorem vals_each : ∀ {bs : List (D × V)} {us : List Value}, PySem.W.EachIs (fun u (b : D × V) => RelV b.2 u) us bs → Vals (bs.map (·.2)) us
  | [], _, h => by cases h; exact .nil
  | b :: bs, _, h => by
    cases h with
    | cons r t => exact .cons r (vals_each t)
theorem cr_sortD {X : Cx} (hu : X.A.units + 64 < cLine) : CallR X (.builtin "sorted") (rSortD X.K) := by
  intro pins s σ H vs us Q I r h
  obtain ⟨a, bs, rfl, hs, hd, ha, hk, hL, hdp, q⟩ := h
  obtain ⟨its, rv, hl, hz⟩ := I.list hs
  rw [Vals.ref1 r]
  have er : ∀ {bs : List (D × V)} {us : List Value}, (∀ b ∈ bs, Dp X.K H b.2 (encP b)) → Vals (bs.map (·.2)) us → PySem.W.EachIs (fun u (b : D × V) => ∃ as, Reads s.heap u (encP b) as) us bs := by
    intro bs
    induction bs with
    | nil => intro us _ h; cases h; exact .nil
    | cons b bs ih =>
      intro us hb h
      cases h with
      | cons r t => exact .cons (Dp.reads I _ _ _ (hb b List.mem_cons_self) r) (ih (fun c hc => hb c (List.mem_cons_of_mem _ hc)) t)
  refine PySem.W.sorted_data (enc := encP) (R := fun u (b : D × V) => RelV b.2 u) hl.isList (each_vals rv) (er hd rv) ha hk hL (fun b hb => by have := hdp b hb; omega) fun out hlen ho => ?_
  obtain ⟨n, hn⟩ := sortedAll_at s.heap its out.toArray
  have hf : H (s.heap.objs.size + 1) = none := I.hok.fresh (Nat.le_succ _)
  refine ⟨.ref (s.heap.objs.size + 1), _, I.laid (a := s.heap.objs.size + 1) (o := .lst ((bs.mergeSort (PySem.W.dataLe false encP)).map (·.2))) (t' := s.toks) (fun b u e => sortedAll_old e) (Nat.le_succ _) ⟨?_, out, n, vals_each ho, hn⟩, rfl, q _ hf⟩
  simp only [List.length_map, List.length_mergeSort]
  exact hL
/-- may be sorted -/
def sortOk (ds : List D) : Bool := ds.all (fun d => (toP d).isSome && decide ((encD d).depth ≤ 40)) && ds.all (fun d => ds.all fun e => PySem.W.alike (encD d) (encD e)) && decide (ds.length ≤ 1000000) &&
  (ds.all (fun d => match encD d with | .tuple (_ :: _) => true | _ => false) || ds.all (fun d => match encD d with | .none => false | .tuple _ => false | _ => true))
def bSorted : List D → Store → Res D
  | [x], st => match lsOf x st with
    | some ds => if sortOk ds = true then .ok (.fl (ds.mergeSort (PySem.W.dataLe false encD))) st else .bad
    | none => .bad
  | _, _ => .bad
theorem zip_of : ∀ {K : PySem.W.Frag} {H : Hp} {ρ : Wo} {ds : List D} {xs : List V}, RL K H ρ ds xs → ∃ bs : List (D × V), bs.map (·.1) = ds ∧ bs.map (·.2) = xs ∧ ∀ b ∈ bs, R K H ρ b.1 b.2
  | _, _, _, [], _, h => by cases h; exact ⟨[], rfl, rfl, by simp⟩
  | _, _, _, d :: ds, _, ⟨v, r, e, h1, h2⟩ => by
    obtain ⟨bs, q1, q2, q3⟩ := zip_of h2
    exact ⟨(d, v) :: bs, by simp [q1], by simp [q2, e], fun b hb => by
      rcases List.mem_cons.mp hb with rfl | hb
      · exact h1
      · exact q3 b hb⟩
theorem of_zip : ∀ {K : PySem.W.Frag} {H : Hp} {ρ : Wo} {bs : List (D × V)}, (∀ b ∈ bs, R K H ρ b.1 b.2) → RL K H ρ (bs.map (·.1)) (bs.map (·.2))
  | _, _, _, [], _ => rfl
  | _, _, _, b :: bs, h => ⟨b.2, _, rfl, h b List.mem_cons_self, of_zip fun c hc => h c (List.mem_cons_of_mem _ hc)⟩
theorem tell_sorted {X : Cx} {T : Tb} : TellN X T (rSortD X.K) bSorted := by
  intro W σ H ρ st xs vs Q ok r h
  unfold bSorted at h
  split at h
  · rename_i x
    obtain ⟨v, rfl, rv⟩ := RL.one r
    split at h
    · rename_i ds e
      split at h
      · rename_i hz
        obtain ⟨a, ys, rfl, s, rl⟩ := lsAt ok rv e
        obtain ⟨bs, rfl, rfl, hb⟩ := zip_of rl
        unfold sortOk at hz
        simp only [Bool.and_eq_true, Bool.or_eq_true, decide_eq_true_eq, List.all_eq_true, List.mem_map, List.length_map] at hz
        obtain ⟨⟨⟨z1, z2⟩, z3⟩, z4⟩ := hz
        have g : ∀ b ∈ bs, toP b.1 = some (encP b) := fun b hm => by
          have := (z1 b.1 ⟨b, hm, rfl⟩).1
          unfold encP encD
          cases q : toP b.1 with
          | none => rw [q] at this; cases this
          | some p => rfl
        refine ⟨a, bs, rfl, s, fun b hm => toP_ok _ _ _ (g b hm) (hb b hm), ?_, ?_, line1 z3, fun b hm => (z1 b.1 ⟨b, hm, rfl⟩).2, fun p hp => ?_⟩
        · intro d hd d' hd'
          obtain ⟨b, hm, rfl⟩ := List.mem_map.mp hd
          obtain ⟨b', hm', rfl⟩ := List.mem_map.mp hd'
          exact z2 b.1 ⟨b, hm, rfl⟩ b'.1 ⟨b', hm', rfl⟩
        · rcases z4 with z4 | z4
          · refine .inl fun d hd => ?_
            obtain ⟨b, hm, rfl⟩ := List.mem_map.mp hd
            have := z4 b.1 ⟨b, hm, rfl⟩
            show ∃ x r, encD b.1 = _
            split at this
            · rename_i y t q; exact ⟨_, _, q⟩
            · cases this
          · refine .inr fun d hd => ?_
            obtain ⟨b, hm, rfl⟩ := List.mem_map.mp hd
            have := z4 b.1 ⟨b, hm, rfl⟩
            show encD b.1 ≠ _ ∧ ∀ xs, encD b.1 ≠ _
            split at this
            · cases this
            · cases this
            · rename_i q1 q2; exact ⟨q1, q2⟩
        · have hm : (bs.mergeSort (PySem.W.dataLe false encP)).map (·.1) = (bs.map (·.1)).mergeSort (PySem.W.dataLe false encD) := List.map_mergeSort fun _ _ _ _ => rfl
          rw [← hm] at h
          exact Post.newL ok (of_zip fun b hb' => hb b ((List.mergeSort_perm _ _).mem_iff.mp hb')) h p hp
      · exact h.elim
    · exact h.elim
  · exact h.elim
end L3

/-! ### text Md -/
namespace L3
open PySem PySem.Spec PyProof.Rows L2

/-! ### facts of classes -/
section
variable {K : PySem.W.Frag} {x f : Str}
def clsB (x : Str) (K : PySem.W.Frag) : Bool := (He.Fa.cls x).ok K
def noatB (x f : Str) (K : PySem.W.Frag) : Bool := (He.Fa.noat x f).ok K
def mkrB (x : Str) (K : PySem.W.Frag) : Bool := (He.Fa.mkr x).ok K
theorem cls_of (h : clsB x K = true) : Cls K (He.ga K x) := He.cls_ok h
theorem noat_of (h : noatB x f K = true) : NoAttr K (He.ga K x) f := He.noat_ok h
theorem mk_of (h : mkrB x K = true) : Mk K (He.ga K x) (He.ma K (He.ga K x) "__init__") := He.mkr_ok h
/-- the property f of the class x, its getter -/
def prA (K : PySem.W.Frag) (x f : Str) : Addr := He.ma K (He.ga K x) f
def gtA (K : PySem.W.Frag) (x f : Str) : Addr := match PySem.W.recIn K (prA K x f) "property" with
  | some (.ref g :: _) => g
  | _ => 0
def hdRef (o : Option (List Value)) : Bool := match o with
  | some (.ref _ :: _) => true
  | _ => false
def propB (x f : Str) (K : PySem.W.Frag) : Bool := decide (PySem.W.findIn K (.ref (He.ga K x)) f = some (some (.ref (prA K x f)))) && decide (PySem.W.specialIn K (.ref (prA K x f)) "__get__" = some (some (.builtin "property.__get__"))) && decide (PySem.W.takesIn K (.ref (prA K x f)) = some true) && hdRef (PySem.W.recIn K (prA K x f) "property")
theorem prop_of (h : propB x f K = true) : PropOf K (He.ga K x) f (prA K x f) (gtA K x f) := by
  unfold propB at h
  simp only [Bool.and_eq_true, decide_eq_true_eq] at h
  obtain ⟨⟨⟨h1, h2⟩, h3⟩, h4⟩ := h
  refine ⟨h1, h2, h3, ?_⟩
  unfold gtA
  cases q : PySem.W.recIn K (prA K x f) "property" with
  | none => rw [q] at h4; cases h4
  | some l =>
    rw [q] at h4
    cases l with
    | nil => cases h4
    | cons v r =>
      cases v with
      | ref g => exact ⟨r, rfl⟩
      | _ => cases h4
/-- the class's own ==, object's != -/
def eqB (x : Str) (K : PySem.W.Frag) : Bool := decide (PySem.W.findIn K (.ref (He.ga K x)) "__eq__" = some (some (.ref (He.ma K (He.ga K x) "__eq__")))) && PySem.W.isFn K (.ref (He.ma K (He.ga K x) "__eq__")) && decide (PySem.W.findIn K (.ref (He.ga K x)) "__ne__" = some (some (.builtin "object.__ne__"))) && decide (PySem.W.mroIn K (He.ga K x) (.type "object") = some true)
structure EqC (K : PySem.W.Frag) (C f : Addr) : Prop where
  eq : PySem.W.findIn K (.ref C) "__eq__" = some (some (.ref f))
  fn : PySem.W.isFn K (.ref f) = true
  ne : PySem.W.findIn K (.ref C) "__ne__" = some (some (.builtin "object.__ne__"))
  mro : PySem.W.mroIn K C (.type "object") = some true
theorem eq_of (h : eqB x K = true) : EqC K (He.ga K x) (He.ma K (He.ga K x) "__eq__") := by
  unfold eqB at h
  simp only [Bool.and_eq_true, decide_eq_true_eq] at h
  exact ⟨h.1.1.1, h.1.1.2, h.1.2, h.2⟩
/-- isinstance tells the class's instances -/
def tycB (x : Str) (K : PySem.W.Frag) : Bool := clsB x K && decide (PySem.W.findIn K (.ref (He.ga K x)) "__class__" = some (some (.builtin "object.__class__"))) && decide (PySem.W.specialIn K (.builtin "object.__class__") "__get__" = some (some (.builtin "getset_descriptor.__get__"))) && decide (PySem.W.takesIn K (.builtin "object.__class__") = some true) && decide (PySem.W.mroIn K (He.ga K x) (.type "object") = some true)
theorem tyc_of (h : tycB x K = true) : TyC K (He.ga K x) := by
  unfold tycB at h
  simp only [Bool.and_eq_true, decide_eq_true_eq] at h
  obtain ⟨⟨⟨⟨h1, h2⟩, h3⟩, h4⟩, h5⟩ := h
  exact ⟨fun H a dx fs e => .base (.ins e (cls_of h1) h2 h3 h4 h5)⟩
def nfB (x : Str) (t : Value) (K : PySem.W.Frag) : Bool := PySem.W.notFirst K (He.ga K x) t
end
end L3

/-! ### text Me -/
namespace L3
open PySem PySem.Spec PyProof.Rows L2

/-! ### list(x), x a text too -/
theorem vals_signs : ∀ (cs : List Nat) (us : List Value), us.length = cs.length → (∀ (j : Nat) (u : Value), us[j]? = some u → ∃ (c : Nat) (t : Tok), cs[j]? = some c ∧ u = .str ⟨#[c]⟩ t) → Vals (cs.map fun c => V.str ⟨#[c]⟩) us
  | [], [], _, _ => .nil
  | [], _ :: _, h, _ => by simp at h
  | _ :: _, [], h, _ => by simp at h
  | c :: cs, u :: us, h, g => by
    obtain ⟨c', t, e1, e2⟩ := g 0 u rfl
    cases e1
    subst e2
    exact .cons ⟨t, rfl⟩ (vals_signs cs us (by simpa using h) fun j u hj => by simpa using g (j + 1) u (by simpa using hj))
theorem cr_listS {X : Cx} (hc : X.calm = true) : CallR X (.type "list") (fun xs H Q => ∃ z : Str, xs = [.str z] ∧ z.length ≤ sizeLine ∧ ∀ l, H l = none → Q (.ref l) (upd H l (.lst (z.cps.toList.map fun c => V.str ⟨#[c]⟩)))) := by
  intro pins s σ H xs us Q I r h
  obtain ⟨z, rfl, hz, q⟩ := h
  obtain ⟨u, rfl, t, rfl⟩ := vals1 r
  refine call_list_str (I.ok.hd hc) z t (hn := hz) fun h' tk acc n kp hS hacc => ?_
  refine ⟨.ref s.heap.objs.size, _, I.laid (a := s.heap.objs.size) (o := .lst (z.cps.toList.map fun c => V.str ⟨#[c]⟩)) (t' := tk) kp (Nat.le_refl _) ⟨?_, acc.toList, n, ?_, by simpa using hS⟩, rfl, q _ (I.hok.fresh (Nat.le_refl _))⟩
  · rw [List.length_map, Array.length_toList]; exact hz
  · refine vals_signs _ _ (by simp [hacc.1]) fun j u hj => ?_
    obtain ⟨c, t, h1, rfl⟩ := hacc.2 j u (by simpa using hj)
    exact ⟨c, t, by simpa using h1, rfl⟩
def bListA : List D → Store → Res D
  | [.str z], st => if z.length ≤ 1000000 then .ok (.loc st.length) (st ++ [.lst (z.cps.toList.map fun c => .str ⟨#[c]⟩)]) else .bad
  | xs, st => bList xs st
theorem RL_signs {K : PySem.W.Frag} {H : Hp} {ρ : Wo} : ∀ cs : List Nat, RL K H ρ (cs.map fun c => D.str ⟨#[c]⟩) (cs.map fun c => V.str ⟨#[c]⟩)
  | [] => rfl
  | c :: cs => ⟨_, _, rfl, rfl, RL_signs cs⟩
theorem tell_listA {X : Cx} {T : Tb} : TellN X T (fun xs H Q => (∃ z : Str, xs = [.str z] ∧ z.length ≤ sizeLine ∧ ∀ l, H l = none → Q (.ref l) (upd H l (.lst (z.cps.toList.map fun c => V.str ⟨#[c]⟩)))) ∨
    ∃ p ys, xs = [.ref p] ∧ (SqL X.K H p ys ∨ SqT X.K H p ys) ∧ ∀ l, H l = none → Q (.ref l) (upd H l (.lst ys))) bListA := by
  intro W σ H ρ st xs vs Q ok r h
  unfold bListA at h
  split at h
  · obtain ⟨v, rfl, rv⟩ := RL.one r
    cases rv
    split at h
    · rename_i hz
      exact .inl ⟨_, rfl, line1 hz, Post.newN ok (RL_signs _) h⟩
    · exact h.elim
  · exact .inr (tell_list _ _ _ _ _ _ _ _ ok r h)
theorem cr_listA {X : Cx} (hc : X.calm = true) : CallR X (.type "list") (fun xs H Q => (∃ z : Str, xs = [.str z] ∧ z.length ≤ sizeLine ∧ ∀ l, H l = none → Q (.ref l) (upd H l (.lst (z.cps.toList.map fun c => V.str ⟨#[c]⟩)))) ∨
    ∃ p ys, xs = [.ref p] ∧ (SqL X.K H p ys ∨ SqT X.K H p ys) ∧ ∀ l, H l = none → Q (.ref l) (upd H l (.lst ys))) := CallR.or (cr_listS hc) call_list_of
/-! ### several defs with code objects of their own within -/
def tabDB (xs : List (Str × Str)) (K : PySem.W.Frag) : Bool := decide ((xs.map fun x => tabP K (He.ga K x.1)).Nodup)
theorem nodup_eq {α β : Type} {f : α → β} : ∀ {l : List α}, (l.map f).Nodup → ∀ x ∈ l, ∀ y ∈ l, f x = f y → x = y
  | [], _, _, h, _, _, _ => by cases h
  | a :: l, hn, x, hx, y, hy, e => by
    rw [List.map_cons, List.nodup_cons] at hn
    rcases List.mem_cons.mp hx with zx | zx <;> rcases List.mem_cons.mp hy with zy | zy
    · rw [zx, zy]
    · exact (hn.1 (by rw [← zx, e]; exact List.mem_map.mpr ⟨y, zy, rfl⟩)).elim
    · exact (hn.1 (by rw [← zy, ← e]; exact List.mem_map.mpr ⟨x, zx, rfl⟩)).elim
    · exact nodup_eq hn.2 x zx y zy e
theorem tabs_u_of {xs : List (Str × Str)} {K : PySem.W.Frag} {nm : Str → Nat → Nat → Str} (h : tabDB xs K = true) : ∀ p ∈ xs.map (fun x => ((tabP K (He.ga K x.1), nm x.2) : NdefX.NTab)), ∀ q ∈ xs.map (fun x => ((tabP K (He.ga K x.1), nm x.2) : NdefX.NTab)), p.1 = q.1 → p.2 = q.2 := by
  intro p hp q hq e
  obtain ⟨x, hx, rfl⟩ := List.mem_map.mp hp
  obtain ⟨y, hy, rfl⟩ := List.mem_map.mp hq
  have := nodup_eq (of_decide_eq_true h) x hx y hy e
  rw [this]
end L3

/-! ### text Mf -/
namespace L3
open PySem PySem.Spec PyProof.Rows L2
theorem bv_sorted : bootBuiltins "sorted" = some (.builtin "sorted") := by decide +kernel
section
variable {X : Cx} {T : Tb} {W : WX} {e o : Expr} {me mo : EM} {mas : AM} {cpos apos : Pos}
theorem de_popAt (ho : DE X T W o mo) (ha : DA X T W [e] mas)
    (hbase : attributeBase o "pop" X.env (eval o X.env) = eval o X.env := by rfl)
    (hfew : ((backTo cpos (starEach [e] X.env)).all (fun x => !x.1) && (backToKw cpos (keywordEach [] X.env)).all (fun x => x.1.isSome)
      && decide ([e].length + ([] : List Keyword).length + (if ([] : List Keyword).isEmpty then 0 else 1) < 30)) = true := by rfl)
    (hline : (apos.endLine == cpos.line) = true := by rfl) (hs : starEach [e] X.env = (false, eval e X.env) :: starEach [] X.env := by rfl) :
    DE X T W (.Call (.Attribute o "pop" apos) [e] [] cpos) (eBM isLs dPopAt mo mas) :=
  de_bm ty_list tell_popAt PySem.F.plainAttrs_list PySem.F.slot_list_pop PySem.F.type_list_pop mt_popAt ho ha hbase hfew hline hs
end
def kitRB (a : String) (x : Str) (v : Bool) (K : PySem.W.Frag) : Bool := decide (PySem.W.kitOne K (.type a) (.ref (He.ga K x)) = some v)
def kitR2 (y : Str) (a : String) (v : Bool) (K : PySem.W.Frag) : Bool := decide (PySem.W.kitOne K (.ref (He.ga K y)) (.type a) = some v)
def kitRR (y x : Str) (v : Bool) (K : PySem.W.Frag) : Bool := decide (PySem.W.kitOne K (.ref (He.ga K y)) (.ref (He.ga K x)) = some v)
end L3
namespace L3
open PySem PySem.Spec PyProof.Rows L2
theorem tabs_nodup {l : List NdefX.NTab} (h : (l.map (·.1)).Nodup) : ∀ p ∈ l, ∀ q ∈ l, p.1 = q.1 → p.2 = q.2 := fun p hp q hq e => by rw [nodup_eq h p hp q hq e]
end L3
namespace L3
open PySem PySem.Spec PyProof.Rows L2
/-- list(x), a list that nobody changes -/
def bListZ : List D → Store → Res D
  | [.str z], st => if z.length ≤ 1000000 then .ok (.fl (z.cps.toList.map fun c => .str ⟨#[c]⟩)) st else .bad
  | [x], st => match sqOf x st with
    | some xs => .ok (.fl xs) st
    | none => .bad
  | _, _ => .bad
theorem tell_listZ {X : Cx} {T : Tb} : TellN X T (fun xs H Q => (∃ z : Str, xs = [.str z] ∧ z.length ≤ sizeLine ∧ ∀ l, H l = none → Q (.ref l) (upd H l (.lst (z.cps.toList.map fun c => V.str ⟨#[c]⟩)))) ∨
    ∃ p ys, xs = [.ref p] ∧ (SqL X.K H p ys ∨ SqT X.K H p ys) ∧ ∀ l, H l = none → Q (.ref l) (upd H l (.lst ys))) bListZ := by
  intro W σ H ρ st xs vs Q ok r h
  unfold bListZ at h
  split at h
  · obtain ⟨v, rfl, rv⟩ := RL.one r
    cases rv
    split at h
    · rename_i hz
      exact .inl ⟨_, rfl, line1 hz, Post.newL ok (RL_signs _) h⟩
    · exact h.elim
  · obtain ⟨v, rfl, rv⟩ := RL.one r
    split at h
    · rename_i ds e
      obtain ⟨a, ys, rfl, s, r1⟩ := sqAt ok rv e
      exact .inr ⟨a, ys, rfl, s, Post.newL ok r1 h⟩
    · exact h.elim
  · exact h.elim
end L3

/-! ### text Mg -/
namespace L3
open PySem PySem.Spec PyProof.Rows L2
section
variable {X : Cx} {T : Tb} {W : WX} {a b c e o i tg : Expr} {es : List Expr} {body : List Stmt} {ma mb mc me mo mi : EM} {mas : AM} {mt mu : TM} {m n : SM} {pos p1 p2 tpos : Pos}
/-! ### x op= e -/
def dIp (g : Int → Int → Int) (x y : D) (st : Store) : Res D := match x, y with
  | .int i, .int j => .ok (.int (g i j)) st
  | _, _ => .bad
theorem tell_ip {g : Int → Int → Int} : Tell2 X T (ipI g) (dIp g) := by
  intro W σ H ρ st x y v u Q ok rx ry h
  unfold dIp at h
  split at h
  · cases rx; cases ry
    exact ⟨_, _, rfl, rfl, h.ok ok rfl⟩
  · exact h.elim
def sAug (f : D → D → Store → Res D) (k : Nat) (me : EM) : SM := fun δ st => match δ[k]? with
  | some (some x) => sBind (me δ st) δ fun y st1 => sBind (f x y st1) δ fun z st2 => .nx (δ.set k (some z)) st2
  | _ => .bad
theorem ds_aug (k : Nat) {x : Str} {op : Operator} {r : TIp} {f : D → D → Store → Res D} (hN : X.N.Nodup) (ho : PIp X op r) (hf : Tell2 X T r f) (he : DE X T W e me) (hi : X.N[k]? = some x := by rfl) (hx : Loc X.env.scope x := by first | exact Or.inl rfl | exact Or.inr rfl)
    (hl : X.fn x = true ∨ X.env.scope.names.lookup x = some .local := by first | exact .inl rfl | exact .inr rfl) : DS X T W (.AugAssign (.Name x p1) op e pos) (sAug f k me) :=
  ⟨PS.imp (ps_aug hN hi hx he.pe ho hl) fun Dn σ H ⟨ρ, δ, st, ok, rs, h⟩ => by
    unfold sAug at h
    split at h
    · rename_i d ed
      obtain ⟨v, h1, h2⟩ := rs.at' _ _ ed
      refine ⟨v, h1, ρ, δ, st, ok, rs, PostS.bind h rs fun y st1 u H1 ρ1 g1 ok1 ry hh => ?_⟩
      refine hf W σ H1 ρ1 st1 d y v u _ ok1 (R.go g1 _ _ h2) ry (PostS.bind hh (rs.go g1) fun z st2 w H2 ρ2 g2 ok2 rz h3 => ?_)
      exact h3 _ H2 ρ2 (Go.refl _ _) ok2 (((rs.go g1).go g2).set rz)
    · exact h.elim⟩
theorem pget_list : PGet X (rIxL X.K) := by
  intro pins s σ H x y v u Q I rx ry h
  obtain ⟨p, xs, i, z, rfl, rfl, hq, he, q⟩ := h
  cases rx
  obtain ⟨t, rfl⟩ := ry
  obtain ⟨its, r, pl, hz⟩ := I.list hq
  obtain ⟨j, h1, h2, h3, h4, h5⟩ := atI_get he
  obtain ⟨w, ew, rw'⟩ := r.get h2
  have hl := r.length
  have hn := line63
  have fin : EP X pins σ Q w s := ⟨z, H, I, rw', q⟩
  by_cases h0 : 0 ≤ i
  · have hj : i.toNat = j := by
      rw [seqIndex_of h0 h5] at h1
      exact Option.some.inj h1
    exact wpAny_getItem_list pl.isList h0 (by omega) (by rw [hj]; simpa using ew) fin
  · have hj : (i + (its.toArray.size : Int)).toNat = j := by
      rw [seqIndex_neg (by omega) h4] at h1
      rw [List.size_toArray, ← hl]
      exact Option.some.inj h1
    exact wpAny_getItem_list_neg pl.isList (by omega) (by rw [List.size_toArray] <;> omega) (by omega) (by rw [hj]; simpa using ew) fin
/-- a changeable list's item -/
def dIxL (x y : D) (st : Store) : Res D := match x, y with
  | .loc n, .int i => match st[n]? with
    | some (.lst xs) => match atI xs i with
      | some d => .ok d st
      | none => .bad
    | _ => .bad
  | _, _ => .bad
theorem tell_ixL : Tell2 X T (rIxL X.K) dIxL := by
  intro W σ H ρ st x y v u Q ok rx ry h
  unfold dIxL at h
  split at h
  · rename_i n i
    cases ry
    split at h
    · rename_i xs q
      split at h
      · rename_i d e2
        obtain ⟨a, rfl, ha, ys, hy, r⟩ := locAt ok rx q
        obtain ⟨w, e3, rw'⟩ := atI_RL r e2
        exact ⟨a, ys, i, w, rfl, rfl, .of hy, e3, h.ok ok rw'⟩
      · exact h.elim
    · exact h.elim
  · exact h.elim
def sAugS (f : D → D → Store → Res D) (mo mi me : EM) : SM := fun δ st => sBind (mo δ st) δ fun x st1 => sBind (mi δ st1) δ fun i st2 => sBind (dIxL x i st2) δ fun z st3 => sBind (me δ st3) δ fun y st4 => sBind (f z y st4) δ fun q st5 => match dSetIx x i q st5 with
  | some st6 => .nx δ st6
  | none => .bad
theorem ds_augS {op : Operator} {r : TIp} {f : D → D → Store → Res D} (ho : PIp X op r) (hf : Tell2 X T r f) (hoo : DE X T W o mo) (hi : DE X T W i mi) (he : DE X T W e me)
    (ha : ∀ ov iv new, augStore i ov iv new = (do holding [new, ov, iv] (setItem ov iv new); release [new, ov, iv] []; pure .next) := by intros; rfl) : DS X T W (.AugAssign (.Subscript o i tpos) op e pos) (sAugS f mo mi me) :=
  ⟨PS.imp (ps_augS hoo.pe hi.pe pget_list he.pe ho set_list ha) fun Dn σ H ⟨ρ, δ, st, ok, rs, h⟩ => ⟨ρ, δ, st, ok, rs, PostS.bind h rs fun x st1 xv H1 ρ1 g1 ok1 rx h1 => ⟨ρ1, δ, st1, ok1, rs.go g1, PostS.bind h1 (rs.go g1) fun k st2 kv H2 ρ2 g2 ok2 rk h2 => by
    have rs2 := (rs.go g1).go g2
    have rx2 := R.go g2 _ _ rx
    refine tell_ixL W σ H2 ρ2 st2 x k xv kv _ ok2 rx2 rk (PostS.bind h2 rs2 fun z st3 zv H3 ρ3 g3 ok3 rz h3 => ?_)
    refine ⟨ρ3, δ, st3, ok3, rs2.go g3, PostS.bind h3 (rs2.go g3) fun y st4 yv H4 ρ4 g4 ok4 ry h4 => ?_⟩
    refine hf W σ H4 ρ4 st4 z y zv yv _ ok4 (R.go g4 _ _ rz) ry (PostS.bind h4 ((rs2.go g3).go g4) fun q st5 qv H5 ρ5 g5 ok5 rq h5 => ?_)
    have g25 := (g3.trans g4).trans g5
    have rs5 := rs2.go g25
    have rx5 := R.go g25 _ _ rx2
    have rk5 := R.go g25 _ _ rk
    split at h5
    · rename_i st6 e6
      unfold dSetIx at e6
      split at e6
      · rename_i n k'
        split at e6
        · rename_i xs q'
          split at e6
          · rename_i j ej
            cases e6
            cases rk5
            obtain ⟨a, rfl, ha, ys, hy, ry'⟩ := locAt ok5 rx5 q'
            have g := go_put (H := H5) (o := .lst (ys.set j qv)) ha ⟨_, hy⟩
            refine ⟨a, ys, k', j, rfl, rfl, hy, by rw [ry'.len]; exact ej, ?_⟩
            exact h5 σ _ ρ5 g (ok5.put ha q' ⟨_, upd_same, RL.set (R.go g _ _ rq) j (RL.go g _ _ ry')⟩) (rs5.go g)
          · cases e6
        · cases e6
      · cases e6
    · exact h5.elim⟩⟩⟩
/-! ### while -/
/-- at most k turns -/
def whN (t : TM) (m : SM) (n0 : Nat) : Nat → Sl → Store → Option SRes
  | 0, _, _ => none
  | k + 1, δ, st => match t δ st with
    | .ok true st1 => match m δ st1 with
      | .nx δ' st' => match tidy n0 δ' st' with
        | some (δ2, st2) => whN t m n0 k δ2 st2
        | none => none
      | .ct δ' st' => match tidy n0 δ' st' with
        | some (δ2, st2) => whN t m n0 k δ2 st2
        | none => none
      | .bk δ' st' => some (.nx δ' st')
      | r => some r
    | .ok false st1 => some (.nx δ st1)
    | .err C p st1 => some (.err C p δ st1)
    | .bad => none
open Classical in
noncomputable def sWhile (t : TM) (m : SM) : SM := fun δ st => if h : ∃ k r, whN t m st.length k δ st = some r then h.choose_spec.choose else .bad
theorem whN_more {t : TM} {m : SM} {n0 : Nat} : ∀ (k : Nat) (δ : Sl) (st : Store) (r : SRes), whN t m n0 k δ st = some r → whN t m n0 (k + 1) δ st = some r
  | 0, _, _, _, h => by cases h
  | k + 1, δ, st, r, h => by
    rw [whN] at h ⊢
    split at h
    · rename_i st1 e1
      split at h
      · split at h
        · exact whN_more k _ _ _ h
        · cases h
      · split at h
        · exact whN_more k _ _ _ h
        · cases h
      · exact h
      · exact h
    · exact h
    · exact h
    · cases h
theorem whN_le {t : TM} {m : SM} {n0 : Nat} {k j : Nat} (h : k ≤ j) {δ : Sl} {st : Store} {r : SRes} (e : whN t m n0 k δ st = some r) : whN t m n0 j δ st = some r := by
  induction h with
  | refl => exact e
  | step _ ih => exact whN_more _ _ _ _ ih
theorem sWhile_eq {t : TM} {m : SM} {k : Nat} {δ : Sl} {st : Store} {r : SRes} (e : whN t m st.length k δ st = some r) : sWhile t m δ st = r := by
  have h : ∃ k r, whN t m st.length k δ st = some r := ⟨k, r, e⟩
  unfold sWhile
  rw [dif_pos h]
  have q := h.choose_spec.choose_spec
  have a := whN_le (Nat.le_max_left k h.choose) e
  have b := whN_le (Nat.le_max_right k h.choose) q
  rw [a] at b
  exact (Option.some.inj b).symm
theorem ds_while (hp : PassesOwn (model X.prog X.w) X.A X.env X.xe) (hc : DT X T W c mt) (hb : DB X T W body m) : DS X T W (.While c body [] pos) (sWhile mt m) := by
  refine ⟨PS.imp (ps_while hp hc.pt hb.ps) fun Dn σ H ⟨ρ, δ, st, ok, rs, h⟩ => ?_⟩
  by_cases hx : ∃ k r, whN mt m st.length k δ st = some r
  rotate_left
  · unfold sWhile at h; rw [dif_neg hx] at h; exact h.elim
  obtain ⟨k, r, e⟩ := hx
  rw [sWhile_eq e] at h
  refine ⟨fun j σ' H' => ∃ ρ' δ' st' r', Ok X.K T H' ρ' st' ∧ RS X.K H' ρ' δ' σ' ∧ Go H ρ H' ρ' ∧ ρ'.m.length = st.length ∧ whN mt m st.length j δ' st' = some r' ∧ PostS X.K T W H' ρ' r' Dn, ⟨k, ρ, δ, st, r, ok, rs, Go.refl _ _, ok.len, e, h⟩, ?_⟩
  rintro j σ' H' ⟨ρ', δ', st', r', ok', rs', g', hl', e', h'⟩
  cases j with
  | zero => cases e'
  | succ j =>
    rw [whN] at e'
    refine ⟨ρ', δ', st', ok', rs', ?_⟩
    cases q : mt δ' st' with
    | bad => rw [q] at e'; cases e'
    | err C p st1 =>
      rw [q] at e'
      cases e'
      intro d H2 ρ2 g2 ok2 pr
      exact h' σ' d H2 ρ2 g2 ok2 (rs'.go g2) pr
    | ok bb st1 =>
      rw [q] at e'
      intro b' H2 ρ2 g2 ok2 eb
      subst eb
      cases bb with
      | false =>
        cases e'
        rw [if_neg (by simp)]
        exact h' σ' H2 ρ2 g2 ok2 (rs'.go g2)
      | true =>
        rw [if_pos rfl]
        dsimp only at e'
        refine ⟨fun σ3 H3 => ∃ ρ3 δ3 st3 r3, Ok X.K T H3 ρ3 st3 ∧ RS X.K H3 ρ3 δ3 σ3 ∧ Go H ρ H3 ρ3 ∧ ρ3.m.length = st.length ∧ whN mt m st.length j δ3 st3 = some r3 ∧ PostS X.K T W H3 ρ3 r3 Dn, fun σ3 H3 hh => ⟨j, Nat.lt_succ_self _, hh⟩, ρ2, δ', st1, ok2, rs'.go g2, ?_⟩
        have h2 := PostS.go h' g2
        have again : ∀ {δ3 : Sl} {st3 : Store}, (match tidy st.length δ3 st3 with | some (δ2, st2) => whN mt m st.length j δ2 st2 | none => none) = some r' → ∀ σ3 H3 ρ3, Go H2 ρ2 H3 ρ3 → Ok X.K T H3 ρ3 st3 → RS X.K H3 ρ3 δ3 σ3 →
            ∃ ρ3 δ3 st3 r3, Ok X.K T H3 ρ3 st3 ∧ RS X.K H3 ρ3 δ3 σ3 ∧ Go H ρ H3 ρ3 ∧ ρ3.m.length = st.length ∧ whN mt m st.length j δ3 st3 = some r3 ∧ PostS X.K T W H3 ρ3 r3 Dn := fun {δ3 st3} hh σ3 H3 ρ3 g3 ok3 rs3 => by
          split at hh
          · rename_i δ4 st4 e4
            rw [← hl'] at e4
            obtain ⟨ρ4, g4, l4, ok4, rs4⟩ := tidy_ok ok'.al (g2.trans g3) ok3 rs3 e4
            exact ⟨ρ4, δ4, st4, r', ok4, rs4, g'.trans g4, l4.trans hl', hh, PostS.go h' g4⟩
          · cases hh
        cases q2 : m δ' st1 with
        | nx δ3 st3 => rw [q2] at e'; exact again e'
        | ct δ3 st3 => rw [q2] at e'; exact again e'
        | bk δ3 st3 => rw [q2] at e'; cases e'; exact h2
        | rt d st3 => rw [q2] at e'; cases e'; exact h2
        | err C p δ3 st3 => rw [q2] at e'; cases e'; exact h2
        | bad => rw [q2] at e'; cases e'; exact h2.elim
end
end L3

/-! ### text Mh -/
namespace L3
open PySem PySem.Spec PyProof.Rows L2
section
variable {X : Cx} {T : Tb} {W : WX} {a b c e o i tg : Expr} {es : List Expr} {body : List Stmt} {ma mb mc me mo mi : EM} {mas : AM} {mt mu : TM} {m n : SM} {pos p p1 p2 tpos apos cpos : Pos}
/-! ### list(range(..)), tuple(range(..)) -/
theorem RL_range {K : PySem.W.Frag} {H : Hp} {ρ : Wo} {a b : Int} : RL K H ρ (rangeD a (b - a).toNat) (rgV a b) := by
  unfold rangeD rgV
  generalize List.range (b - a).toNat = l
  induction l with
  | nil => rfl
  | cons x l ih => exact ⟨_, _, rfl, rfl, ih⟩
def rgOk (a b : Int) : Prop := -(2 ^ 62) ≤ a ∧ a < 2 ^ 62 ∧ -(2 ^ 62) ≤ b ∧ b < 2 ^ 62 ∧ (b - a).toNat ≤ 1000000
theorem rgOk_of {a b : Int} (h : rgOk a b) : RgOk a b := ⟨h.1, h.2.1, h.2.2.1, h.2.2.2.1, Nat.le_trans h.2.2.2.2 (by decide)⟩
open Classical in
noncomputable def eRg1 (mk : List D → Store → Res D) (ma : EM) : EM := fun δ st => (ma δ st).bind fun x st1 => match x with
  | .int n => if rgOk 0 n then mk (rangeD 0 n.toNat) st1 else .bad
  | _ => .bad
open Classical in
noncomputable def eRg2 (mk : List D → Store → Res D) (ma mb : EM) : EM := fun δ st => (ma δ st).bind fun x st1 => (mb δ st1).bind fun y st2 => match x, y with
  | .int a, .int b => if rgOk a b then mk (rangeD a (b - a).toNat) st2 else .bad
  | _, _ => .bad
def mkFl (ds : List D) (st : Store) : Res D := .ok (.fl ds) st
def mkTup (ds : List D) (st : Store) : Res D := .ok (.tup ds) st
def mkLoc (ds : List D) (st : Store) : Res D := .ok (.loc st.length) (st ++ [.lst ds])
theorem de_listRg1 (hc : X.calm = true) (hm : X.mg "list" = none) (hm2 : X.mg "range" = none) (ha : DE X T W a ma) (hg : Gl X "list" := by rfl) (hg2 : Gl X "range" := by rfl)
    (na : starEach [.Call (.Name "range" p1) [a] [] p2] X.env = (false, eval (.Call (.Name "range" p1) [a] [] p2) X.env) :: starEach [] X.env := by rfl) (na2 : starEach [a] X.env = (false, eval a X.env) :: starEach [] X.env := by rfl) :
    DE X T W (.Call (.Name "list" p) [.Call (.Name "range" p1) [a] [] p2] [] pos) (eRg1 mkFl ma) :=
  ⟨PE.imp (pe_listRg hc hg hm (prg_1 hg2 hm2 ha.pe na2) na) fun σ H Q ⟨ρ, δ, st, ok, rs, h⟩ => ⟨ρ, δ, st, ok, rs, Post.bind h fun x st1 v H1 ρ1 g1 ok1 rx h1 => by
    split at h1
    · rename_i n
      split at h1
      · rename_i hn
        cases rx
        exact ⟨n, rfl, rgOk_of hn, Post.newL ok1 (by have := RL_range (K := X.K) (H := H1) (ρ := ρ1) (a := 0) (b := n); rwa [show (n - 0 : Int) = n by omega] at this) h1⟩
      · exact h1.elim
    · exact h1.elim⟩⟩
theorem de_listRg2 (hc : X.calm = true) (hm : X.mg "list" = none) (hm2 : X.mg "range" = none) (ha : DE X T W a ma) (hb : DE X T W b mb) (hg : Gl X "list" := by rfl) (hg2 : Gl X "range" := by rfl)
    (na : starEach [.Call (.Name "range" p1) [a, b] [] p2] X.env = (false, eval (.Call (.Name "range" p1) [a, b] [] p2) X.env) :: starEach [] X.env := by rfl) (na2 : starEach [a, b] X.env = (false, eval a X.env) :: starEach [b] X.env := by rfl) (na3 : starEach [b] X.env = (false, eval b X.env) :: starEach [] X.env := by rfl) (hp : (backTo p2 (starEach [b] X.env)).any (·.1) = false := by rfl) :
    DE X T W (.Call (.Name "list" p) [.Call (.Name "range" p1) [a, b] [] p2] [] pos) (eRg2 mkFl ma mb) :=
  ⟨PE.imp (pe_listRg hc hg hm (prg_2 hg2 hm2 ha.pe hb.pe na2 na3 hp) na) fun σ H Q ⟨ρ, δ, st, ok, rs, h⟩ => ⟨ρ, δ, st, ok, rs, Post.bind h fun x st1 v H1 ρ1 g1 ok1 rx h1 => ⟨ρ1, δ, st1, ok1, rs.go g1, Post.bind h1 fun y st2 u H2 ρ2 g2 ok2 ry h2 => by
    split at h2
    · rename_i k n
      split at h2
      · rename_i hn
        cases rx
        cases ry
        exact ⟨k, n, rfl, rfl, rgOk_of hn, Post.newL ok2 RL_range h2⟩
      · exact h2.elim
    · exact h2.elim⟩⟩⟩
theorem de_tupRg1 (hc : X.calm = true) (hm : X.mg "tuple" = none) (hm2 : X.mg "range" = none) (ha : DE X T W a ma) (hg : Gl X "tuple" := by rfl) (hg2 : Gl X "range" := by rfl)
    (na : starEach [.Call (.Name "range" p1) [a] [] p2] X.env = (false, eval (.Call (.Name "range" p1) [a] [] p2) X.env) :: starEach [] X.env := by rfl) (na2 : starEach [a] X.env = (false, eval a X.env) :: starEach [] X.env := by rfl) :
    DE X T W (.Call (.Name "tuple" p) [.Call (.Name "range" p1) [a] [] p2] [] pos) (eRg1 mkTup ma) :=
  ⟨PE.imp (pe_tupRg hc hg hm (prg_1 hg2 hm2 ha.pe na2) na) fun σ H Q ⟨ρ, δ, st, ok, rs, h⟩ => ⟨ρ, δ, st, ok, rs, Post.bind h fun x st1 v H1 ρ1 g1 ok1 rx h1 => by
    split at h1
    · rename_i n
      split at h1
      · rename_i hn
        cases rx
        exact ⟨n, rfl, rgOk_of hn, Post.newT ok1 (by have := RL_range (K := X.K) (H := H1) (ρ := ρ1) (a := 0) (b := n); rwa [show (n - 0 : Int) = n by omega] at this) h1⟩
      · exact h1.elim
    · exact h1.elim⟩⟩
theorem de_tupRg2 (hc : X.calm = true) (hm : X.mg "tuple" = none) (hm2 : X.mg "range" = none) (ha : DE X T W a ma) (hb : DE X T W b mb) (hg : Gl X "tuple" := by rfl) (hg2 : Gl X "range" := by rfl)
    (na : starEach [.Call (.Name "range" p1) [a, b] [] p2] X.env = (false, eval (.Call (.Name "range" p1) [a, b] [] p2) X.env) :: starEach [] X.env := by rfl) (na2 : starEach [a, b] X.env = (false, eval a X.env) :: starEach [b] X.env := by rfl) (na3 : starEach [b] X.env = (false, eval b X.env) :: starEach [] X.env := by rfl) (hp : (backTo p2 (starEach [b] X.env)).any (·.1) = false := by rfl) :
    DE X T W (.Call (.Name "tuple" p) [.Call (.Name "range" p1) [a, b] [] p2] [] pos) (eRg2 mkTup ma mb) :=
  ⟨PE.imp (pe_tupRg hc hg hm (prg_2 hg2 hm2 ha.pe hb.pe na2 na3 hp) na) fun σ H Q ⟨ρ, δ, st, ok, rs, h⟩ => ⟨ρ, δ, st, ok, rs, Post.bind h fun x st1 v H1 ρ1 g1 ok1 rx h1 => ⟨ρ1, δ, st1, ok1, rs.go g1, Post.bind h1 fun y st2 u H2 ρ2 g2 ok2 ry h2 => by
    split at h2
    · rename_i k n
      split at h2
      · rename_i hn
        cases rx
        cases ry
        exact ⟨k, n, rfl, rfl, rgOk_of hn, Post.newT ok2 RL_range h2⟩
      · exact h2.elim
    · exact h2.elim⟩⟩⟩
theorem de_listRgN1 (hc : X.calm = true) (hm : X.mg "list" = none) (hm2 : X.mg "range" = none) (ha : DE X T W a ma) (hg : Gl X "list" := by rfl) (hg2 : Gl X "range" := by rfl)
    (na : starEach [.Call (.Name "range" p1) [a] [] p2] X.env = (false, eval (.Call (.Name "range" p1) [a] [] p2) X.env) :: starEach [] X.env := by rfl) (na2 : starEach [a] X.env = (false, eval a X.env) :: starEach [] X.env := by rfl) :
    DE X T W (.Call (.Name "list" p) [.Call (.Name "range" p1) [a] [] p2] [] pos) (eRg1 mkLoc ma) :=
  ⟨PE.imp (pe_listRg hc hg hm (prg_1 hg2 hm2 ha.pe na2) na) fun σ H Q ⟨ρ, δ, st, ok, rs, h⟩ => ⟨ρ, δ, st, ok, rs, Post.bind h fun x st1 v H1 ρ1 g1 ok1 rx h1 => by
    split at h1
    · rename_i n
      split at h1
      · rename_i hn
        cases rx
        exact ⟨n, rfl, rgOk_of hn, Post.newN ok1 (by have := RL_range (K := X.K) (H := H1) (ρ := ρ1) (a := 0) (b := n); rwa [show (n - 0 : Int) = n by omega] at this) h1⟩
      · exact h1.elim
    · exact h1.elim⟩⟩
theorem de_listRgN2 (hc : X.calm = true) (hm : X.mg "list" = none) (hm2 : X.mg "range" = none) (ha : DE X T W a ma) (hb : DE X T W b mb) (hg : Gl X "list" := by rfl) (hg2 : Gl X "range" := by rfl)
    (na : starEach [.Call (.Name "range" p1) [a, b] [] p2] X.env = (false, eval (.Call (.Name "range" p1) [a, b] [] p2) X.env) :: starEach [] X.env := by rfl) (na2 : starEach [a, b] X.env = (false, eval a X.env) :: starEach [b] X.env := by rfl) (na3 : starEach [b] X.env = (false, eval b X.env) :: starEach [] X.env := by rfl) (hp : (backTo p2 (starEach [b] X.env)).any (·.1) = false := by rfl) :
    DE X T W (.Call (.Name "list" p) [.Call (.Name "range" p1) [a, b] [] p2] [] pos) (eRg2 mkLoc ma mb) :=
  ⟨PE.imp (pe_listRg hc hg hm (prg_2 hg2 hm2 ha.pe hb.pe na2 na3 hp) na) fun σ H Q ⟨ρ, δ, st, ok, rs, h⟩ => ⟨ρ, δ, st, ok, rs, Post.bind h fun x st1 v H1 ρ1 g1 ok1 rx h1 => ⟨ρ1, δ, st1, ok1, rs.go g1, Post.bind h1 fun y st2 u H2 ρ2 g2 ok2 ry h2 => by
    split at h2
    · rename_i k n
      split at h2
      · rename_i hn
        cases rx
        cases ry
        exact ⟨k, n, rfl, rfl, rgOk_of hn, Post.newN ok2 RL_range h2⟩
      · exact h2.elim
    · exact h2.elim⟩⟩⟩
theorem ds_brk : DS X T W (.Break pos) sBrk := ⟨PS.imp ps_break fun Dn σ H ⟨ρ, δ, st, ok, rs, h⟩ => h σ H ρ (Go.refl _ _) ok rs⟩
theorem ds_cnt : DS X T W (.Continue pos) sCnt := ⟨PS.imp ps_continue fun Dn σ H ⟨ρ, δ, st, ok, rs, h⟩ => h σ H ρ (Go.refl _ _) ok rs⟩
/-! ### sep.join(texts) -/
def strsOf : List D → Option (List Str)
  | [] => some []
  | .str x :: r => (strsOf r).map (x :: ·)
  | _ => none
theorem strsOf_ok {K : PySem.W.Frag} {H : Hp} {ρ : Wo} : ∀ {ds : List D} {xs : List Str} {vs : List V}, strsOf ds = some xs → RL K H ρ ds vs → vs = xs.map V.str
  | [], _, _, e, h => by cases e; cases h; rfl
  | d :: ds, xs, _, e, ⟨v, r, e1, h1, h2⟩ => by
    subst e1
    cases d with
    | str x =>
      simp only [strsOf, Option.map_eq_some_iff] at e
      obtain ⟨ys, e2, rfl⟩ := e
      cases h1
      rw [strsOf_ok e2 h2]
      rfl
    | _ => cases e
def dJoin (x : D) (xs : List D) (st : Store) : Res D := match x, xs with
  | .str a, [y] => match sqOf y st with
    | some ds => match strsOf ds with
      | some zs => if (zs.map (·.length)).sum + zs.length * a.length ≤ 1000000 then .ok (.str (Txt.join a zs)) st else .bad
      | none => .bad
    | none => .bad
  | _, _ => .bad
theorem tell_join : TellM X T (fun x xs H Q => ∃ a p, ∃ ys : List Str, x = .str a ∧ xs = [.ref p] ∧ (SqL X.K H p (ys.map V.str) ∨ SqT X.K H p (ys.map V.str)) ∧
    (ys.map (·.length)).sum + ys.length * a.length ≤ 16777216 ∧ Q (.str (Txt.join a ys)) H) dJoin := fun W σ H ρ st x v xs vs Q ok rx rxs h => by
  unfold dJoin at h
  split at h
  · rename_i z y
    cases rx
    obtain ⟨u, rfl, ru⟩ := RL.one rxs
    split at h
    · rename_i ds e1
      split at h
      · rename_i zs e2
        split at h
        · rename_i hz
          obtain ⟨p, ws, rfl, s, r⟩ := sqAt ok ru e1
          obtain rfl := strsOf_ok e2 r
          exact ⟨_, p, zs, rfl, rfl, s, Nat.le_trans hz (by decide), h.ok ok rfl⟩
        · exact h.elim
      · exact h.elim
    · exact h.elim
  · exact h.elim
theorem de_join (ho : DE X T W o mo) (ha : DA X T W [e] mas)
    (hbase : attributeBase o "join" X.env (eval o X.env) = eval o X.env := by rfl)
    (hfew : ((backTo cpos (starEach [e] X.env)).all (fun x => !x.1) && (backToKw cpos (keywordEach [] X.env)).all (fun x => x.1.isSome)
      && decide ([e].length + ([] : List Keyword).length + (if ([] : List Keyword).isEmpty then 0 else 1) < 30)) = true := by rfl)
    (hline : (apos.endLine == cpos.line) = true := by rfl) (hs : starEach [e] X.env = (false, eval e X.env) :: starEach [] X.env := by rfl) :
    DE X T W (.Call (.Attribute o "join" apos) [e] [] cpos) (eBM isStD dJoin mo mas) :=
  de_bm ty_str tell_join PySem.F.plainAttrs_str PySem.F.slot_str_join PySem.F.type_str_join mt_join ho ha hbase hfew hline hs
end
end L3

/-! ### text Mi -/
namespace L3
open PySem PySem.Spec PyProof.Rows L2
section
variable {X : Cx} {T : Tb} {W : WX} {a b c e o : Expr} {mas : AM} {pos : Pos}
/-! ### a, b, c = x, y, z -/
def sPar3 (i j l : Nat) (mas : AM) : SM := fun δ st => sBind (mas δ st) δ fun ds st1 => match ds with
  | [d, d', d''] => .nx (((δ.set i (some d)).set j (some d')).set l (some d'')) st1
  | _ => .bad
theorem ds_par3 {i j l : Nat} {x y z : Str} {px py pz pt : Pos} {kt k2 : Nat} {pt2 : Pos} (hc : X.calm = true) (hN : X.N.Nodup) (ha : DA X T W [a, b, c] mas) (hi : X.N[i]? = some x := by rfl) (hj : X.N[j]? = some y := by rfl) (hl : X.N[l]? = some z := by rfl) (hij : i ≠ j := by decide) (hil : i ≠ l := by decide) (hjl : j ≠ l := by decide)
    (hx : X.env.scope.names.lookup x = some .local := by rfl) (hy : X.env.scope.names.lookup y = some .local := by rfl) (hz : X.env.scope.names.lookup z = some .local := by rfl)
    (hw : swappedStores [.Tuple [.Name x px, .Name y py, .Name z pz] kt pt] (.Tuple [a, b, c] k2 pt2) X.env = pure (some [x, y, z]) := by rfl)
    (hs : swapsWithSole [.Tuple [.Name x px, .Name y py, .Name z pz] kt pt] (.Tuple [a, b, c] k2 pt2) pos.line X.env = pure false := by rfl) :
    DS X T W (.Assign [.Tuple [.Name x px, .Name y py, .Name z pz] kt pt] (.Tuple [a, b, c] k2 pt2) pos) (sPar3 i j l mas) :=
  ⟨PS.imp (ps_par3 hc hN hi hj hl hij hil hjl hx hy hz ha.pa hw hs) fun D σ H ⟨ρ, δ, st, ok, rs, h⟩ => ⟨ρ, δ, st, ok, rs, PostS.bind h rs fun ds st1 vs H1 ρ1 g1 ok1 rx h1 => by
    split at h1
    · obtain ⟨v, u, w, rfl, r1, r2, r3⟩ := RL.three rx
      exact ⟨v, u, w, rfl, h1 _ H1 ρ1 (Go.refl _ _) ok1 ((((rs.go g1).set r1).set r2).set r3)⟩
    · exact h1.elim⟩⟩
end
end L3

/-! ### text Mj -/
namespace L3
theorem fm_congr0 {α β : Type} {f g : α → Option β} : ∀ {l : List α}, (∀ x ∈ l, f x = g x) → l.filterMap f = l.filterMap g
  | [], _ => rfl
  | a :: l, h => by rw [List.filterMap_cons, List.filterMap_cons, h a List.mem_cons_self, fm_congr0 fun x hx => h x (List.mem_cons_of_mem _ hx)]
end L3
namespace HT
open PySem PySem.Spec PyProof.Rows
section
variable {prog : Program} {w : World} {A : Around} {E : Value → Shared → Prop} {s : Shared}
theorem sliceApplied_rev {sl : Addr} {vs : Value} {n : Nat} {Q : Int × Int × Nat → Shared → Prop} (hs : s.heap.IsSliceOf sl .none .none vs) (ps : IsPart vs (some (-1)))
    (h : Q ((n : Int) - 1, -1, n) s) : wpAny (model prog w) A (Builtin.Slice.sliceApplied (.ref sl) (pure (n : Int))) Q E s := by
  obtain ⟨os, hos, hcs, hds⟩ := id hs
  unfold Builtin.Slice.sliceApplied Builtin.Slice.sliceFields
  refine wpAny_bind (wpAny_bind (wpAny_field hos hds (x := .none) rfl (wpAny_bind (wpAny_field hos hds (x := .none) rfl (wpAny_bind (wpAny_field hos hds (x := vs) rfl (wpAny_pure ?_)))))))
  refine wpAny_bind (slicePart_ ps ?_)
  show wpAny _ _ (if ((-1 : Int) == 0) = true then _ else _) _ _ s
  rw [if_neg (by decide)]
  refine wpAny_bind (slicePart_ .none (wpAny_bind (slicePart_ .none (wpAny_bind (wpAny_pure ?_)))))
  have e : Builtin.Slice.sliceAdjust none none (-1) (n : Int) = ((n : Int) - 1, -1) := by
    unfold Builtin.Slice.sliceAdjust
    simp
  have e2 : Builtin.Slice.slicePlaces ((n : Int) - 1) (-1) (-1) = n := by
    unfold Builtin.Slice.slicePlaces
    have h1 : ¬ ((-1 : Int) > 0) := by decide
    simp only [h1, if_false]
    by_cases h : n = 0
    · subst h; simp
    · rw [if_pos (by omega)]
      simp
  show wpAny _ _ (match Builtin.Slice.sliceAdjust none none (-1) (n : Int) with | (lo, hi) => pure (lo, (-1 : Int), Builtin.Slice.slicePlaces lo hi (-1))) _ _ s
  rw [e]
  show wpAny _ _ (pure ((n : Int) - 1, (-1 : Int), Builtin.Slice.slicePlaces ((n : Int) - 1) (-1) (-1))) _ _ s
  rw [e2]
  exact wpAny_pure h
theorem pick_rev (xs : Array Value) : ((List.range xs.size).filterMap fun (k : Nat) => xs[((xs.size : Int) - 1 + (k : Int) * (-1)).toNat]?).toArray = xs.toList.reverse.toArray := by
  rw [← PySem.W.krv_pick xs]
  unfold slicePick
  rw [show sliceBounds none none (some (-1)) xs.size = ((xs.size : Int) - 1, -1, -1) by simp [sliceBounds]]
  show _ = ((sliceRange ((xs.size : Int) - 1) (-1) (-1)).filterMap (xs[·]?)).toArray
  rw [PySem.W.krv_sliceRange, List.filterMap_map]
  congr 1
  apply L3.fm_congr0
  intro k hk
  have hk : k < xs.size := by simpa using hk
  simp only [Function.comp]
  rw [show ((xs.size : Int) - 1 + (k : Int) * (-1)).toNat = xs.size - 1 - k by omega]
theorem getItem_tuple_rev {t sl : Addr} {items : Array Value} {vs : Value} {Q : Value → Shared → Prop} (ht : IsTup s.heap t items) (hs : s.heap.IsSliceOf sl .none .none vs) (ps : IsPart vs (some (-1)))
    (h : Q (.ref s.heap.objs.size) { s with heap := s.heap.push { cls := .type "tuple", data := .seq items.toList.reverse.toArray } })
    (hsz : items.size ≤ sizeLine) : wpAny (model prog w) A (getItem (.ref t) (.ref sl)) Q E s := by
  have htake : sizeOk (.seq items.toList.reverse.toArray) := by
    show items.toList.reverse.toArray.size ≤ sizeLine
    simpa using hsz
  obtain ⟨os, hos, hcs, hds⟩ := id hs
  have hTs : s.TypeIs (.ref sl) "slice" := ⟨os, hos, hcs⟩
  unfold getItem
  try with_reducible refine wpAny_holding ?_
  first | refine wpAny_bind (wpAny_pure ?_) | skip
  refine wpAny_bind (wpAny_sequenceKey ht.typeIs (by decide) ?_)
  refine wpAny_bind (wpAny_callSpecial?_slot (name := Str.ofString "__getitem__") ht.typeIs PyProof.Rows.slot_tuple_getitem
    (wpAny_call_entry PyProof.Rows.slot_tuple_getitem ht.typeIs entry_tuple_getitem ?_ (args_tuple_getitem _ _)))
  show wpAny _ _ (Builtin.Tuple.tupleItemsOf (.ref t) >>= _) _ _ s
  refine wpAny_bind (tupleItemsOf_ ht ?_)
  refine wpAny_bind (wpAny_typeOf hTs ?_)
  rw [if_pos (by decide)]
  refine wpAny_bind (sliceApplied_rev hs ps ?_)
  have hno : ¬ ((((items.size : Int) - 1) == 0 && (-1 : Int) == 1 && items.size == items.size) = true) := by simp
  show wpAny _ _ (if (((items.size : Int) - 1) == 0 && (-1 : Int) == 1 && items.size == items.size) = true then _ else _) _ _ s
  rw [if_neg hno, pick_rev]
  first
    | exact wpAny_bind (m := Builtin.Tuple.tupleExact _) (wpAny_newObj_type (wpAny_pure ⟨_, rfl, wpAny_pure h⟩) htake)
    | exact wpAny_bind (m := Builtin.Tuple.tupleExact _) (wpAny_newObj_type (wpAny_bind (wpAny_pure (wpAny_pure ⟨_, rfl, wpAny_pure h⟩))) htake)
    | exact wpAny_bind (wpAny_bind (m := Builtin.Tuple.tupleExact _) (wpAny_newObj_type (wpAny_pure (wpAny_pure ⟨_, rfl, wpAny_pure h⟩)) htake))
    | exact wpAny_bind (wpAny_bind (m := Builtin.Tuple.tupleExact _) (wpAny_newObj_type (wpAny_pure ⟨_, rfl, wpAny_pure h⟩) htake))
end
end HT
namespace L3
open PySem PySem.Spec PyProof.Rows L2
section
variable {X : Cx} {T : Tb} {W : WX} {e : Expr} {me : EM}
def tRevT (K : PySem.W.Frag) (te : TE) : TE := fun σ H Q => te σ H fun x H1 => ∃ a xs, x = .ref a ∧ SqT K H1 a xs ∧ ∀ p, H1 p = none → Q (.ref p) (upd H1 p (.tup xs.reverse))
theorem pe_revT {te : TE} {k : Nat} {p1 p2 p3 pos : Pos} (he : PE X e te) : PE X (.Subscript e (.Slice none none (some (.UnaryOp .USub (.Constant (.int 1) k p1) p2)) p3) pos) (tRevT X.K te) := by
  refine ⟨fun pins s σ H Q I h => ?_⟩
  refine Subscript_ (thn (he.run pins s σ H _ I h) fun v s1 ⟨x, H1, I1, r1, q1⟩ => ?_)
  obtain ⟨a, xs, ex, hx, q⟩ := q1
  subst ex
  cases r1
  have hst : PO X (some (.UnaryOp .USub (.Constant (.int 1) k p1) p2)) (tPart (tUn (rU fun i => .int (-i)) (tC (.int 1)))) := po_some (pe_un un_neg pe_int)
  refine wpAny_Slice (thn (po_none.run pins s1 σ H1 (fun o H2 => o = none ∧ H2 = H1) I1 ⟨rfl, rfl⟩) fun vl s2 ⟨l, H2, I2, pl, el, e2⟩ => ?_)
  subst el e2
  refine thn (po_none.run pins s2 σ H2 (fun o H3 => o = none ∧ H3 = H2) I2 ⟨rfl, rfl⟩) fun vu s3 ⟨u, H3, I3, pu, eu, e3⟩ => ?_
  subst eu e3
  refine thn (hst.run pins s3 σ H3 (fun o H4 => o = some (-1) ∧ H4 = H3) I3 ⟨1, rfl, -1, rfl, rfl, rfl⟩) fun vs s4 ⟨o, H4, I4, ps, eo, e4⟩ => ?_
  subst eo e4
  have I5 : Inv X pins σ H4 { s4 with heap := s4.heap.push { cls := .type "slice", data := .fields #[vl, vu, vs] } } := I4.kept (t' := s4.toks) fun b ob q => Heap.get?_push_of_some _ q
  obtain ⟨its, r, ht, hz⟩ := I5.tuple hx
  have hlen := r.length
  cases pl
  cases pu
  show wpAny (model X.prog X.w) X.A (subscriptTail e (.Slice none none (some (.UnaryOp .USub (.Constant (.int 1) k p1) p2)) p3) (.ref a) (.ref s4.heap.objs.size)) (EP X pins σ Q) X.xe { s4 with heap := s4.heap.push { cls := .type "slice", data := .fields #[.none, .none, vs] } }
  refine tail_any (ops := [.ref a, .ref s4.heap.objs.size]) ht.typeIs (PyProof.Rows.slot_tuple_getitem.lookup) ?_ (by with_unfolding_all rfl)
  refine HT.getItem_tuple_rev ht (Heap.IsSliceOf.new _ .none .none vs) ps ?_ (by rw [List.size_toArray]; omega)
  refine ⟨.ref _, _, I5.laid (t' := s4.toks) (o := .tup xs.reverse) (fun b ob q => Heap.get?_push_of_some _ q) (Nat.le_refl _) ?_, rfl, q _ (I5.hok.fresh (Nat.le_refl _))⟩
  exact ⟨by rw [List.length_reverse]; exact hz, _, r.reverse, IsTup.new _ _⟩
end
end L3
namespace L3
open PySem PySem.Spec PyProof.Rows L2
section
variable {X : Cx} {T : Tb} {W : WX} {e : Expr} {me : EM}
theorem RL.rev {K : PySem.W.Frag} {H : Hp} {ρ : Wo} : ∀ {ds : List D} {vs : List V}, RL K H ρ ds vs → RL K H ρ ds.reverse vs.reverse
  | [], _, h => by cases h; rfl
  | d :: ds, _, ⟨v, r, e, h1, h2⟩ => by
    subst e
    rw [List.reverse_cons, List.reverse_cons]
    exact RL.append (RL.rev h2) ⟨v, [], rfl, h1, rfl⟩
def eRevT (m : EM) : EM := fun δ st => (m δ st).bind fun x st1 => match x with
  | .tup xs => .ok (.tup xs.reverse) st1
  | _ => .bad
theorem de_revT {k : Nat} {p1 p2 p3 pos : Pos} (he : DE X T W e me) : DE X T W (.Subscript e (.Slice none none (some (.UnaryOp .USub (.Constant (.int 1) k p1) p2)) p3) pos) (eRevT me) :=
  ⟨PE.imp (pe_revT he.pe) fun σ H Q ⟨ρ, δ, st, ok, rs, h⟩ => ⟨ρ, δ, st, ok, rs, Post.bind h fun x st1 v H1 ρ1 g1 ok1 rx h1 => by
    split at h1
    · obtain ⟨p, vs, rfl, hs, r⟩ := tupAt rx
      exact ⟨p, vs, rfl, hs, Post.newT ok1 (RL.rev r) h1⟩
    · exact h1.elim⟩⟩
end
end L3

/-! ### text Pa -/
namespace L3
open PySem PySem.Spec PyProof.Rows L2

/-! ### what holds behind a result -/
abbrev XP : Type := Addr → Option (Str × D) → Store → Prop
/-- Unit; its type names what is wanted, which keeps simp out of that -/
abbrev Uq {α : Type} (_ : α) : Type := Unit
def Res.wp {α : Type} (r : Res α) (X : XP) (Q : α → Store → Prop) (_ : Uq (X, Q) := ()) : Prop := match r with
  | .ok a st => Q a st
  | .err C p st => X C p st
  | .bad => False
structure EndP where
  nx : Sl → Store → Prop
  rt : D → Store → Prop
  bk : Sl → Store → Prop
  ct : Sl → Store → Prop
  er : Addr → Option (Str × D) → Sl → Store → Prop
abbrev EndP.ex (E : EndP) (δ : Sl) : XP := fun C p st => E.er C p δ st
def SRes.wp (r : SRes) (E : EndP) (_ : Uq E := ()) : Prop := match r with
  | .nx δ st => E.nx δ st
  | .rt d st => E.rt d st
  | .bk δ st => E.bk δ st
  | .ct δ st => E.ct δ st
  | .err C p δ st => E.er C p δ st
  | .bad => False
@[simp] theorem wp_ok {α : Type} {a : α} {st : Store} {X : XP} {Q : α → Store → Prop} : (Res.ok a st).wp X Q = Q a st := rfl
@[simp] theorem wp_err {α : Type} {C : Addr} {p : Option (Str × D)} {st : Store} {X : XP} {Q : α → Store → Prop} : (Res.err C p st).wp X Q = X C p st := rfl
@[simp] theorem wp_bad {α : Type} {X : XP} {Q : α → Store → Prop} : (Res.bad).wp X Q = False := rfl
@[simp] theorem wp_nx {δ : Sl} {st : Store} {nx : Sl → Store → Prop} {rt : D → Store → Prop} {bk ct : Sl → Store → Prop} {er : Addr → Option (Str × D) → Sl → Store → Prop} : (SRes.nx δ st).wp ⟨nx, rt, bk, ct, er⟩ = nx δ st := rfl
@[simp] theorem wp_rt {d : D} {st : Store} {nx : Sl → Store → Prop} {rt : D → Store → Prop} {bk ct : Sl → Store → Prop} {er : Addr → Option (Str × D) → Sl → Store → Prop} : (SRes.rt d st).wp ⟨nx, rt, bk, ct, er⟩ = rt d st := rfl
@[simp] theorem wp_bk {δ : Sl} {st : Store} {nx : Sl → Store → Prop} {rt : D → Store → Prop} {bk ct : Sl → Store → Prop} {er : Addr → Option (Str × D) → Sl → Store → Prop} : (SRes.bk δ st).wp ⟨nx, rt, bk, ct, er⟩ = bk δ st := rfl
@[simp] theorem wp_ct {δ : Sl} {st : Store} {nx : Sl → Store → Prop} {rt : D → Store → Prop} {bk ct : Sl → Store → Prop} {er : Addr → Option (Str × D) → Sl → Store → Prop} : (SRes.ct δ st).wp ⟨nx, rt, bk, ct, er⟩ = ct δ st := rfl
@[simp] theorem wp_serr {C : Addr} {p : Option (Str × D)} {δ : Sl} {st : Store} {nx : Sl → Store → Prop} {rt : D → Store → Prop} {bk ct : Sl → Store → Prop} {er : Addr → Option (Str × D) → Sl → Store → Prop} : (SRes.err C p δ st).wp ⟨nx, rt, bk, ct, er⟩ = er C p δ st := rfl
@[simp] theorem wp_sbad {E : EndP} : (SRes.bad).wp E = False := rfl
theorem wp_bind {α β : Type} {r : Res α} {f : α → Store → Res β} {X : XP} {Q : β → Store → Prop} : (r.bind f).wp X Q = r.wp X fun a st => (f a st).wp X Q := by cases r <;> rfl
theorem wp_sBind {α : Type} {r : Res α} {δ : Sl} {f : α → Store → SRes} {nx : Sl → Store → Prop} {rt : D → Store → Prop} {bk ct : Sl → Store → Prop} {er : Addr → Option (Str × D) → Sl → Store → Prop} : (sBind r δ f).wp ⟨nx, rt, bk, ct, er⟩ = r.wp (fun C p s => er C p δ s) fun a st => (f a st).wp ⟨nx, rt, bk, ct, er⟩ := by cases r <;> rfl
theorem Res.wp_mono {α : Type} {r : Res α} {X : XP} {Q Q' : α → Store → Prop} (h : r.wp X Q) (k : ∀ a st, Q a st → Q' a st) : r.wp X Q' := by
  cases r with
  | ok a st => exact k a st h
  | _ => exact h
/-- nothing is raised -/
abbrev noX : XP := fun _ _ _ => False
theorem Res.of_wp {α : Type} {r : Res α} {Q : α → Store → Prop} (h : r.wp noX Q) : ∃ a st, r = .ok a st ∧ Q a st := by
  cases r with
  | ok a st => exact ⟨a, st, rfl, h⟩
  | _ => exact h.elim
theorem Res.wp_er {α : Type} {r : Res α} {C : Addr} {p : Option (Str × D)} {s : Store} (h : r.wp (fun C' p' st => C' = C ∧ p' = p ∧ st = s) fun _ _ => False) : r = .err C p s := by
  cases r with
  | err C' p' st => obtain ⟨rfl, rfl, rfl⟩ := h; rfl
  | _ => exact h.elim
theorem Res.wp_eq {α : Type} {r : Res α} {v : α} {s : Store} (h : r.wp noX fun a st => a = v ∧ st = s) : r = .ok v s := by
  obtain ⟨a, st, e, e1, e2⟩ := Res.of_wp h
  rw [e, e1, e2]
theorem SRes.wp_mono {r : SRes} {E E' : EndP} (h : r.wp E) (k1 : ∀ a st, E.nx a st → E'.nx a st) (k2 : ∀ a st, E.rt a st → E'.rt a st) (k3 : ∀ a st, E.bk a st → E'.bk a st) (k4 : ∀ a st, E.ct a st → E'.ct a st) (k5 : ∀ C p a st, E.er C p a st → E'.er C p a st) : r.wp E' := by
  cases r with
  | nx a st => exact k1 a st h
  | rt a st => exact k2 a st h
  | bk a st => exact k3 a st h
  | ct a st => exact k4 a st h
  | err C p a st => exact k5 C p a st h
  | bad => exact h
section
variable {δ : Sl} {st : Store} {Q : D → Store → Prop} {QL : List D → Store → Prop} {QB : Bool → Store → Prop} {QI : Option Int → Store → Prop} {QW : Wk → Store → Prop} {nx : Sl → Store → Prop} {rt : D → Store → Prop} {bk ct : Sl → Store → Prop} {er : Addr → Option (Str × D) → Sl → Store → Prop} {X : XP}
/-- the slot's value -/
def slotP (o : Option (Option D)) (Q : D → Prop) (_ : Uq Q := ()) : Prop := match o with
  | some (some d) => Q d
  | _ => False
@[simp] theorem slotP_some {d : D} {Q : D → Prop} : slotP (some (some d)) Q = Q d := rfl
theorem wp_eV {i : Nat} : (eV i δ st).wp X Q = slotP δ[i]? fun d => Q d st := by
  unfold eV slotP
  split <;> simp_all
theorem wp_eC {d : D} : (eC d δ st).wp X Q = Q d st := rfl
theorem wp_e1 {f : D → Store → Res D} {m : EM} : (e1 f m δ st).wp X Q = (m δ st).wp X fun x st1 => (f x st1).wp X Q := wp_bind
theorem wp_e2 {f : D → D → Store → Res D} {m n : EM} : (e2 f m n δ st).wp X Q = (m δ st).wp X fun x st1 => (n δ st1).wp X fun y st2 => (f x y st2).wp X Q := by unfold e2; rw [wp_bind]; congr 1; funext x s; rw [wp_bind]
theorem wp_t2 {f : D → D → Store → Res D} {m n : EM} : (t2 f m n δ st).wp X QB = (m δ st).wp X fun x st1 => (n δ st1).wp X fun y st2 => (f x y st2).wp X fun z st3 => match z with | .bl k => QB k st3 | _ => False := by
  unfold t2; rw [wp_bind, wp_e2]; congr 1; funext x s; congr 1; funext y s; congr 1; funext z s; cases z <;> rfl
theorem wp_tVal {m : EM} : (tVal m δ st).wp X QB = (m δ st).wp X fun z st3 => match z with | .bl k => QB k st3 | _ => False := by
  unfold tVal; rw [wp_bind]; congr 1; funext z s; cases z <;> rfl
theorem wp_tAnd {t u : TM} : (tAndM t u δ st).wp X QB = (t δ st).wp X fun k st1 => if k = true then (u δ st1).wp X QB else QB false st1 := by
  unfold tAndM; rw [wp_bind]; congr 1; funext k s; cases k <;> rfl
theorem wp_tOr {t u : TM} : (tOrM t u δ st).wp X QB = (t δ st).wp X fun k st1 => if k = true then QB true st1 else (u δ st1).wp X QB := by
  unfold tOrM; rw [wp_bind]; congr 1; funext k s; cases k <;> rfl
theorem wp_tNot {t : TM} : (tNotM t δ st).wp X QB = (t δ st).wp X fun k st1 => QB (!k) st1 := by
  unfold tNotM; rw [wp_bind]; rfl
theorem wp_eNot {m : EM} : (eNotM m δ st).wp X Q = (m δ st).wp X fun z st3 => match z with | .bl k => Q (.bl (!k)) st3 | _ => False := by
  unfold eNotM; rw [wp_bind]; congr 1; funext z s; cases z <;> rfl
theorem wp_eAnd {m n : EM} : (eAndM m n δ st).wp X Q = (m δ st).wp X fun z st3 => match z with | .bl k => if k = true then (n δ st3).wp X Q else Q (.bl false) st3 | _ => False := by
  unfold eAndM; rw [wp_bind]; congr 1; funext z s; cases z <;> try rfl
  rename_i b; cases b <;> rfl
theorem wp_eOr {m n : EM} : (eOrM m n δ st).wp X Q = (m δ st).wp X fun z st3 => match z with | .bl k => if k = true then Q (.bl true) st3 else (n δ st3).wp X Q | _ => False := by
  unfold eOrM; rw [wp_bind]; congr 1; funext z s; cases z <;> try rfl
  rename_i b; cases b <;> rfl
theorem wp_eIf {t : TM} {m n : EM} : (eIf t m n δ st).wp X Q = (t δ st).wp X fun k st1 => if k = true then (m δ st1).wp X Q else (n δ st1).wp X Q := by
  unfold eIf; rw [wp_bind]; congr 1; funext k s; cases k <;> rfl
theorem wp_aNil : (aNil δ st).wp X QL = QL [] st := rfl
theorem wp_aCons {m : EM} {n : AM} : (aCons m n δ st).wp X QL = (m δ st).wp X fun x st1 => (n δ st1).wp X fun xs st2 => QL (x :: xs) st2 := by
  unfold aCons; rw [wp_bind]; congr 1; funext x s; rw [wp_bind]; rfl
theorem wp_aStar {m : EM} {n : AM} : (aStar m n δ st).wp X QL = (m δ st).wp X fun x st1 => match sqOf x st1 with | some xs => (n δ st1).wp X fun ys st2 => QL (xs ++ ys) st2 | none => False := by
  unfold aStar; rw [wp_bind]; congr 1; funext x s
  cases sqOf x s with
  | none => rfl
  | some xs => dsimp only; rw [wp_bind]; rfl
theorem wp_eRevT {m : EM} : (eRevT m δ st).wp X Q = (m δ st).wp X fun x st1 => match x with | .tup xs => Q (.tup xs.reverse) st1 | _ => False := by
  unfold eRevT; rw [wp_bind]; congr 1; funext x s; cases x <;> rfl
theorem wp_eTup {m : AM} : (eTup m δ st).wp X Q = (m δ st).wp X fun xs st1 => xs.length ≤ 1000000 ∧ Q (.tup xs) st1 := by
  unfold eTup; rw [wp_bind]; congr 1; funext x s; by_cases h : x.length ≤ 1000000 <;> simp [h]
theorem wp_eLst {m : AM} : (eLst m δ st).wp X Q = (m δ st).wp X fun xs st1 => xs.length ≤ 1000000 ∧ Q (.fl xs) st1 := by
  unfold eLst; rw [wp_bind]; congr 1; funext x s; by_cases h : x.length ≤ 1000000 <;> simp [h]
/-- a cell more -/
def psh (st : Store) (c : Cell) : Store := st ++ [c]
theorem wp_eLstN {m : AM} : (eLstN m δ st).wp X Q = (m δ st).wp X fun xs st1 => xs.length ≤ 1000000 ∧ Q (.loc st1.length) (psh st1 (.lst xs)) := by
  unfold eLstN; rw [wp_bind]; congr 1; funext x s; by_cases h : x.length ≤ 1000000 <;> simp [h, psh]
theorem wp_eDictN : (eDictN δ st).wp X Q = Q (.loc st.length) (psh st (.dk [])) := rfl
theorem wp_eN {f : List D → Store → Res D} {m : AM} : (eN f m δ st).wp X Q = (m δ st).wp X fun xs st1 => (f xs st1).wp X Q := wp_bind
theorem wp_oNone : (oNone δ st).wp X QI = QI none st := rfl
theorem wp_oSome {m : EM} : (oSome m δ st).wp X QI = (m δ st).wp X fun x st1 => match x with | .int i => QI (some i) st1 | _ => False := by
  unfold oSome; rw [wp_bind]; congr 1; funext z s; cases z <;> rfl
theorem wp_eCut {m : EM} {l h : Sl → Store → Res (Option Int)} : (eCut m l h δ st).wp X Q = (m δ st).wp X fun x st1 => (l δ st1).wp X fun lo st2 => (h δ st2).wp X fun hi st3 => (dCut x lo hi st3).wp X Q := by
  unfold eCut; rw [wp_bind]; congr 1; funext x s; rw [wp_bind]; congr 1; funext y s; rw [wp_bind]
theorem wp_eCall1 {mf : List D → Store → Res D} {m : AM} : (eCall1 mf m δ st).wp X Q = (m δ st).wp X fun xs st1 => (mf xs st1).wp X Q := wp_bind
theorem wp_eCall {mf : List D → Store → Res D} {nu nk : Nat} {is : List Nat} {m n : AM} : (eCall mf nu nk is m n δ st).wp X Q = (m δ st).wp X fun xs st1 => (n δ st1).wp X fun ys st2 => if xs.length = nu ∧ ys.length = nk then (mf (perm is (xs ++ ys)) st2).wp X Q else False := by
  unfold eCall; rw [wp_bind]; congr 1; funext x s; rw [wp_bind]; congr 1; funext y s
  by_cases h : x.length = nu ∧ y.length = nk
  · rw [if_pos h, if_pos h]
  · rw [if_neg h, if_neg h]; rfl
theorem wp_eMake {C : Addr} {mf : List D → Store → Res D} {nu nk : Nat} {is : List Nat} {m n : AM} : (eMake C mf nu nk is m n δ st).wp X Q = (m δ st).wp X fun xs st1 => (n δ st1).wp X fun ys st2 => if xs.length = nu ∧ ys.length = nk then (mkO C (fun d st' => mf (perm is (d :: xs ++ ys)) st') st2).wp X Q else False := by
  unfold eMake; rw [wp_bind]; congr 1; funext x s; rw [wp_bind]; congr 1; funext y s
  by_cases h : x.length = nu ∧ y.length = nk
  · rw [if_pos h, if_pos h]
  · rw [if_neg h, if_neg h]; rfl
theorem wp_eBM {ty : D → Store → Bool} {f : D → List D → Store → Res D} {mo : EM} {mas : AM} : (eBM ty f mo mas δ st).wp X Q = (mo δ st).wp X fun x st1 => if ty x st1 = true then (mas δ st1).wp X fun xs st2 => (f x xs st2).wp X Q else False := by
  unfold eBM; rw [wp_bind]; congr 1; funext x s
  by_cases h : ty x s = true
  · rw [if_pos h, if_pos h, wp_bind]
  · rw [if_neg h, if_neg h]; rfl
theorem wp_eFld {C : Addr} {f : Str} {m : EM} : (eFld C f m δ st).wp X Q = (m δ st).wp X fun x st1 => match objOf x st1 with | some (C', ns, ds) => C' = C ∧ (match (ns.zip ds).lookup f with | some d => Q d st1 | none => False) | none => False := by
  unfold eFld; rw [wp_bind]; congr 1; funext x s
  cases h : objOf x s with
  | none => rfl
  | some z =>
    obtain ⟨C', ns, ds⟩ := z
    by_cases hc : C' = C
    · simp only [hc, if_true, true_and]
      cases (ns.zip ds).lookup f <;> rfl
    · simp [hc]
/-! statements -/
theorem wp_sNil : (sNil δ st).wp ⟨nx, rt, bk, ct, er⟩ = nx δ st := rfl
theorem wp_sSeq {m n : SM} : (sSeq m n δ st).wp ⟨nx, rt, bk, ct, er⟩ = (m δ st).wp ⟨fun δ1 st1 => (n δ1 st1).wp ⟨nx, rt, bk, ct, er⟩, rt, bk, ct, er⟩ := by
  unfold sSeq; cases m δ st <;> rfl
theorem wp_sIf {t : TM} {m n : SM} : (sIf t m n δ st).wp ⟨nx, rt, bk, ct, er⟩ = (t δ st).wp (fun C p s => er C p δ s) fun k st1 => if k = true then (m δ st1).wp ⟨nx, rt, bk, ct, er⟩ else (n δ st1).wp ⟨nx, rt, bk, ct, er⟩ := by
  unfold sIf; rw [wp_sBind]; congr 1; funext k s; cases k <;> rfl
theorem wp_sRet {m : EM} : (sRet m δ st).wp ⟨nx, rt, bk, ct, er⟩ = (m δ st).wp (fun C p s => er C p δ s) rt := by unfold sRet; rw [wp_sBind]; rfl
theorem wp_sRetN : (sRetN δ st).wp ⟨nx, rt, bk, ct, er⟩ = rt .non st := rfl
theorem wp_sSet {i : Nat} {m : EM} : (sSet i m δ st).wp ⟨nx, rt, bk, ct, er⟩ = (m δ st).wp (fun C p s => er C p δ s) fun d st1 => nx (δ.set i (some d)) st1 := by unfold sSet; rw [wp_sBind]; rfl
theorem wp_sDrop {m : EM} : (sDrop m δ st).wp ⟨nx, rt, bk, ct, er⟩ = (m δ st).wp (fun C p s => er C p δ s) fun d st1 => nx δ st1 := by unfold sDrop; rw [wp_sBind]; rfl
theorem wp_sPar {i j : Nat} {m : AM} : (sPar i j m δ st).wp ⟨nx, rt, bk, ct, er⟩ = (m δ st).wp (fun C p s => er C p δ s) fun ds st1 => match ds with | [d, d'] => nx ((δ.set i (some d)).set j (some d')) st1 | _ => False := by
  unfold sPar; rw [wp_sBind]; congr 1; funext ds s
  split <;> simp_all
theorem wp_sPar3 {i j l : Nat} {m : AM} : (sPar3 i j l m δ st).wp ⟨nx, rt, bk, ct, er⟩ = (m δ st).wp (fun C p s => er C p δ s) fun ds st1 => match ds with | [d, d', d''] => nx (((δ.set i (some d)).set j (some d')).set l (some d'')) st1 | _ => False := by
  unfold sPar3; rw [wp_sBind]; congr 1; funext ds s
  split <;> simp_all
theorem wp_sAsg {m : EM} {g : GM} : (sAsg m g δ st).wp ⟨nx, rt, bk, ct, er⟩ = (m δ st).wp (fun C p s => er C p δ s) fun d st1 => (g d δ st1).wp ⟨nx, fun _ _ => False, fun _ _ => False, fun _ _ => False, fun _ _ _ _ => False⟩ := by
  unfold sAsg; rw [wp_sBind]; congr 1; funext d s; cases g d δ s <;> rfl
theorem wp_gNm {i : Nat} {d : D} : (gNm i d δ st).wp ⟨nx, rt, bk, ct, er⟩ = nx (δ.set i (some d)) st := rfl
theorem wp_gNms {t : Nm} {d : D} : (gNms t d δ st).wp ⟨nx, rt, bk, ct, er⟩ = match t.put d δ with | some δ' => nx δ' st | none => False := by unfold gNms; cases t.put d δ <;> rfl
theorem wp_gTup {gs : GMs} {k : Nat} {ds : List D} : (gTupM gs k (.tup ds) δ st).wp ⟨nx, rt, bk, ct, er⟩ = (ds.length = k ∧ (gs ds δ st).wp ⟨nx, rt, bk, ct, er⟩) := by
  unfold gTupM; by_cases h : ds.length = k <;> simp [h]
theorem wp_gsNil : (gsNil [] δ st).wp ⟨nx, rt, bk, ct, er⟩ = nx δ st := rfl
theorem wp_gsCons {g : GM} {gs : GMs} {d : D} {ds : List D} : (gsCons g gs (d :: ds) δ st).wp ⟨nx, rt, bk, ct, er⟩ = (g d δ st).wp ⟨fun δ1 st1 => (gs ds δ1 st1).wp ⟨nx, rt, bk, ct, er⟩, fun _ _ => False, fun _ _ => False, fun _ _ => False, er⟩ := by
  unfold gsCons; dsimp only; cases g d δ st <;> rfl
theorem wp_gSub {mo mi : EM} {d : D} : (gSubM mo mi d δ st).wp ⟨nx, rt, bk, ct, er⟩ = (mo δ st).wp (fun C p s => er C p δ s) fun o st1 => (mi δ st1).wp (fun C p s => er C p δ s) fun i st2 => match dSetIx o i d st2 with | some st3 => nx δ st3 | none => False := by
  unfold gSubM; rw [wp_sBind]; congr 1; funext o s; rw [wp_sBind]; congr 1; funext i s; cases dSetIx o i d s <;> rfl
theorem wp_sFldS {C : Addr} {f : Str} {mo me : EM} : (sFldS C f mo me δ st).wp ⟨nx, rt, bk, ct, er⟩ = (me δ st).wp (fun C p s => er C p δ s) fun y st1 => (mo δ st1).wp (fun C p s => er C p δ s) fun x st2 => match x with
    | .loc n => (match st2[n]? with | some (.obj C' ns ds) => C' = C ∧ ns.length < 1000 ∧ nx δ (st2.set n (.obj C' (putN f y ns ds).1 (putN f y ns ds).2)) | _ => False)
    | _ => False := by
  unfold sFldS; rw [wp_sBind]; congr 1; funext y s; rw [wp_sBind]; congr 1; funext x s2
  cases x <;> try rfl
  rename_i n
  dsimp only
  cases s2[n]? with
  | none => rfl
  | some c =>
    cases c <;> try rfl
    rename_i C' ns ds
    by_cases h : C' = C ∧ ns.length < 1000
    · simp [h]
    · dsimp only; rw [if_neg h]; simp only [wp_sbad, false_iff, eq_iff_iff]; exact fun z => h ⟨z.1, z.2.1⟩
theorem wp_sFor {mi : IM} {t : Nm} {m : SM} : (sFor mi t m δ st).wp ⟨nx, rt, bk, ct, er⟩ = (mi δ st).wp (fun C p s => er C p δ s) fun k st1 => (loop k.keep t m st1.length k.items δ st1).wp ⟨nx, rt, bk, ct, er⟩ := by unfold sFor; rw [wp_sBind]
theorem wp_eLC {mi : IM} {t : Nm} {tt : TM} {m : EM} {own : List Nat} : (eLC mi t tt m own δ st).wp X Q = (mi δ st).wp X fun k st1 => (lcL k.keep t tt m (wipeD δ own) k.items [] st1).wp X fun xs st2 => Q (.fl xs) st2 := by
  unfold eLC; rw [wp_bind]; congr 1; funext x s; rw [wp_bind]; rfl
theorem wp_iSeqT {m : EM} : (iSeq m δ st).wp X QW = (m δ st).wp X fun d st1 => match d with
  | .tup ds => QW ⟨ds, fun _ => True⟩ st1
  | .str z => QW ⟨z.cps.toList.map fun c => .str ⟨#[c]⟩, fun _ => True⟩ st1
  | d => match lsOf d st1 with
    | some ds => QW ⟨ds, keepOf d ds⟩ st1
    | none => False := by
  unfold iSeq; rw [wp_bind]; congr 1; funext d s
  cases d <;> try rfl
  all_goals (dsimp only; cases lsOf _ s <;> rfl)
theorem wp_iRange1 {m : AM} : (iRange1 m δ st).wp X QW = (m δ st).wp X fun xs st1 => match xs with
  | [.int j] => (-(2 ^ 62) ≤ j ∧ j < 2 ^ 62) ∧ QW ⟨rangeD 0 j.toNat, fun _ => True⟩ st1
  | _ => False := by
  unfold iRange1; rw [wp_bind]; congr 1; funext d s
  split
  · rename_i j
    by_cases h : -(2 ^ 62) ≤ j ∧ j < 2 ^ 62
    · rw [if_pos h]; simp only [wp_ok, eq_iff_iff]; exact ⟨fun z => ⟨h, z⟩, fun z => z.2⟩
    · rw [if_neg h]; simp only [wp_bad, eq_iff_iff, false_iff]; exact fun z => h z.1
  · simp only [wp_bad]
theorem wp_iRange2 {m : AM} : (iRange2 m δ st).wp X QW = (m δ st).wp X fun xs st1 => match xs with
  | [.int i, .int j] => (-(2 ^ 62) ≤ i ∧ i < 2 ^ 62 ∧ -(2 ^ 62) ≤ j ∧ j < 2 ^ 62) ∧ QW ⟨rangeD i (j - i).toNat, fun _ => True⟩ st1
  | _ => False := by
  unfold iRange2; rw [wp_bind]; congr 1; funext d s
  split
  · rename_i i j
    by_cases h : -(2 ^ 62) ≤ i ∧ i < 2 ^ 62 ∧ -(2 ^ 62) ≤ j ∧ j < 2 ^ 62
    · rw [if_pos h]; simp only [wp_ok, eq_iff_iff]; exact ⟨fun z => ⟨h, z⟩, fun z => z.2⟩
    · rw [if_neg h]; simp only [wp_bad, eq_iff_iff, false_iff]; exact fun z => h z.1
  · simp only [wp_bad]
theorem wp_iEnumA {m : AM} : (iEnumA m δ st).wp X QW = (m δ st).wp X fun xs st1 => match xs with
  | [.tup ds] => QW ⟨enumD 0 ds, fun _ => True⟩ st1
  | [d] => match lsOf d st1 with
    | some ds => QW ⟨enumD 0 ds, keepOf d ds⟩ st1
    | none => False
  | _ => False := by
  unfold iEnumA; rw [wp_bind]; congr 1; funext d s
  split
  · rfl
  · rename_i d hd
    cases d <;> first | (exact absurd rfl (hd _)) | (cases lsOf _ s <;> rfl) | (dsimp only; cases lsOf _ s <;> rfl)
  · simp only [wp_bad]
theorem wp_iZip {m : AM} : (iZip m δ st).wp X QW = (m δ st).wp X fun xs st1 => match xs with
  | [.tup ds, .tup es] => QW ⟨zipD ds es, fun _ => True⟩ st1
  | [d, d'] => match lsOf d st1, lsOf d' st1 with
    | some ds, some es => QW ⟨zipD ds es, fun st => keepOf d ds st ∧ keepOf d' es st⟩ st1
    | _, _ => False
  | _ => False := by
  unfold iZip; rw [wp_bind]; congr 1; funext d s
  match d with
  | [] => rfl
  | [a] => cases a <;> rfl
  | [a, b] =>
    cases a <;> cases b <;> first | rfl | (dsimp only; cases lsOf _ s <;> cases lsOf _ s <;> rfl) | (dsimp only; split <;> split <;> simp_all)
  | a :: b :: _ :: _ => cases a <;> cases b <;> rfl
theorem wp_sBrk : (sBrk δ st).wp ⟨nx, rt, bk, ct, er⟩ = bk δ st := rfl
theorem wp_sCnt : (sCnt δ st).wp ⟨nx, rt, bk, ct, er⟩ = ct δ st := rfl
theorem wp_tYes : (tYesM δ st).wp X QB = QB true st := rfl
/-! a def -/
theorem wp_fnM {lv : Nat → D → Store → Res D} {n k : Nat} {m : SM} {ds : List D} : (fnM lv n k m ds st).wp X Q = (ds.length = k ∧ (m (beg n ds) st).wp ⟨fun _ st1 => (lv st.length .non st1).wp X Q, fun d st1 => (lv st.length d st1).wp X Q, fun _ _ => False, fun _ _ => False, fun C p _ st1 => (leaveE st.length C p st1).wp X Q⟩) := by
  have key : ∀ r, (endF lv st.length r).wp X Q = r.wp ⟨fun _ st1 => (lv st.length .non st1).wp X Q, fun d st1 => (lv st.length d st1).wp X Q, fun _ _ => False, fun _ _ => False, fun C p _ st1 => (leaveE st.length C p st1).wp X Q⟩ := fun r => by
    cases r <;> rfl
  unfold fnM
  by_cases h : ds.length = k
  · rw [if_pos h, key]; simp [h]
  · rw [if_neg h]; simp [h]
theorem wp_okOnly {r : Res D} : (okOnly r).wp X Q = r.wp noX Q := by cases r <;> rfl
end
/-! ### stores -/
mutual
theorem shut_mono {n m : Nat} (h : n ≤ m) : ∀ d : D, shut n d = true → shut m d = true
  | .non, _ => rfl
  | .bl _, _ => rfl
  | .int _, _ => rfl
  | .str _, _ => rfl
  | .ref _, _ => rfl
  | .ty _, _ => rfl
  | .loc k, z => by simp only [shut, decide_eq_true_eq] at z ⊢; omega
  | .tup ds, z => shutL_mono h ds z
  | .fl ds, z => shutL_mono h ds z
  | .rl ds, z => shutL_mono h ds z
  | .obj _ _ ds, z => shutL_mono h ds z
theorem shutL_mono {n m : Nat} (h : n ≤ m) : ∀ ds : List D, shutL n ds = true → shutL m ds = true
  | [], _ => rfl
  | d :: ds, z => by
    rw [shutL, Bool.and_eq_true] at z ⊢
    exact ⟨shut_mono h d z.1, shutL_mono h ds z.2⟩
end
mutual
theorem shut_toP {n : Nat} : ∀ (d : D) (p : PyData), toP d = some p → shut n d = true
  | .non, _, _ => rfl
  | .bl _, _, _ => rfl
  | .int _, _, _ => rfl
  | .str _, _, _ => rfl
  | .ref _, _, e => by cases e
  | .ty _, _, e => by cases e
  | .loc _, _, e => by cases e
  | .obj _ _ _, _, e => by cases e
  | .tup ds, _, e => by
    simp only [toP, Option.map_eq_some_iff] at e
    obtain ⟨ps, e2, _⟩ := e
    exact shutL_toP ds ps e2
  | .fl ds, _, e => by
    simp only [toP, Option.map_eq_some_iff] at e
    obtain ⟨ps, e2, _⟩ := e
    exact shutL_toP ds ps e2
  | .rl ds, _, e => by
    simp only [toP, Option.map_eq_some_iff] at e
    obtain ⟨ps, e2, _⟩ := e
    exact shutL_toP ds ps e2
theorem shutL_toP {n : Nat} : ∀ (ds : List D) (ps : List PyData), toPs ds = some ps → shutL n ds = true
  | [], _, _ => rfl
  | d :: ds, _, e => by
    simp only [toPs] at e
    split at e
    · rename_i q qs e1 e2
      rw [shutL, Bool.and_eq_true]
      exact ⟨shut_toP d q e1, shutL_toP ds qs e2⟩
    · cases e
end
/-- cells without places in them -/
def Cl (s : Store) : Prop := ∀ c ∈ s, shutC 0 c = true
theorem shutC_mono {n m : Nat} (h : n ≤ m) (c : Cell) (z : shutC n c = true) : shutC m c = true := by
  cases c with
  | lst ds => exact shutL_mono h ds z
  | dk kds => exact shutL_mono h _ z
  | obj C ns ds => exact shutL_mono h ds z
theorem Cl.all {s : Store} (h : Cl s) (n : Nat) : s.all (shutC n) = true := by
  rw [List.all_eq_true]
  exact fun c hc => shutC_mono (Nat.zero_le _) c (h c hc)
theorem Cl.nil : Cl [] := fun c hc => by cases hc
theorem Cl_app {s t : Store} : Cl (s ++ t) ↔ Cl s ∧ Cl t := by
  unfold Cl; simp only [List.mem_append, or_imp, forall_and]
theorem Cl_cons {c : Cell} {t : Store} : Cl (c :: t) ↔ shutC 0 c = true ∧ Cl t := by
  unfold Cl; simp only [List.mem_cons, forall_eq_or_imp]
/-- a store with cells of one's own behind it -/
def lst (s t : Store) : Store := s ++ t
/-- a well -/
abbrev W3 : Type := Int × Int × Int
def wc (w : W3) : Cell := .lst [.int w.1, .int w.2.1, .int w.2.2]
/-- a store with the well w at n, and cells of one's own behind it -/
def wst (s : Store) (n : Nat) (w : W3) (t : Store) : Store := s.set n (wc w) ++ t
section
variable {s t u : Store} {n k : Nat} {w w' : W3} {c : Cell}
theorem lst_nil : lst s [] = s := List.append_nil s
theorem lst_len : (lst s t).length = s.length + t.length := List.length_append
theorem lst_psh : psh (lst s t) c = lst s (t ++ [c]) := List.append_assoc _ _ _
theorem lst_0 : (lst s t)[s.length]? = t[0]? := by unfold lst; rw [List.getElem?_append_right (Nat.le_refl _), Nat.sub_self]
theorem lst_k : (lst s t)[s.length + k]? = t[k]? := by unfold lst; rw [List.getElem?_append_right (by omega), Nat.add_sub_cancel_left]
theorem setA {α : Type} : ∀ (l r : List α) (k : Nat) (c : α), (l ++ r).set (l.length + k) c = l ++ r.set k c
  | [], r, k, c => by simp
  | a :: l, r, k, c => by simp only [List.cons_append, List.length_cons, show l.length + 1 + k = (l.length + k) + 1 by omega, List.set_cons_succ, setA l r k c]
theorem setB {α : Type} : ∀ (l r : List α) (k : Nat) (c : α), k < l.length → (l ++ r).set k c = l.set k c ++ r
  | a :: l, r, 0, c, _ => rfl
  | a :: l, r, k + 1, c, h => by simp only [List.cons_append, List.set_cons_succ]; rw [setB l r k c (by simpa using h)]
theorem lst_set0 : (lst s t).set s.length c = lst s (t.set 0 c) := setA s t 0 c
theorem lst_setk : (lst s t).set (s.length + k) c = lst s (t.set k c) := setA s t k c
theorem lst_Cl : Cl (lst s t) = (Cl s ∧ Cl t) := propext Cl_app
theorem wst_len : (wst s n w t).length = s.length + t.length := by unfold wst; simp
theorem wst_psh : psh (wst s n w t) c = wst s n w (t ++ [c]) := List.append_assoc _ _ _
theorem wst_0 : (wst s n w t)[s.length]? = t[0]? := by unfold wst; rw [List.getElem?_append_right (by simp), List.length_set, Nat.sub_self]
theorem wst_k : (wst s n w t)[s.length + k]? = t[k]? := by unfold wst; rw [List.getElem?_append_right (by simp), List.length_set, Nat.add_sub_cancel_left]
theorem wst_set0 : (wst s n w t).set s.length c = wst s n w (t.set 0 c) := by
  have := setA (s.set n (wc w)) t 0 c
  rwa [List.length_set] at this
theorem wst_setk : (wst s n w t).set (s.length + k) c = wst s n w (t.set k c) := by
  have := setA (s.set n (wc w)) t k c
  rwa [List.length_set] at this
theorem wst_n (h : n < s.length) : (wst s n w t)[n]? = some (wc w) := by
  unfold wst
  rw [List.getElem?_append_left (by simpa using h), List.getElem?_set_self h]
theorem wst_setn (h : n < s.length) : (wst s n w t).set n (wc w') = wst s n w' t := by
  unfold wst
  rw [setB _ _ _ _ (by simpa using h), List.set_set]
theorem wc_shut : shutC 0 (wc w) = true := rfl
theorem set_Cl (hs : Cl s) (hc : shutC 0 c = true) : Cl (s.set n c) := fun x hx => by
  rcases List.mem_or_eq_of_mem_set hx with h | h
  · exact hs x h
  · rw [h]; exact hc
theorem wst_Cl (hs : Cl s) (ht : Cl t) : Cl (wst s n w t) := Cl_app.mpr ⟨set_Cl hs wc_shut, ht⟩
theorem wst_mv (h : n < s.length) : wst s n w t = wst (s ++ t) n w [] := by
  unfold wst
  rw [setB _ _ _ _ h, List.append_nil]
theorem wst_of (h : s[n]? = some (wc w)) : s = wst s n w [] := by
  unfold wst
  rw [List.append_nil]
  refine (List.ext_getElem? fun i => ?_)
  by_cases e : n = i
  · subst e
    rw [List.getElem?_set_self (List.getElem?_eq_some_iff.mp h).1, h]
  · rw [List.getElem?_set_ne e]
end
/-! ### what a def leaves -/
section
variable {s t : Store} {n n0 : Nat} {w : W3} {d : D} {X : XP} {Q : D → Store → Prop}
theorem leave_same (h : t.length = n0) : leave n0 d t = .ok d t := by unfold leave; rw [if_pos h]
/-- what goes out of a def whose own cells are t -/
def outD (n0 : Nat) (t : Store) (d : D) : Option D := match t with
  | [] => some d
  | t => match d with
    | .loc n => if n < n0 then some d else match t[n - n0]? with
      | some (.lst xs) => if shutL n0 xs = true then some (.fl xs) else none
      | some (.obj C ns xs) => if shutL n0 xs = true then some (.obj C ns xs) else none
      | _ => none
    | d => if shut n0 d = true then some d else none
theorem leave_app (hs : Cl s) {x : D} (h : outD s.length t d = some x) : leave s.length d (s ++ t) = .ok x s := by
  cases t with
  | nil => cases h; rw [List.append_nil]; exact leave_same rfl
  | cons c t =>
    unfold leave
    rw [if_neg (by simp), List.take_left' rfl, if_pos (hs.all _)]
    unfold outD at h
    cases d with
    | loc m =>
      dsimp only at h ⊢
      by_cases hm : m < s.length
      · rw [if_pos hm] at h ⊢; cases h; rfl
      · rw [if_neg hm] at h ⊢
        rw [List.getElem?_append_right (by omega)]
        split at h
        · rename_i xs e
          rw [e]
          dsimp only
          split at h
          · rename_i z; cases h; rw [if_pos z]
          · cases h
        · rename_i C ns xs e
          rw [e]
          dsimp only
          split at h
          · rename_i z; cases h; rw [if_pos z]
          · cases h
        · cases h
    | _ =>
      dsimp only at h ⊢
      split at h
      · rename_i z; cases h; rw [if_pos z]
      · cases h
theorem leave_lst (hs : Cl s) {x : D} (h : outD s.length t d = some x) (q : Q x (lst s [])) : (leave s.length d (lst s t)).wp X Q := by
  unfold lst
  rw [leave_app hs h]
  rwa [lst_nil] at q
theorem leave_wst (hs : Cl s) {x : D} (h : outD s.length t d = some x) (q : Q x (wst s n w [])) : (leave s.length d (wst s n w t)).wp X Q := by
  have e := leave_app (s := s.set n (wc w)) (t := t) (d := d) (x := x) (set_Cl hs wc_shut) (by rw [List.length_set]; exact h)
  rw [List.length_set] at e
  unfold wst
  rw [e]
  unfold wst at q
  rwa [List.append_nil] at q
end
section
variable {s t : Store} {X : XP} {Q : D → Store → Prop}
theorem leaveE_app (hs : Cl s) {C : Addr} {p : Option (Str × D)} (hp : t = [] ∨ payShut s.length p = true) : leaveE s.length C p (s ++ t) = .err C p s := by
  unfold leaveE
  cases t with
  | nil => rw [List.append_nil, if_pos rfl]
  | cons c t =>
    rw [if_neg (by simp), List.take_left' rfl, if_pos ⟨hs.all _, hp.elim (fun h => by cases h) id⟩]
theorem leaveE_lst (hs : Cl s) {C : Addr} {p : Option (Str × D)} (hp : t = [] ∨ payShut s.length p = true) (q : X C p (lst s [])) : (leaveE s.length C p (lst s t)).wp X Q := by
  unfold lst
  rw [leaveE_app hs hp]
  rwa [lst_nil] at q
theorem leaveE_same {C : Addr} {p : Option (Str × D)} : leaveE s.length C p s = .err C p s := by unfold leaveE; rw [if_pos rfl]
end
/-! ### loops -/
/-- behind a turn -/
def tid (n0 : Nat) (δ : Sl) (st : Store) (P : Sl → Store → Prop) : Prop := match tidy n0 δ st with
  | some (δ1, st1) => P δ1 st1
  | none => False
theorem tid_same {n0 : Nat} {δ : Sl} {st : Store} {P : Sl → Store → Prop} (h : st.length = n0) (p : P δ st) : tid n0 δ st P := by
  unfold tid tidy; rw [if_pos h]; exact p
/-- a slot behind a turn -/
def tdy (n0 : Nat) (o : Option D) : Option D := o.bind fun d => if shut n0 d = true then some d else none
@[simp] theorem tdy_none {n0 : Nat} : tdy n0 none = none := rfl
theorem tdy_some {n0 : Nat} {d : D} (h : shut n0 d = true) : tdy n0 (some d) = some d := by unfold tdy; simp [h]
theorem tid_app {δ : Sl} {s t : Store} {P : Sl → Store → Prop} (hs : Cl s) (h : t ≠ []) (p : P (δ.map (tdy s.length)) s) : tid s.length δ (s ++ t) P := by
  have : 0 < t.length := List.length_pos_iff.mpr h
  unfold tid tidy
  rw [if_neg (by simp; omega), List.take_left' rfl, if_pos (hs.all _)]
  exact p
theorem tid_lst {δ : Sl} {s t u : Store} {n0 : Nat} {P : Sl → Store → Prop} (hs : Cl s) (ht : Cl t) (hn : n0 = s.length + t.length) (h : u ≠ []) (p : P (δ.map (tdy n0)) (lst s t)) : tid n0 δ (lst s (t ++ u)) P := by
  subst hn
  have := tid_app (δ := δ) (s := s ++ t) (t := u) (P := P) (Cl_app.mpr ⟨hs, ht⟩) h (by rw [List.length_append]; exact p)
  rw [List.length_append, List.append_assoc] at this
  exact this
theorem tid_wst {δ : Sl} {s t u : Store} {n n0 : Nat} {w : W3} {P : Sl → Store → Prop} (hs : Cl s) (ht : Cl t) (hn : n0 = s.length + t.length) (h : u ≠ []) (p : P (δ.map (tdy n0)) (wst s n w t)) : tid n0 δ (wst s n w (t ++ u)) P := by
  subst hn
  have := tid_app (δ := δ) (s := s.set n (wc w) ++ t) (t := u) (P := P) (Cl_app.mpr ⟨set_Cl hs wc_shut, ht⟩) h (by rw [List.length_append, List.length_set]; exact p)
  rw [List.length_append, List.length_set, List.append_assoc] at this
  exact this
theorem loop_wp {keep : Store → Prop} {t : Nm} {m : SM} {n0 : Nat} {nx : Sl → Store → Prop} {rt : D → Store → Prop} {bk ct : Sl → Store → Prop} {er : Addr → Option (Str × D) → Sl → Store → Prop} (Iv : Nat → Sl → Store → Prop) {ds : List D} {δ : Sl} {st : Store} (h0 : Iv 0 δ st) (hk : ∀ j δ st, Iv j δ st → keep st)
    (step : ∀ (j : Nat) (d : D) (δ : Sl) (st : Store), ds[j]? = some d → Iv j δ st → ∃ δ1, t.put d δ = some δ1 ∧ (m δ1 st).wp ⟨fun δ2 st2 => tid n0 δ2 st2 (Iv (j + 1)), rt, nx, fun δ2 st2 => tid n0 δ2 st2 (Iv (j + 1)), er⟩)
    (done : ∀ δ st, Iv ds.length δ st → nx δ st) : (loop keep t m n0 ds δ st).wp ⟨nx, rt, bk, ct, er⟩ := by
  have key : ∀ (ds : List D) (i : Nat) (δ : Sl) (st : Store), Iv i δ st → (∀ (j : Nat) (d : D) (δ : Sl) (st : Store), ds[j]? = some d → Iv (i + j) δ st → ∃ δ1, t.put d δ = some δ1 ∧ (m δ1 st).wp ⟨fun δ2 st2 => tid n0 δ2 st2 (Iv (i + j + 1)), rt, nx, fun δ2 st2 => tid n0 δ2 st2 (Iv (i + j + 1)), er⟩) →
      (∀ δ st, Iv (i + ds.length) δ st → nx δ st) → (loop keep t m n0 ds δ st).wp ⟨nx, rt, bk, ct, er⟩ := by
    intro ds
    induction ds with
    | nil => intro i δ st h _ hd; rw [loop, if_pos (hk _ _ _ h)]; exact hd _ _ h
    | cons d ds ih =>
      intro i δ st h hs hd
      obtain ⟨δ1, e1, e2⟩ := hs 0 d δ st rfl h
      rw [loop, if_pos (hk _ _ _ h), e1]
      have nxt : ∀ δ2 st2, tid n0 δ2 st2 (Iv (i + 0 + 1)) → SRes.wp (match tidy n0 δ2 st2 with | some (δ2, st2) => loop keep t m n0 ds δ2 st2 | none => .bad) ⟨nx, rt, bk, ct, er⟩ := fun δ2 st2 z => by
        unfold tid at z
        split at z
        · rename_i δ3 st3 e
          refine ih (i + 1) δ3 st3 (by simpa using z) (fun j d' δ' st' hj hi => ?_) (fun δ' st' hi => hd δ' st' (by rw [List.length_cons, show i + (ds.length + 1) = i + 1 + ds.length by omega]; exact hi))
          have := hs (j + 1) d' δ' st' (by simpa using hj) (by rw [show i + (j + 1) = i + 1 + j by omega]; exact hi)
          rw [show i + (j + 1) + 1 = i + 1 + j + 1 by omega] at this
          exact this
        · exact z.elim
      dsimp only
      cases q : m δ1 st with
      | nx δ2 st2 => rw [q] at e2; exact nxt δ2 st2 e2
      | ct δ2 st2 => rw [q] at e2; exact nxt δ2 st2 e2
      | bk δ2 st2 => rw [q] at e2; exact e2
      | rt d st2 => rw [q] at e2; exact e2
      | err C p δ2 st2 => rw [q] at e2; exact e2
      | bad => rw [q] at e2; exact e2.elim
  exact key ds 0 δ st h0 (fun j d δ st hj hi => by
    have := step j d δ st hj (by simpa using hi)
    rw [Nat.zero_add]
    exact this) (fun δ st hi => done δ st (by simpa using hi))
/-- a comprehension whose items may change the store -/
theorem lc_wp {keep : Store → Prop} {t : Nm} {tt : TM} {m : EM} {δ : Sl} {X : XP} {Q : List D → Store → Prop} (Iv : Nat → List D → Store → Prop) {ds : List D} {st : Store} (hl : ds.length ≤ 1000000) (h0 : Iv 0 [] st) (hk : ∀ j xs st, Iv j xs st → keep st)
    (step : ∀ (j : Nat) (d : D) (xs : List D) (st : Store), ds[j]? = some d → Iv j xs st → ∃ δ1, t.put d δ = some δ1 ∧ (tt δ1 st).wp noX fun k st1 => if k = true then (m δ1 st1).wp noX fun x st2 => Iv (j + 1) (xs ++ [x]) st2 else Iv (j + 1) xs st1)
    (done : ∀ xs st, Iv ds.length xs st → Q xs st) : (lcL keep t tt m δ ds [] st).wp X Q := by
  have key : ∀ (ds : List D) (i : Nat) (acc : List D) (st : Store), acc.length + ds.length ≤ 1000000 → Iv i acc st → (∀ (j : Nat) (d : D) (xs : List D) (st : Store), ds[j]? = some d → Iv (i + j) xs st → ∃ δ1, t.put d δ = some δ1 ∧ (tt δ1 st).wp noX fun k st1 => if k = true then (m δ1 st1).wp noX fun x st2 => Iv (i + j + 1) (xs ++ [x]) st2 else Iv (i + j + 1) xs st1) →
      (∀ xs st, Iv (i + ds.length) xs st → Q xs st) → (lcL keep t tt m δ ds acc st).wp X Q := by
    intro ds
    induction ds with
    | nil => intro i acc st _ h _ hd; rw [lcL, if_pos (hk _ _ _ h)]; exact hd _ _ h
    | cons d ds ih =>
      intro i acc st hl h hs hd
      simp only [List.length_cons] at hl
      obtain ⟨δ1, e1, e2⟩ := hs 0 d acc st rfl h
      rw [lcL, if_pos ⟨hk _ _ _ h, by omega⟩, e1]
      dsimp only
      have nxt : ∀ acc' st', acc'.length ≤ acc.length + 1 → Iv (i + 0 + 1) acc' st' → (lcL keep t tt m δ ds acc' st').wp X Q := fun acc' st' hl' z =>
        ih (i + 1) acc' st' (by omega) (by simpa using z) (fun j d' xs' st'' hj hi => by
          have := hs (j + 1) d' xs' st'' (by simpa using hj) (by rw [show i + (j + 1) = i + 1 + j by omega]; exact hi)
          rw [show i + (j + 1) + 1 = i + 1 + j + 1 by omega] at this
          exact this) (fun xs' st'' hi => hd xs' st'' (by rw [List.length_cons, show i + (ds.length + 1) = i + 1 + ds.length by omega]; exact hi))
      obtain ⟨k, st1, q, e3⟩ := Res.of_wp e2
      rw [q]
      simp only [noErr, Res.bind_ok]
      cases k with
      | true =>
        rw [if_pos rfl] at e3 ⊢
        obtain ⟨x, st2, q2, e4⟩ := Res.of_wp e3
        rw [q2]
        simp only [noErr, Res.bind_ok]
        exact nxt _ _ (by simp) e4
      | false =>
        rw [if_neg (by simp)] at e3 ⊢
        exact nxt _ _ (by omega) e3
  exact key ds 0 [] st (by simpa using hl) h0 (fun j d xs st hj hi => by
    have := step j d xs st hj (by simpa using hi)
    rw [Nat.zero_add]
    exact this) (fun xs st hi => done xs st (by simpa using hi))
/-- .. and leave it alone: the items that are kept, mapped -/
theorem lc_pure {keep : Store → Prop} {t : Nm} {tt : TM} {m : EM} {δ : Sl} {X : XP} {Q : List D → Store → Prop} (g : D → Option D) {ds : List D} {st : Store} (hl : ds.length ≤ 1000000) (hk : keep st)
    (step : ∀ d ∈ ds, ∃ δ1, t.put d δ = some δ1 ∧ (tt δ1 st).wp noX fun k st1 => if k = true then (m δ1 st1).wp noX fun x st2 => g d = some x ∧ st2 = st else g d = none ∧ st1 = st)
    (done : Q (ds.filterMap g) st) : (lcL keep t tt m δ ds [] st).wp X Q := by
  refine lc_wp (fun j xs st' => st' = st ∧ xs = (ds.take j).filterMap g) hl ⟨rfl, by simp⟩ (fun j xs st' h => h.1 ▸ hk) (fun j d xs st' hj ⟨e1, e2⟩ => ?_) (fun xs st' ⟨e1, e2⟩ => ?_)
  · subst e1
    obtain ⟨δ1, a1, a2⟩ := step d (List.mem_of_getElem? hj)
    have tk : ds.take (j + 1) = ds.take j ++ [d] := by rw [List.take_add_one, hj]; rfl
    refine ⟨δ1, a1, Res.wp_mono a2 fun k st1 z => ?_⟩
    cases k with
    | true => exact Res.wp_mono z fun x st2 ⟨q1, q2⟩ => ⟨q2, by rw [e2, tk, List.filterMap_append]; simp [q1]⟩
    | false => exact ⟨z.2, by rw [e2, tk, List.filterMap_append]; simp [z.1]⟩
  · rw [List.take_length] at e2
    subst e1 e2
    exact done
/-! ### drawing -/
/-- f draws from the well at n: it changes it alone and ends with what P tells -/
def Draws (n : Nat) (f : Store → Res D) (P : D → Prop) : Prop := ∀ (s : Store) (w : W3) (X : XP) (Q : D → Store → Prop), Cl s → n < s.length → (∀ v w', P v → Q v (wst s n w' [])) → (f (wst s n w [])).wp X Q
theorem Draws.use {n : Nat} {f : Store → Res D} {P : D → Prop} (h : Draws n f P) {s t : Store} {w : W3} {X : XP} {Q : D → Store → Prop} (hs : Cl s) (ht : Cl t) (hn : n < s.length) (k : ∀ v w', P v → Q v (wst s n w' t)) : (f (wst s n w t)).wp X Q := by
  rw [wst_mv hn]
  exact h (s ++ t) w X Q (Cl_app.mpr ⟨hs, ht⟩) (by rw [List.length_append]; omega) fun v w' p => by rw [← wst_mv hn]; exact k v w' p
theorem Draws.mono {n : Nat} {f : Store → Res D} {P P' : D → Prop} (h : Draws n f P) (k : ∀ v, P v → P' v) : Draws n f P' := fun s w X Q hs hn q => h s w X Q hs hn fun v w' p => q v w' (k v p)
end L3

/-! ### text Pb -/
namespace L3
open PySem PySem.Spec PyProof.Rows L2

/-! ### operators, where their things are known -/
section
variable {st : Store} {i j : Int} {a b : Str} {xs ys : List D}
theorem o_add : dAdd (.int i) (.int j) st = .ok (.int (i + j)) st := rfl
theorem o_addS (h : a.length + b.length ≤ 1000000) : dAdd (.str a) (.str b) st = .ok (.str (a ++ b)) st := if_pos h
theorem o_addT (h : xs.length + ys.length ≤ 1000000) : dAdd (.tup xs) (.tup ys) st = .ok (.tup (xs ++ ys)) st := if_pos h
theorem o_addF (h : xs.length + ys.length ≤ 1000000) : dAdd (.fl xs) (.fl ys) st = .ok (.fl (xs ++ ys)) st := if_pos h
theorem o_sub : dSub (.int i) (.int j) st = .ok (.int (i - j)) st := rfl
theorem o_mulL (h1 : -18446744073709551616 < i) (h2 : i < 18446744073709551616) : dMul (.int i) (.int j) st = .ok (.int (i * j)) st := if_pos (.inl (by omega))
theorem o_mulR (h1 : -18446744073709551616 < j) (h2 : j < 18446744073709551616) : dMul (.int i) (.int j) st = .ok (.int (i * j)) st := if_pos (.inr (by omega))
theorem o_div (h : 0 < j) (h2 : j < 1073741824) : dDiv (.int i) (.int j) st = .ok (.int (i / j)) st := if_pos ⟨h, h2⟩
theorem o_mod (h : 0 < j) : dMod (.int i) (.int j) st = .ok (.int (i % j)) st := if_pos h
theorem o_pow (h : 0 ≤ j) (h1 : j ≤ 1000) (h2 : -18446744073709551616 < i) (h3 : i < 18446744073709551616) : dPow (.int i) (.int j) st = .ok (.int (i ^ j.toNat)) st := if_pos ⟨h, h1, by omega⟩
theorem o_neg : dNeg (.int i) st = .ok (.int (-i)) st := rfl
theorem o_lt : dLt (.int i) (.int j) st = .ok (.bl (decide (i < j))) st := rfl
theorem o_le : dLe (.int i) (.int j) st = .ok (.bl (decide (i ≤ j))) st := rfl
theorem o_gt : dGt (.int i) (.int j) st = .ok (.bl (decide (j < i))) st := rfl
theorem o_ge : dGe (.int i) (.int j) st = .ok (.bl (decide (j ≤ i))) st := rfl
theorem o_isN {x : D} : dIsN x .non st = .ok (.bl (isN x)) st := rfl
theorem o_notN {x : D} : dNotN x .non st = .ok (.bl (!isN x)) st := rfl
theorem isN_non : isN .non = true := rfl
theorem isN_bl {b : Bool} : isN (.bl b) = false := rfl
theorem isN_int : isN (.int i) = false := rfl
theorem isN_str : isN (.str a) = false := rfl
theorem isN_tup : isN (.tup xs) = false := rfl
theorem isN_fl : isN (.fl xs) = false := rfl
theorem isN_loc {n : Nat} : isN (.loc n) = false := rfl
theorem isN_obj {C : Addr} {ns : List Str} : isN (.obj C ns xs) = false := rfl
theorem o_int : bInt [.int i] st = .ok (.int i) st := rfl
theorem o_intB {b : Bool} : bInt [.bl b] st = .ok (.int (if b then 1 else 0)) st := rfl
theorem o_abs : bAbs [.int i] st = .ok (.int (if i < 0 then -i else i)) st := rfl
theorem o_divmod (h : 0 < j) (h2 : j < 1073741824) : bDivmod [.int i, .int j] st = .ok (.tup [.int (i / j), .int (i % j)]) st := if_pos ⟨h, by omega⟩
theorem o_lenT : bLen [.tup xs] st = .ok (.int xs.length) st := rfl
theorem o_lenF : bLen [.fl xs] st = .ok (.int xs.length) st := rfl
theorem o_lenR : bLen [.rl xs] st = .ok (.int xs.length) st := rfl
theorem o_lenS (h : a.length ≤ 1000000) : bLen [.str a] st = .ok (.int a.length) st := if_pos h
theorem o_max2 : bMax [.int i, .int j] st = .ok (.int (if j > i then j else i)) st := rfl
theorem o_min2 : bMin [.int i, .int j] st = .ok (.int (if j < i then j else i)) st := rfl
theorem o_tupF : bTuple [.fl xs] st = .ok (.tup xs) st := rfl
theorem o_tupR : bTuple [.rl xs] st = .ok (.tup xs) st := rfl
theorem o_tupT : bTuple [.tup xs] st = .ok (.tup xs) st := rfl
theorem o_lenL {n : Nat} (h : st[n]? = some (.lst xs)) : bLen [.loc n] st = .ok (.int xs.length) st := by simp only [bLen, h]
theorem o_tupL {n : Nat} (h : st[n]? = some (.lst xs)) : bTuple [.loc n] st = .ok (.tup xs) st := by simp only [bTuple, sqOf, lsOf, h]
theorem o_append {n : Nat} {d : D} (h : st[n]? = some (.lst xs)) (hl : xs.length < 1000000) : dAppend (.loc n) [d] st = .ok .non (st.set n (.lst (xs ++ [d]))) := by simp only [dAppend, h, if_pos hl]
theorem o_isLs {n : Nat} (h : st[n]? = some (.lst xs)) : isLs (.loc n) st = true := by simp only [isLs, lsOf, h, Option.isSome]
theorem o_eqS : dEq (.str a) (.str b) st = .ok (.bl (decide (a = b))) st := rfl
theorem o_neS : dNe (.str a) (.str b) st = .ok (.bl (!decide (a = b))) st := rfl
theorem o_cutT {lo hi : Option Int} : dCut (.tup xs) lo hi st = .ok (.tup (cutD xs lo hi)) st := rfl
theorem o_cutF {lo hi : Option Int} : dCut (.fl xs) lo hi st = .ok (.fl (cutD xs lo hi)) st := rfl
theorem o_cutS {lo hi : Option Int} (h : a.length ≤ 1000000) : dCut (.str a) lo hi st = .ok (.str (cutS a lo hi)) st := if_pos h
theorem wp_ixT {X : XP} {Q : D → Store → Prop} : (dIx (.tup xs) (.int i) st).wp X Q = match atI xs i with | some d => Q d st | none => False := by
  unfold dIx; simp only [sqOf]; cases atI xs i <;> rfl
theorem wp_ixF {X : XP} {Q : D → Store → Prop} : (dIx (.fl xs) (.int i) st).wp X Q = match atI xs i with | some d => Q d st | none => False := by
  unfold dIx; simp only [sqOf, lsOf]; cases atI xs i <;> rfl
theorem wp_ixR {X : XP} {Q : D → Store → Prop} : (dIx (.rl xs) (.int i) st).wp X Q = match atI xs i with | some d => Q d st | none => False := by
  unfold dIx; simp only [sqOf, lsOf]; cases atI xs i <;> rfl
theorem wp_ixL {n : Nat} {X : XP} {Q : D → Store → Prop} (h : st[n]? = some (.lst xs)) : (dIx (.loc n) (.int i) st).wp X Q = match atI xs i with | some d => Q d st | none => False := by
  unfold dIx; simp only [sqOf, lsOf, h]; cases atI xs i <;> rfl
end
section
variable {α : Type} {a b c d e f g : α} {l : List α}
theorem at0I : atI (a :: l) 0 = some a := by unfold atI ixN; rw [if_pos (by decide), if_pos (by simp only [List.length_cons]; omega)]; rfl
theorem at1I : atI (a :: b :: l) 1 = some b := by unfold atI ixN; rw [if_pos (by decide), if_pos (by simp only [List.length_cons]; omega)]; rfl
theorem at2I : atI (a :: b :: c :: l) 2 = some c := by unfold atI ixN; rw [if_pos (by decide), if_pos (by simp only [List.length_cons]; omega)]; rfl
theorem at3I : atI (a :: b :: c :: d :: l) 3 = some d := by unfold atI ixN; rw [if_pos (by decide), if_pos (by simp only [List.length_cons]; omega)]; rfl
theorem at4I : atI (a :: b :: c :: d :: e :: l) 4 = some e := by unfold atI ixN; rw [if_pos (by decide), if_pos (by simp only [List.length_cons]; omega)]; rfl
theorem atN {xs : List α} {i : Nat} (h : i < xs.length) : atI xs (i : Int) = some xs[i] := by
  unfold atI ixN; rw [if_pos (by omega), if_pos (by omega)]; simp [h]
theorem atZ {xs : List α} {i : Int} (h0 : 0 ≤ i) (h : i < xs.length) : atI xs i = some (xs[i.toNat]'(by omega)) := by
  unfold atI ixN; rw [if_pos h0, if_pos h]; simp
theorem atLast {xs : List α} (h : xs ≠ []) : atI xs (-1) = some (xs.getLast h) := by
  have hl := List.length_pos_iff.mpr h
  unfold atI ixN
  rw [if_neg (by decide), if_pos (by omega)]
  show xs[((-1 : Int) + xs.length).toNat]? = _
  rw [show ((-1 : Int) + xs.length).toNat = xs.length - 1 by omega, List.getLast_eq_getElem, List.getElem?_eq_getElem (by omega)]
end
/-! ### nice data -/
def StrOk (x : Str) : Prop := PyData.strOk x = true
/-- may be shown, compared: at most k deep, at most n signs -/
structure DatP (k n : Nat) (d : D) (p : PyData) : Prop where
  e : toP d = some p
  c : p.canLay0 = true
  o : pok p = true
  dp : p.depth ≤ k
  w : pw p ≤ n
def Dat (k n : Nat) (d : D) : Prop := ∃ p, DatP k n d p
structure DatLP (k n : Nat) (ds : List D) (ps : List PyData) : Prop where
  e : toPs ds = some ps
  c : PyData.canLayAll0 ps = true
  o : pokL ps = true
  dp : PyData.depthAll ps ≤ k
  w : pwL ps ≤ n
def DatL (k n : Nat) (ds : List D) : Prop := ∃ ps, DatLP k n ds ps
section
variable {k n m : Nat} {d : D} {ds : List D}
theorem Dat.mono {k' n' : Nat} (h : Dat k n d) (hk : k ≤ k') (hn : n ≤ n') : Dat k' n' d := let ⟨p, h⟩ := h; ⟨p, h.e, h.c, h.o, Nat.le_trans h.dp hk, Nat.le_trans h.w hn⟩
theorem DatL.mono {k' n' : Nat} (h : DatL k n ds) (hk : k ≤ k') (hn : n ≤ n') : DatL k' n' ds := let ⟨p, h⟩ := h; ⟨p, h.e, h.c, h.o, Nat.le_trans h.dp hk, Nat.le_trans h.w hn⟩
theorem Dat.int {i : Int} (h : i.natAbs < 10 ^ 100) : Dat k 101 (.int i) := ⟨.int i, rfl, rfl, decide_eq_true h, Nat.zero_le _, Nat.le_refl _⟩
theorem Dat.bl {b : Bool} : Dat k 5 (.bl b) := ⟨.bool b, rfl, rfl, rfl, Nat.zero_le _, Nat.le_refl _⟩
theorem Dat.non : Dat k 4 .non := ⟨.none, rfl, rfl, rfl, Nat.zero_le _, Nat.le_refl _⟩
theorem strOk_pok {x : Str} (h : StrOk x) : pok (.str x) = true := by
  show (x.cps.toList.all fun c => decide (c < 16 ^ 8)) = true
  unfold StrOk PyData.strOk at h
  rw [← Array.all_toList, List.all_eq_true] at h
  rw [List.all_eq_true]
  exact fun c hc => decide_eq_true (Nat.lt_of_lt_of_le (of_decide_eq_true (h c hc)) (by decide))
theorem Dat.str {x : Str} (h : StrOk x) (hl : 10 * x.length + 2 ≤ n) : Dat k n (.str x) := ⟨.str x, rfl, h, strOk_pok h, Nat.zero_le _, hl⟩
theorem strOk_lit (s : String) : StrOk (Str.ofString s) := by
  unfold StrOk PyData.strOk
  rw [← Array.all_toList, List.all_eq_true]
  exact fun c hc => decide_eq_true (lit_lt s c hc)
theorem DatL.nil : DatL k n [] := ⟨[], rfl, rfl, rfl, Nat.zero_le _, Nat.zero_le _⟩
theorem DatL.cons (h : Dat k n d) (hs : DatL k m ds) : DatL k (n + 2 + m) (d :: ds) := by
  obtain ⟨p, h⟩ := h
  obtain ⟨ps, hs⟩ := hs
  refine ⟨p :: ps, by simp only [toPs, h.e, hs.e], by simp [PyData.canLayAll0, h.c, hs.c], by simp [pokL, h.o, hs.o], ?_, ?_⟩
  · have := h.dp; have := hs.dp; simp only [PyData.depthAll]; omega
  · have := h.w; have := hs.w; simp only [pwL]; omega
theorem Dat.tup (h : DatL k n ds) : Dat (k + 1) (n + 3) (.tup ds) := by
  obtain ⟨ps, h⟩ := h
  exact ⟨.tuple ps, by simp [toP, h.e], h.c, h.o, by have := h.dp; simp only [PyData.depth]; omega, by have := h.w; simp only [pw]; omega⟩
theorem Dat.fl (h : DatL k n ds) : Dat (k + 1) (n + 3) (.fl ds) := by
  obtain ⟨ps, h⟩ := h
  exact ⟨.list ps, by simp [toP, h.e], h.c, h.o, by have := h.dp; simp only [PyData.depth]; omega, by have := h.w; simp only [pw]; omega⟩
theorem Dat.rl (h : DatL k n ds) : Dat (k + 1) (n + 3) (.rl ds) := by
  obtain ⟨ps, h⟩ := h
  exact ⟨.list ps, by simp [toP, h.e], h.c, h.o, by have := h.dp; simp only [PyData.depth]; omega, by have := h.w; simp only [pw]; omega⟩
theorem DatL.all (h : ∀ d ∈ ds, Dat k n d) : DatL k (ds.length * (n + 2)) ds := by
  induction ds with
  | nil => exact .nil
  | cons d ds ih =>
    have := DatL.cons (h d List.mem_cons_self) (ih fun x hx => h x (List.mem_cons_of_mem _ hx))
    refine this.mono (Nat.le_refl _) ?_
    simp only [List.length_cons, Nat.add_mul]
    omega
theorem DatL.app {ds es : List D} {n m : Nat} (h : DatL k n ds) (h2 : DatL k m es) : DatL k (n + m) (ds ++ es) := by
  induction ds generalizing n with
  | nil => exact h2.mono (Nat.le_refl _) (by omega)
  | cons d ds ih =>
    obtain ⟨ps, h⟩ := h
    have he := h.e
    simp only [toPs] at he
    split at he
    · rename_i p qs e1 e2
      cases he
      have hc := h.c; have ho := h.o; have hd := h.dp; have hw := h.w
      simp only [PyData.canLayAll0, Bool.and_eq_true] at hc
      simp only [pokL, Bool.and_eq_true] at ho
      simp only [PyData.depthAll] at hd
      simp only [pwL] at hw
      have r := ih (n := pwL qs) ⟨qs, e2, hc.2, ho.2, by omega, Nat.le_refl _⟩
      have := DatL.cons (n := pw p) ⟨p, e1, hc.1, ho.1, by omega, Nat.le_refl _⟩ r
      exact this.mono (Nat.le_refl _) (by omega)
    · cases he
/-- one of a list's -/
theorem DatL.mem (h : DatL k n ds) (hd : d ∈ ds) : Dat k n d := by
  induction ds generalizing n with
  | nil => cases hd
  | cons e ds ih =>
    obtain ⟨ps, h⟩ := h
    have he := h.e
    simp only [toPs] at he
    split at he
    · rename_i p qs e1 e2
      cases he
      have hc := h.c; have ho := h.o; have hp := h.dp; have hw := h.w
      simp only [PyData.canLayAll0, Bool.and_eq_true] at hc
      simp only [pokL, Bool.and_eq_true] at ho
      simp only [PyData.depthAll] at hp
      simp only [pwL] at hw
      rcases List.mem_cons.mp hd with rfl | hd
      · exact ⟨p, e1, hc.1, ho.1, by omega, by omega⟩
      · exact ih ⟨qs, e2, hc.2, ho.2, by omega, by omega⟩ hd
    · cases he
theorem Dat.shut (h : Dat k n d) (i : Nat) : shut i d = true := let ⟨p, h⟩ := h; shut_toP d p h.e
theorem DatL.shut (h : DatL k n ds) (i : Nat) : shutL i ds = true := let ⟨p, h⟩ := h; shutL_toP ds p h.e
theorem DatP.rep {p : PyData} (h : DatP k n d p) (hk : k ≤ 40) (hn : n ≤ 1000000) : reprOk p = true := reprOk_of h.o (Nat.le_trans h.w hn) (Nat.le_trans h.dp hk)
theorem DatP.shaped {p : PyData} (h : DatP k n d p) (hk : k ≤ 64) : SeqAt.shaped p = true := by
  unfold SeqAt.shaped
  rw [h.c, decide_eq_true (Nat.le_trans h.dp hk)]
  rfl
/-- the text of a value at the top -/
theorem toPd_ls {st : Store} {ps : List PyData} (h : lsOf d st = some ds) (e : toPs ds = some ps) : toPd d st = some (.list ps) := by
  cases d with
  | fl xs => simp only [lsOf, Option.some.injEq] at h; subst h; simp [toPd, toP, e]
  | rl xs => simp only [lsOf, Option.some.injEq] at h; subst h; simp [toPd, toP, e]
  | loc m =>
    simp only [lsOf] at h
    split at h
    · rename_i xs q; cases h; simp [toPd, q, e]
    · cases h
  | _ => cases h
theorem toPd_of {st : Store} {p : PyData} (e : toP d = some p) : toPd d st = some p := by
  cases d <;> first | exact e | (cases e; done)
/-- repr of two lists with the same things -/
theorem o_repr {st : Store} {p : PyData} (e : toPd d st = some p) (h : reprOk p = true) : bRepr [d] st = .ok (.str p.shown) st := by simp only [bRepr, e, if_pos h]
end
/-! ### == over data -/
theorem o_eqD {k n k' n' : Nat} {x y : D} {p q : PyData} {st : Store} (hx : DatP k n x p) (hy : DatP k' n' y q) (hk : k ≤ 64) (hk' : k' ≤ 64) : dEq x y st = .ok (.bl (PyData.eqv p q)) st := by
  have e1 := toPd_of (st := st) hx.e
  have e2 := toPd_of (st := st) hy.e
  have s1 := hx.shaped hk
  have s2 := hy.shaped hk'
  unfold dEq
  split
  · rename_i a b
    have a1 := hx.e; have a2 := hy.e
    simp only [toP, Option.some.injEq] at a1 a2
    subst a1 a2
    show _ = Res.ok (D.bl (a == b)) st
    by_cases h : a = b <;> simp [h]
  · rw [e1, e2]; dsimp only; rw [if_pos ⟨s1, s2⟩]
theorem o_neD {k n k' n' : Nat} {x y : D} {p q : PyData} {st : Store} (hx : DatP k n x p) (hy : DatP k' n' y q) (hk : k ≤ 64) (hk' : k' ≤ 64) : dNe x y st = .ok (.bl (!PyData.eqv p q)) st := by
  have e1 := toPd_of (st := st) hx.e
  have e2 := toPd_of (st := st) hy.e
  have s1 := hx.shaped hk
  have s2 := hy.shaped hk'
  unfold dNe
  split
  · rename_i a b
    have a1 := hx.e; have a2 := hy.e
    simp only [toP, Option.some.injEq] at a1 a2
    subst a1 a2
    show _ = Res.ok (D.bl (!(a == b))) st
    by_cases h : a = b <;> simp [h]
  · rw [e1, e2]; dsimp only; rw [if_pos ⟨s1, s2⟩]
theorem o_eqI {i j : Int} {st : Store} : dEq (.int i) (.int j) st = .ok (.bl (decide (i = j))) st := dEq_int i j st
theorem o_neI {i j : Int} {st : Store} : dNe (.int i) (.int j) st = .ok (.bl (!decide (i = j))) st := dNe_int i j st
/-- == () -/
theorem o_eq0 {k n : Nat} {xs : List D} {st : Store} (h : DatL k n xs) (hk : k ≤ 63) : dEq (.tup xs) (.tup []) st = .ok (.bl (decide (xs = []))) st := by
  obtain ⟨p, hp⟩ := Dat.tup h
  have hq : DatP 1 3 (.tup []) (.tuple []) := ⟨rfl, rfl, rfl, by decide, by decide⟩
  rw [o_eqD hp hq (by omega) (by decide)]
  have e := hp.e
  simp only [toP, Option.map_eq_some_iff] at e
  obtain ⟨ps, e1, rfl⟩ := e
  cases xs with
  | nil => cases e1; rfl
  | cons x xs =>
    simp only [toPs] at e1
    split at e1
    · cases e1; rfl
    · cases e1
end L3
namespace L3
open PySem PySem.Spec PyProof.Rows L2
theorem cut_to {α : Type} {xs : List α} {j : Nat} : cutD xs none (some (j : Int)) = xs.take j := by
  unfold cutD HT.sIx
  dsimp only
  by_cases h : (j : Int) ≤ xs.length
  · rw [if_neg (by omega)]; simp
  · rw [if_neg (by omega)]; simp
theorem cut_from {α : Type} {xs : List α} {j : Nat} : cutD xs (some (j : Int)) none = xs.drop j := by
  unfold cutD HT.sIx
  dsimp only
  rw [if_neg (by omega)]
  by_cases h : (j : Int) ≤ xs.length
  · simp; rw [show min j xs.length = j by omega]; apply List.take_of_length_le; simp
  · simp; rw [show min j xs.length = xs.length by omega]; simp; omega
end L3
namespace L3
open PySem PySem.Spec PyProof.Rows L2
theorem Dat.len {k n : Nat} {x : Str} (h : Dat k n (.str x)) : 10 * x.length + 2 ≤ n := by
  obtain ⟨p, h⟩ := h
  have e := h.e
  simp only [toP, Option.some.injEq] at e
  subst e
  exact h.w
end L3

/-! ### text Pc -/
namespace L3
open PySem PySem.Spec PyProof.Rows L2
section
variable {δ : Sl} {st st' : Store} {nx : Sl → Store → Prop} {rt : D → Store → Prop} {bk ct : Sl → Store → Prop} {er : Addr → Option (Str × D) → Sl → Store → Prop} {X : XP} {Q : D → Store → Prop} {K : PySem.W.Frag}
theorem wp_sRaise {C : Addr} {fld : Str} {m : EM} : (sRaise C fld m δ st).wp ⟨nx, rt, bk, ct, er⟩ = (m δ st).wp (fun C p s => er C p δ s) fun d st1 => er C (some (fld, d)) δ st1 := by unfold sRaise; rw [wp_sBind]; rfl
theorem wp_eClo {i : Nat} {g : Addr} {ap : List D → Store → Res D} {m : AM} : (eClo i g ap m δ st).wp X Q = slotP δ[i]? fun d => d = .ref g ∧ (m δ st).wp X fun xs st1 => (ap xs st1).wp X Q := by
  unfold eClo
  cases e : δ[i]? with
  | none => rfl
  | some o =>
    cases o with
    | none => rfl
    | some d =>
      cases d with
      | ref b =>
        by_cases h : b = g
        · simp [h, wp_bind]
        · dsimp only [slotP]; rw [if_neg h]; simp [h]
      | _ => simp [slotP]
theorem wp_eCallN {mf : Addr → (List D → Store → Res D) → List D → Store → Res D} {g : Addr} {lv : Nat → D → Store → Res D} {n k : Nat} {js : List Nat} {m : SM} {mas : AM} : (eCallN mf g lv n k js m mas δ st).wp X Q = (mas δ st).wp X fun xs st1 => (mf g (cloM lv n k m (capsOf js δ)) xs st1).wp X Q := wp_bind
theorem SRes.rt_eq {r : SRes} {v : D} {s : Store} (h : r.wp ⟨fun _ _ => False, fun d st => d = v ∧ st = s, fun _ _ => False, fun _ _ => False, fun _ _ _ _ => False⟩) : r = .rt v s := by
  cases r with
  | rt d st => obtain ⟨rfl, rfl⟩ := h; rfl
  | _ => exact h.elim
theorem SRes.er_eq {r : SRes} {C : Addr} {p : Option (Str × D)} {s : Store} (h : r.wp ⟨fun _ _ => False, fun _ _ => False, fun _ _ => False, fun _ _ => False, fun C' p' _ st => C' = C ∧ p' = p ∧ st = s⟩) : ∃ δ, r = .err C p δ s := by
  cases r with
  | err C' p' δ st => obtain ⟨rfl, rfl, rfl⟩ := h; exact ⟨δ, rfl⟩
  | _ => exact h.elim
theorem sDef_rt {i : Nat} {n : Addr → SM} {v : D} (h : ∀ f, n f (δ.set i (some (.ref f))) st = .rt v st') : sDef i n δ st = .rt v st' := by
  unfold sDef
  exact anyF_eq fun f => by rw [h f]
theorem eCallL_eq {mf : Addr → (List D → Store → Res D) → List D → Store → Res D} {n k : Nat} {js : List Nat} {me : EM} {m : AM} {xs : List D} {r : Res D} (hm : m δ st = .ok xs st') (h : ∀ f, mf f (lamM n k me (capsOf js δ)) (xs ++ [.ref f]) st' = r) : eCallL mf n k js me m δ st = r := by
  unfold eCallL
  rw [hm]
  exact anyF_eq h
/-- f(lambda: ..), where the call is alike for all places of the lambda -/
theorem wp_eCallL0 {mf : Addr → (List D → Store → Res D) → List D → Store → Res D} {n k : Nat} {js : List Nat} {me : EM} {v : D} (h : ∀ f, mf f (lamM n k me (capsOf js δ)) [.ref f] st = .ok v st') (q : Q v st') : (eCallL mf n k js me aNil δ st).wp X Q := by
  rw [eCallL_eq (m := aNil) (xs := []) rfl h]
  exact q
theorem wp_lamM {n k : Nat} {me : EM} {caps : Sl} {ds : List D} : (lamM n k me caps ds st).wp X Q = (ds.length = k ∧ (me (begF n ds caps) st).wp X Q) := by
  unfold lamM
  by_cases h : ds.length = k <;> simp [h]
theorem wp_cloM {lv : Nat → D → Store → Res D} {n k : Nat} {m : SM} {caps : Sl} {ds : List D} : (cloM lv n k m caps ds st).wp X Q = (ds.length = k ∧ (m (begF n ds caps) st).wp ⟨fun _ st1 => (lv st.length .non st1).wp X Q, fun d st1 => (lv st.length d st1).wp X Q, fun _ _ => False, fun _ _ => False, fun C p _ st1 => (leaveE st.length C p st1).wp X Q⟩) := by
  have key : ∀ r, (endF lv st.length r).wp X Q = r.wp ⟨fun _ st1 => (lv st.length .non st1).wp X Q, fun d st1 => (lv st.length d st1).wp X Q, fun _ _ => False, fun _ _ => False, fun C p _ st1 => (leaveE st.length C p st1).wp X Q⟩ := fun r => by
    cases r <;> rfl
  unfold cloM
  by_cases h : ds.length = k
  · rw [if_pos h, key]; simp [h]
  · rw [if_neg h]; simp [h]
theorem wp_sTry {l : List Hd} {m : SM} : (sTry K l m δ st).wp ⟨nx, rt, bk, ct, er⟩ = (m δ st).wp ⟨nx, rt, bk, ct, fun C p δ' st' => (sHandle K l C p δ' st').wp ⟨nx, rt, bk, ct, er⟩⟩ := by
  unfold sTry
  cases m δ st <;> rfl
theorem wp_eProp {C : Addr} {mf : List D → Store → Res D} {m : EM} : (eProp C mf m δ st).wp X Q = (m δ st).wp X fun x st1 => match objOf x st1 with | some (C', _, _) => C' = C ∧ (mf [x] st1).wp noX Q | none => False := by
  unfold eProp; rw [wp_bind]; congr 1; funext x s
  cases h : objOf x s with
  | none => rfl
  | some z =>
    obtain ⟨C', ns, ds⟩ := z
    by_cases hc : C' = C
    · simp only [hc, if_true, true_and, wp_okOnly]
    · simp [hc]
theorem wp_listA {ds : List D} : (bListA [.tup ds] st).wp X Q = Q (.loc st.length) (psh st (.lst ds)) := rfl
theorem wp_listF {ds : List D} : (bListA [.fl ds] st).wp X Q = Q (.loc st.length) (psh st (.lst ds)) := rfl
theorem wp_listS {z : Str} (h : z.length ≤ 1000000) : (bListA [.str z] st).wp X Q = Q (.loc st.length) (psh st (.lst (z.cps.toList.map fun c => .str ⟨#[c]⟩))) := by
  simp only [bListA, if_pos h, wp_ok, psh]
theorem o_listZT {ds : List D} : bListZ [.tup ds] st = .ok (.fl ds) st := rfl
theorem o_listZF {ds : List D} : bListZ [.fl ds] st = .ok (.fl ds) st := rfl
theorem wp_popAt {n : Nat} {ys : List D} {i : Int} (h : st[n]? = some (.lst ys)) (hl : ys.length ≤ 1000000) (h0 : 0 ≤ i) (h1 : i < ys.length) : (dPopAt (.loc n) [.int i] st).wp X Q = Q (ys[i.toNat]'(by omega)) (st.set n (.lst (ys.eraseIdx i.toNat))) := by
  have hi : i.toNat < ys.length := by omega
  simp only [dPopAt, h, if_pos hl, ixN, if_pos h0, if_pos h1, List.getElem?_eq_getElem hi, wp_ok]
theorem o_refl_repr {d : D} {k n : Nat} (h : Dat k n d) (hk : k ≤ 40) (hn : n ≤ 1000000) : ∃ z, ∀ st, bRepr [d] st = .ok (.str z) st := by
  obtain ⟨p, hp⟩ := h
  exact ⟨_, fun st => o_repr (toPd_of hp.e) (hp.rep hk hn)⟩
end
/-- an instance that holds data -/
theorem objOf_obj {C : Addr} {ns : List Str} {ds : List D} {st : Store} : objOf (.obj C ns ds) st = some (C, ns, ds) := rfl
end L3
namespace L3
open PySem PySem.Spec PyProof.Rows L2
theorem loop_nil {keep : Store → Prop} {t : Nm} {m : SM} {n0 : Nat} {δ : Sl} {st : Store} (h : keep st) : loop keep t m n0 [] δ st = .nx δ st := by rw [loop, if_pos h]
theorem loop_one {keep : Store → Prop} {i : Nat} {m : SM} {n0 : Nat} {δ : Sl} {st : Store} {x : D} {nx : Sl → Store → Prop} {rt : D → Store → Prop} {bk ct : Sl → Store → Prop} {er : Addr → Option (Str × D) → Sl → Store → Prop} (h : keep st) (q : (m (δ.set i (some x)) st).wp ⟨fun _ _ => False, rt, nx, fun _ _ => False, er⟩) : (loop keep (.one i) m n0 [x] δ st).wp ⟨nx, rt, bk, ct, er⟩ := by
  rw [loop, if_pos h]
  simp only [Nm.put]
  cases e : m (δ.set i (some x)) st with
  | nx a b => rw [e] at q; exact q.elim
  | ct a b => rw [e] at q; exact q.elim
  | bad => rw [e] at q; exact q.elim
  | rt a b => rw [e] at q; exact q
  | bk a b => rw [e] at q; exact q
  | err a b c d => rw [e] at q; exact q
theorem lit_beq (a b : String) : (Str.ofString a == Str.ofString b) = decide (a = b) := by
  rw [Bool.eq_iff_iff, beq_iff_eq, lit_eq, decide_eq_true_iff]
end L3
namespace L3
open PySem PySem.Spec PyProof.Rows L2
/-! ### sorted -/
theorem dataLe_tot {k : D → PyData} : PySem.W.TotalLe (PySem.W.dataLe false k) := PySem.W.sortLe_total _ _ _
theorem map_of {α β : Type} {f : α → β} {P : α → Prop} : ∀ {zs : List β}, (∀ z ∈ zs, ∃ l, P l ∧ z = f l) → ∃ ls : List α, zs = ls.map f ∧ ∀ l ∈ ls, P l
  | [], _ => ⟨[], rfl, by simp⟩
  | z :: zs, h => by
    obtain ⟨l, hl, rfl⟩ := h z List.mem_cons_self
    obtain ⟨ls, rfl, h2⟩ := map_of fun z hz => h z (List.mem_cons_of_mem _ hz)
    exact ⟨l :: ls, rfl, by simpa using ⟨hl, h2⟩⟩
theorem sorted_pw (ds : List D) : (ds.mergeSort (PySem.W.dataLe false encD)).Pairwise fun a b => (!PySem.W.dataLt (encD b) (encD a)) = true := by
  have h := List.pairwise_mergeSort (le := PySem.W.dataLe false encD) (fun a b c => dataLe_tot.trans a b c) (fun a b => by simpa using dataLe_tot.total a b) ds
  exact h
end L3
namespace L3
open PySem PySem.Spec PyProof.Rows L2
theorem wp_eCh2 {f g : D → D → Store → Res D} {ma mb mc : EM} {δ : Sl} {st : Store} {X : XP} {Q : D → Store → Prop} : (eCh2 f g ma mb mc δ st).wp X Q = (ma δ st).wp X fun x st1 => (mb δ st1).wp X fun y st2 => (f x y st2).wp X fun k st3 => match k with
    | .bl b => if b = true then (mc δ st3).wp X fun z st4 => (g y z st4).wp X Q else Q (.bl false) st3
    | _ => False := by
  unfold eCh2; rw [wp_bind]; congr 1; funext x s; rw [wp_bind]; congr 1; funext y s; rw [wp_bind]; congr 1; funext k s
  cases k <;> try rfl
  rename_i b
  cases b
  · rfl
  · dsimp only; rw [wp_bind]; rfl
theorem o_mulF {xs : List D} {k : Int} {st : Store} (h0 : 0 ≤ k) (h1 : k ≤ 1000) (h2 : xs.length ≤ 1000) : dMul (.fl xs) (.int k) st = .ok (.fl (List.replicate k.toNat xs).flatten) st := by
  simp only [dMul, trOf, if_pos (show 0 ≤ k ∧ k ≤ 1000 ∧ xs.length ≤ 1000 from ⟨h0, h1, h2⟩)]
theorem inV_ints (x : Int) (l : List Int) : inV (.int x) (l.map V.int) = decide (x ∈ l) := by
  unfold inV
  induction l with
  | nil => simp
  | cons a l ih =>
    rw [List.map_cons, List.any_cons, ih]
    show ((a == x) || _) = _
    by_cases h : a = x
    · subst h; simp
    · have : ¬ x = a := fun e => h e.symm
      simp [h, this]
theorem fVs_ints : ∀ l : List Int, fVs (l.map D.int) = some (l.map V.int)
  | [] => rfl
  | a :: l => by simp [fVs, fV, fVs_ints l]
theorem in_ints {x : Int} {l : List Int} {st : Store} : dIn false (.int x) (.tup (l.map D.int)) st = .ok (.bl (decide (x ∈ l))) st := by
  simp [dIn, sqOf, fV, fVs_ints, inV_ints]
theorem in_intsF {x : Int} {l : List Int} {st : Store} : dIn false (.int x) (.fl (l.map D.int)) st = .ok (.bl (decide (x ∈ l))) st := by
  simp [dIn, sqOf, lsOf, fV, fVs_ints, inV_ints]
end L3

/-! ### text Pd -/
namespace L3
open PySem PySem.Spec PyProof.Rows L2
/-! ### the rules of the plain laws, in one -/
def RWP0 := And.intro @wp_sRaise <| And.intro @wp_serr <| And.intro @wp_eClo <| And.intro @wp_eCallN <| And.intro @wp_lamM <| And.intro @wp_cloM <| And.intro @wp_sTry <| And.intro @wp_eProp <| And.intro @wp_listA <| And.intro @wp_listF <| And.intro @wp_ok <| And.intro @wp_bind <| And.intro @wp_sBind <| And.intro @wp_eV <| And.intro @slotP_some <| And.intro @wp_eC <| And.intro @wp_e1 <| And.intro @wp_e2 <| And.intro @wp_t2 <| And.intro @wp_tVal <| And.intro @wp_tAnd <| And.intro @wp_tOr <| And.intro @wp_tNot @wp_eNot
def RWP1 := And.intro @wp_eAnd <| And.intro @wp_eOr <| And.intro @wp_eIf <| And.intro @wp_aNil <| And.intro @wp_aStar <| And.intro @wp_eRevT <| And.intro @wp_aCons <| And.intro @wp_eTup <| And.intro @wp_eLst <| And.intro @wp_eLstN <| And.intro @wp_eDictN <| And.intro @wp_eN <| And.intro @wp_oNone <| And.intro @wp_oSome <| And.intro @wp_eCut <| And.intro @wp_eCall1 <| And.intro @wp_eCall <| And.intro @wp_eMake <| And.intro @wp_eBM <| And.intro @wp_eFld <| And.intro @wp_sNil <| And.intro @wp_sSeq <| And.intro @wp_sIf <| And.intro @wp_sRet <| And.intro @wp_sRetN <| And.intro @wp_sSet @wp_sDrop
def RWP2 := And.intro @wp_sPar3 <| And.intro @wp_sPar <| And.intro @wp_sAsg <| And.intro @wp_gNm <| And.intro @wp_gNms <| And.intro @wp_gTup <| And.intro @wp_gsNil <| And.intro @wp_gsCons <| And.intro @wp_gSub <| And.intro @wp_sFldS <| And.intro @wp_sFor <| And.intro @wp_eLC <| And.intro @wp_iSeqT <| And.intro @wp_iRange1 <| And.intro @wp_iRange2 <| And.intro @wp_iEnumA <| And.intro @wp_iZip <| And.intro @wp_sBrk <| And.intro @wp_sCnt <| And.intro @wp_tYes <| And.intro @wp_fnM <| And.intro @wp_okOnly <| And.intro @wp_nx <| And.intro @wp_rt <| And.intro @wp_bk @wp_ct
def RWP3 := And.intro @wp_err <| And.intro @wp_bad @wp_sbad
def RST0 := And.intro @lst_len <| And.intro @lst_psh <| And.intro @lst_0 <| And.intro @lst_k <| And.intro @lst_set0 <| And.intro @lst_setk <| And.intro @lst_Cl <| And.intro @wst_len <| And.intro @wst_psh <| And.intro @wst_0 <| And.intro @wst_k <| And.intro @wst_set0 @wst_setk
def ROPS0 := And.intro @o_listZT <| And.intro @o_listZF <| And.intro @o_add <| And.intro @o_sub <| And.intro @o_mulL <| And.intro @o_mulR <| And.intro @o_div <| And.intro @o_mod <| And.intro @o_neg <| And.intro @o_lt <| And.intro @o_le <| And.intro @o_gt <| And.intro @o_ge <| And.intro @o_isN <| And.intro @o_notN <| And.intro @isN_non <| And.intro @isN_bl <| And.intro @isN_int <| And.intro @isN_str <| And.intro @isN_tup <| And.intro @isN_fl <| And.intro @isN_loc <| And.intro @isN_obj <| And.intro @o_int @o_intB
def ROPS1 := And.intro @o_abs <| And.intro @o_divmod <| And.intro @o_lenT <| And.intro @o_lenF <| And.intro @o_lenR <| And.intro @o_max2 <| And.intro @o_min2 <| And.intro @o_tupF <| And.intro @o_tupR <| And.intro @o_tupT <| And.intro @o_eqS <| And.intro @o_neS <| And.intro @o_eqI <| And.intro @o_neI <| And.intro @o_cutT <| And.intro @o_cutF <| And.intro @wp_ixT <| And.intro @wp_ixF <| And.intro @wp_ixR @o_pow
end L3

/-! ### text Pe -/
namespace L3
open PySem PySem.Spec PyProof.Rows L2
/-! ### what is shown is a text of signs -/
theorem strOk_iff {x : Str} : StrOk x ↔ ∀ c ∈ x.cps.toList, c < 0x110000 := by
  unfold StrOk PyData.strOk
  rw [← Array.all_toList, List.all_eq_true]
  exact ⟨fun h c hc => of_decide_eq_true (h c hc), fun h c hc => decide_eq_true (h c hc)⟩
theorem strApp_cps' (a b : Str) : (a ++ b).cps.toList = a.cps.toList ++ b.cps.toList := by
  show (a.cps ++ b.cps).toList = _
  simp
theorem StrOk.app {a b : Str} (ha : StrOk a) (hb : StrOk b) : StrOk (a ++ b) := by
  rw [strOk_iff] at *
  intro c hc
  rw [strApp_cps', List.mem_append] at hc
  exact hc.elim (ha c) (hb c)
theorem hex_ok {w c : Nat} : ∀ x ∈ (List.replicate (w - ((Nat.toDigits 16 c).map Char.toNat).length) 48 ++ (Nat.toDigits 16 c).map Char.toNat), x < 0x110000 := by
  intro x hx
  rw [List.mem_append] at hx
  rcases hx with hx | hx
  · rw [List.eq_of_mem_replicate hx]; decide
  · obtain ⟨ch, _, rfl⟩ := List.mem_map.mp hx
    have := ch.valid
    have e : ch.toNat = ch.val.toNat := rfl
    rw [e]
    rcases this with h | h
    · exact Nat.lt_trans h (by decide)
    · exact h.2
theorem reprChar_ok {q c : Nat} (hc : c < 0x110000) : ∀ x ∈ Builtin.Str.reprChar q c, x < 0x110000 := by
  intro x hx
  unfold Builtin.Str.reprChar at hx
  dsimp only at hx
  have two : ∀ a : Nat, a < 0x110000 → ∀ {x}, x ∈ [92, a] → x < 0x110000 := fun a ha x hx => by
    simp only [List.mem_cons, List.not_mem_nil, or_false] at hx
    rcases hx with rfl | rfl
    · decide
    · exact ha
  split at hx
  · exact two c hc hx
  split at hx
  · exact two 110 (by decide) hx
  split at hx
  · exact two 114 (by decide) hx
  split at hx
  · exact two 116 (by decide) hx
  split at hx
  · simp only [List.mem_singleton] at hx; rw [hx]; exact hc
  split at hx
  · rcases List.mem_append.mp hx with h | h
    · exact two 120 (by decide) h
    · exact hex_ok x h
  split at hx
  · rcases List.mem_append.mp hx with h | h
    · exact two 117 (by decide) h
    · exact hex_ok x h
  · rcases List.mem_append.mp hx with h | h
    · exact two 85 (by decide) h
    · exact hex_ok x h
theorem foldl_repr_ok (q : Nat) : ∀ (l : List Nat) (acc : Array Nat), (∀ c ∈ l, c < 0x110000) → (∀ c ∈ acc.toList, c < 0x110000) → ∀ x ∈ (l.foldl (fun out c => out ++ (Builtin.Str.reprChar q c).toArray) acc).toList, x < 0x110000
  | [], acc, _, h => h
  | c :: r, acc, h, ha => by
    rw [List.foldl_cons]
    refine foldl_repr_ok q r _ (fun d hd => h d (List.mem_cons_of_mem _ hd)) fun x hx => ?_
    simp only [Array.toList_append, List.mem_append] at hx
    rcases hx with hx | hx
    · exact ha x hx
    · exact reprChar_ok (h c List.mem_cons_self) x hx
theorem reprText_ok {x : Str} (h : StrOk x) : StrOk (PySem.reprText x) := by
  have hq : PySem.reprQuote x < 0x110000 := by unfold PySem.reprQuote; split <;> decide
  rw [strOk_iff] at *
  intro c hc
  unfold PySem.reprText at hc
  simp only [Array.toList_push, List.mem_append, List.mem_singleton] at hc
  rcases hc with hc | rfl
  · rw [← Array.foldl_toList] at hc
    exact foldl_repr_ok _ _ _ h (by simpa using hq) c hc
  · exact hq
theorem textFrom_ok : ∀ (ts : List Str) (k : Nat) (acc : Str), StrOk acc → (∀ t ∈ ts, StrOk t) → StrOk (textFrom k acc ts)
  | [], _, _, ha, _ => ha
  | t :: ts, k, acc, ha, h => by
    refine textFrom_ok ts _ _ ((ha.app ?_).app (h t List.mem_cons_self)) fun x hx => h x (List.mem_cons_of_mem _ hx)
    split <;> exact strOk_lit _
theorem join_ok : ∀ ts : List Str, (∀ t ∈ ts, StrOk t) → StrOk (Str.join ", " ts)
  | [], _ => strOk_lit ""
  | [x], h => h x List.mem_cons_self
  | x :: y :: r, h => ((h x List.mem_cons_self).app (strOk_lit ", ")).app (join_ok (y :: r) fun t ht => h t (List.mem_cons_of_mem _ ht))
mutual
theorem shown_ok : ∀ p : PyData, p.canLay0 = true → StrOk p.shown
  | .none, _ => strOk_lit _
  | .bool b, _ => by cases b <;> exact strOk_lit _
  | .int i, _ => strOk_lit _
  | .str x, h => reprText_ok h
  | .list xs, h => (textFrom_ok _ 0 _ (strOk_lit _) (shownAll_ok xs h)).app (strOk_lit _)
  | .tuple xs, h => by
    refine ((strOk_lit "(").app (join_ok _ (shownAll_ok xs h))).app ?_
    split <;> exact strOk_lit _
  | .dict _, h => by cases h
theorem shownAll_ok : ∀ ps : List PyData, PyData.canLayAll0 ps = true → ∀ t ∈ PyData.shownAll ps, StrOk t
  | [], _, t, ht => by cases ht
  | p :: ps, h, t, ht => by
    simp only [PyData.canLayAll0, Bool.and_eq_true] at h
    simp only [PyData.shownAll, List.mem_cons] at ht
    rcases ht with rfl | ht
    · exact shown_ok p h.1
    · exact shownAll_ok ps h.2 t ht
end
/-- a shown text as data -/
theorem DatP.txt {k n : Nat} {d : D} {p : PyData} (h : DatP k n d p) {j : Nat} : Dat j (10 * n + 2) (.str p.shown) := Dat.str (shown_ok p h.c) (by
  have := pw_le p h.o
  have := h.w
  omega)
end L3

/-! ### text walks -/
namespace K14
open PySem PySem.Spec PyProof.Rows L2 L3
def top (i : Nat) : Stmt := PySem.Challenge.pw_leavelots_k14_contracts_refused.main.body.getD i (.Pass ⟨0, 0, 0, 0⟩)
abbrev s_is_whole : Stmt := (top 12)
abbrev s_is_number : Stmt := (top 13)
abbrev s_is_word : Stmt := (top 14)
abbrev s_is_name : Stmt := (top 15)
abbrev s_is_tuple_of : Stmt := (top 16)
abbrev s_is_one_of : Stmt := (top 17)
abbrev s_wrong_at : Stmt := (top 18)
abbrev s_wrong_from_one : Stmt := (top 19)
abbrev s_wrong_kinds : Stmt := (top 25)
abbrev s_are_some_kinds : Stmt := (top 26)
abbrev s_is_lot : Stmt := (top 27)
abbrev s_wrong_lots : Stmt := (top 28)
abbrev s_units_of : Stmt := (top 29)
abbrev s_check_house : Stmt := (top 32)
abbrev s_sum_behind : Stmt := (top 41)
abbrev s_sums_of : Stmt := (top 42)
abbrev s_parts_of : Stmt := (top 43)
abbrev s_is_contract : Stmt := (top 45)
abbrev s_check_contract : Stmt := (top 46)
abbrev s_lots_by : Stmt := (top 47)
abbrev s_contract_lots : Stmt := (top 48)
abbrev s_House___init__ : Stmt := (inClass (top 31) 0)
abbrev s_with_contract : Stmt := (top 49)
abbrev s__law_well : Stmt := (top 51)
abbrev s__law_draw : Stmt := (top 52)
abbrev s__law_of : Stmt := (top 53)
abbrev s__law_unlike : Stmt := (top 54)
abbrev s__law_is : Stmt := (top 55)
abbrev s__law_words : Stmt := (top 56)
abbrev s__law_names : Stmt := (top 57)
abbrev s__law_lots : Stmt := (top 58)
abbrev s__law_parts : Stmt := (top 59)
abbrev s__law_refused : Stmt := (top 60)
abbrev s__law_odds : Stmt := (top 61)
abbrev s__law_right : Stmt := (top 62)
abbrev s_law : Stmt := (top 63)
abbrev s_House_end : Stmt := (inClass (top 31) 1)
abbrev s_House_kinds : Stmt := (inClass (top 31) 2)
abbrev s_House_lots : Stmt := (inClass (top 31) 3)
abbrev s_House_parts : Stmt := (inClass (top 31) 4)
abbrev s_House_whole : Stmt := (inClass (top 31) 5)
abbrev s_House___eq__ : Stmt := (inClass (top 31) 6)
abbrev nst_wrong_kinds_is_right : Stmt := (defBody s_wrong_kinds).getD 0 (.Pass ⟨0, 0, 0, 0⟩)
abbrev nst_are_some_kinds_is_right : Stmt := (defBody s_are_some_kinds).getD 0 (.Pass ⟨0, 0, 0, 0⟩)
abbrev nst_wrong_lots_is_right : Stmt := (defBody s_wrong_lots).getD 0 (.Pass ⟨0, 0, 0, 0⟩)
abbrev s_InvalidNumber : Stmt := inClass (top 2) 0
abbrev s_InvalidContract : Stmt := inClass (top 3) 0
abbrev s_NotAHouse : Stmt := inClass (top 4) 0
abbrev s_TooMany : Stmt := inClass (top 5) 0
abbrev s_InvalidKinds : Stmt := inClass (top 6) 0
abbrev s_InvalidLots : Stmt := inClass (top 7) 0
def dv_WAYS : List He.Dv := [.str "down", .str "near", .str "up", .str "first", .str "last"]
def dv_WORDS : List He.Dv := [.str "book", .str "booking", .str "day", .str "end", .str "ended", .str "from", .str "go", .str "kinds", .str "left", .str "lost", .str "lot", .str "most", .str "none", .str "of", .str "paid", .str "pay", .str "room", .str "to", .str "units", .str "with"]
def isC (K : PySem.W.Frag) : List Addr := [He.ga K "House"]
noncomputable def m_is_whole (K : PySem.W.Frag) : SM := sRet (eAndM (eN (bIsi K (isC K)) (aCons (eV 0) (aCons (eC (.ty "int")) (aNil)))) (eNotM (eN (bIsi K (isC K)) (aCons (eV 0) (aCons (eC (.ty "bool")) (aNil))))))
noncomputable def mf_is_whole (K : PySem.W.Frag) : List D → Store → Res D := fnM leave 1 1 (m_is_whole K)
noncomputable def m_is_number (K : PySem.W.Frag) : SM := sSeq (sIf (tOrM (tNotM (tVal (eCall1 (mf_is_whole K) (aCons (eV 0) (aNil))))) (tAndM (t2 dNotN (eV 1) (eC .non)) (t2 dLt (eV 0) (eV 1)))) (sRet (eC (.bl false))) (sNil)) (sRet (eOrM (e2 dIsN (eV 2) (eC .non)) (e2 dLe (eV 0) (eV 2))))
noncomputable def mf_is_number (K : PySem.W.Frag) : List D → Store → Res D := fnM leave 3 3 (m_is_number K)
noncomputable def m_is_word (K : PySem.W.Frag) : SM := sRet (eAndM (eN (bIsi K (isC K)) (aCons (eV 0) (aCons (eC (.ty "str")) (aNil)))) (eAndM (e2 dNe (eV 0) (eC (.str ""))) (eN (bAll) (aCons (eLC (iSeq (eV 0)) (.one 1) (tYesM) (e2 (dIn false) (eV 1) (eC (.str "abcdefghijklmnopqrstuvwxyz"))) [1]) (aNil)))))
noncomputable def mf_is_word (K : PySem.W.Frag) : List D → Store → Res D := fnM leave 2 1 (m_is_word K)
noncomputable def m_is_name (K : PySem.W.Frag) : SM := sRet (eAndM (eCall1 (mf_is_word K) (aCons (eV 0) (aNil))) (eAndM (e2 dLe (eN (bLen) (aCons (eV 0) (aNil))) (eC (.int 8))) (e2 (dIn true) (eV 0) (eC (.tup (dv_WORDS.map (dvD K)))))))
noncomputable def mf_is_name (K : PySem.W.Frag) : List D → Store → Res D := fnM leave 1 1 (m_is_name K)
noncomputable def m_is_tuple_of (K : PySem.W.Frag) : SM := sRet (eAndM (eN (bIsi K (isC K)) (aCons (eV 0) (aCons (eC (.ty "tuple")) (aNil)))) (e2 dEq (eN (bLen) (aCons (eV 0) (aNil))) (eV 1)))
noncomputable def mf_is_tuple_of (K : PySem.W.Frag) : List D → Store → Res D := fnM leave 2 2 (m_is_tuple_of K)
noncomputable def m_is_one_of (K : PySem.W.Frag) : SM := sRet (eAndM (eN (bIsi K (isC K)) (aCons (eV 0) (aCons (eC (.ty "str")) (aNil)))) (e2 (dIn false) (eV 0) (eV 1)))
noncomputable def mf_is_one_of (K : PySem.W.Frag) : List D → Store → Res D := fnM leave 2 2 (m_is_one_of K)
noncomputable def m_wrong_at (K : PySem.W.Frag) (g : Addr) (ap : List D → Store → Res D) : SM := sSeq (sIf (tNotM (tVal (eN (bIsi K (isC K)) (aCons (eV 0) (aCons (eC (.ty "tuple")) (aNil)))))) (sRet (eLst (aCons (eC .non) (aNil)))) (sNil)) (sSeq (sFor (iEnumA (aCons (eV 0) (aNil))) (.tup ((.one 3) :: (.one 4) :: [])) (sIf (tOrM (tAndM (t2 dNotN (eV 1) (eC .non)) (t2 dGe (eV 3) (eV 1))) (tNotM (tVal (eClo 2 g ap (aCons (eV 4) (aCons (eCut (eV 0) (oNone) (oSome (eV 3))) (aNil))))))) (sRet (eLst (aCons (eV 3) (aNil)))) (sNil))) (sRet (eLst (aNil))))
noncomputable def mf_wrong_at (K : PySem.W.Frag) : Addr → (List D → Store → Res D) → List D → Store → Res D := fun g ap => fnM leave 5 3 (m_wrong_at K g ap)
noncomputable def m_wrong_from_one (K : PySem.W.Frag) (g : Addr) (ap : List D → Store → Res D) : SM := sRet (eIf (tAndM (tVal (eN (bIsi K (isC K)) (aCons (eV 0) (aCons (eC (.ty "tuple")) (aNil))))) (t2 dEq (eV 0) (eTup (aNil)))) (eLst (aCons (eC .non) (aNil))) (eCall1 (mf_wrong_at K g ap) (aCons (eV 0) (aCons (eV 1) (aCons (eV 2) (aNil))))))
noncomputable def mf_wrong_from_one (K : PySem.W.Frag) : Addr → (List D → Store → Res D) → List D → Store → Res D := fun g ap => fnM leave 3 3 (m_wrong_from_one K g ap)
noncomputable def m_wrong_kinds (K : PySem.W.Frag) : SM := sDef 1 (fun gd1 => sRet (eCallN (mf_wrong_from_one K) gd1 leave 2 2 [] (sRet (eAndM (eCall1 (mf_is_name K) (aCons (eV 0) (aNil))) (eOrM (e2 dEq (eV 1) (eTup (aNil))) (e2 dLtA (e2 dIx (eV 1) (e1 dNeg (eC (.int 1)))) (eV 0))))) (aCons (eV 0) (aCons (eC (.int 4)) (aCons (eV 1) (aNil))))))
noncomputable def mf_wrong_kinds (K : PySem.W.Frag) : List D → Store → Res D := fnM leave 2 1 (m_wrong_kinds K)
noncomputable def m_are_some_kinds (K : PySem.W.Frag) : SM := sDef 2 (fun gd1 => sRet (e2 dEq (eCallN (mf_wrong_from_one K) gd1 leave 3 2 [0] (sRet (eAndM (eCall1 (mf_is_one_of K) (aCons (eV 0) (aCons (eV 2) (aNil)))) (eOrM (e2 dEq (eV 1) (eTup (aNil))) (e2 dLtA (e2 dIx (eV 1) (e1 dNeg (eC (.int 1)))) (eV 0))))) (aCons (eV 1) (aCons (eC .non) (aCons (eV 2) (aNil))))) (eLst (aNil))))
noncomputable def mf_are_some_kinds (K : PySem.W.Frag) : List D → Store → Res D := fnM leave 3 2 (m_are_some_kinds K)
noncomputable def m_is_lot (K : PySem.W.Frag) : SM := sSeq (sIf (tOrM (tNotM (tVal (eCall1 (mf_is_tuple_of K) (aCons (eV 2) (aCons (eC (.int 4)) (aNil)))))) (tOrM (tNotM (tVal (eCall1 (mf_is_number K) (aCons (e2 dIx (eV 2) (eC (.int 0))) (aCons (eC (.int 0)) (aCons (eV 0) (aNil))))))) (tNotM (tVal (eCall1 (mf_is_number K) (aCons (e2 dIx (eV 2) (eC (.int 1))) (aCons (e2 dIx (eV 2) (eC (.int 0))) (aCons (eV 0) (aNil))))))))) (sRet (eC (.bl false))) (sNil)) (sRet (eAndM (eCall1 (mf_is_number K) (aCons (e2 dIx (eV 2) (eC (.int 2))) (aCons (eC (.int 1)) (aCons (eC (.int 1000000)) (aNil))))) (eCall1 (mf_are_some_kinds K) (aCons (eV 1) (aCons (e2 dIx (eV 2) (eC (.int 3))) (aNil))))))
noncomputable def mf_is_lot (K : PySem.W.Frag) : List D → Store → Res D := fnM leave 3 3 (m_is_lot K)
noncomputable def m_wrong_lots (K : PySem.W.Frag) : SM := sDef 3 (fun gd1 => sRet (eCallN (mf_wrong_at K) gd1 leave 4 2 [0, 1] (sRet (eAndM (eCall1 (mf_is_lot K) (aCons (eV 2) (aCons (eV 3) (aCons (eV 0) (aNil))))) (eOrM (e2 dEq (eV 1) (eTup (aNil))) (e2 dLeA (e2 dIx (eV 1) (e1 dNeg (eC (.int 1)))) (eV 0))))) (aCons (eV 2) (aCons (eC (.int 12)) (aCons (eV 3) (aNil))))))
noncomputable def mf_wrong_lots (K : PySem.W.Frag) : List D → Store → Res D := fnM leave 4 3 (m_wrong_lots K)
noncomputable def m_units_of (K : PySem.W.Frag) : SM := sRet (eN (bSum) (aCons (eLC (iSeq (eV 0)) (.one 1) (tYesM) (e2 dIx (eV 1) (eC (.int 2))) [1]) (aNil)))
noncomputable def mf_units_of (K : PySem.W.Frag) : List D → Store → Res D := fnM leave 2 1 (m_units_of K)
noncomputable def m_check_house (K : PySem.W.Frag) : SM := sIf (tNotM (tVal (eN (bIsi K (isC K)) (aCons (eV 0) (aCons (eC (.ref (He.ga K "House"))) (aNil)))))) (sRaise (He.ga K "NotAHouse") "given" (eV 0)) (sNil)
noncomputable def mf_check_house (K : PySem.W.Frag) : List D → Store → Res D := fnM leave 1 1 (m_check_house K)
noncomputable def m_sum_behind (K : PySem.W.Frag) : SM := sSeq (sSet 4 (e2 dMul (eV 3) (eV 0))) (sSeq (sIf (t2 dEq (eV 2) (eC (.str "down"))) (sRet (e2 dDiv (eV 4) (eV 1))) (sNil)) (sSeq (sIf (t2 dEq (eV 2) (eC (.str "near"))) (sRet (e2 dDiv (e2 dAdd (e2 dMul (eC (.int 2)) (eV 4)) (eV 1)) (e2 dMul (eC (.int 2)) (eV 1)))) (sNil)) (sSeq (sIf (t2 dEq (eV 2) (eC (.str "up"))) (sRet (e2 dSub (eC (.int 0)) (e2 dDiv (e2 dSub (eC (.int 0)) (eV 4)) (eV 1)))) (sNil)) (sSeq (sSet 5 (e2 dDiv (eV 0) (eV 1))) (sSeq (sIf (tOrM (t2 dEq (eV 2) (eC (.str "first"))) (t2 dEq (eV 3) (eV 1))) (sRet (e2 dSub (e2 dAdd (e2 dMul (eV 3) (eV 5)) (eV 0)) (e2 dMul (eV 1) (eV 5)))) (sNil)) (sRet (e2 dMul (eV 3) (eV 5))))))))
noncomputable def mf_sum_behind (K : PySem.W.Frag) : List D → Store → Res D := fnM leave 6 4 (m_sum_behind K)
noncomputable def m_sums_of (K : PySem.W.Frag) : SM := sRet (eLC (iRange2 (aCons (eC (.int 1)) (aCons (e2 dAdd (eV 1) (eC (.int 1))) (aNil)))) (.one 3) (tYesM) (eCall1 (mf_sum_behind K) (aCons (eV 0) (aCons (eV 1) (aCons (eV 2) (aCons (eV 3) (aNil)))))) [3])
noncomputable def mf_sums_of (K : PySem.W.Frag) : List D → Store → Res D := fnM leave 4 3 (m_sums_of K)
noncomputable def m_parts_of (K : PySem.W.Frag) : SM := sSeq (sSet 3 (eCall1 (mf_sums_of K) (aCons (eV 0) (aCons (eV 1) (aCons (eV 2) (aNil)))))) (sRet (eLC (iZip (aCons (eLst (aCons (eC (.int 0)) (aStar (eV 3) (aNil)))) (aCons (eV 3) (aNil)))) (.tup ((.one 4) :: (.one 5) :: [])) (tYesM) (e2 dSub (eV 5) (eV 4)) [4, 5]))
noncomputable def mf_parts_of (K : PySem.W.Frag) : List D → Store → Res D := fnM leave 6 3 (m_parts_of K)
noncomputable def m_is_contract (K : PySem.W.Frag) : SM := sSeq (sIf (tOrM (tNotM (tVal (eCall1 (mf_is_tuple_of K) (aCons (eV 1) (aCons (eC (.int 7)) (aNil)))))) (tOrM (tNotM (tVal (eCall1 (mf_is_number K) (aCons (e2 dIx (eV 1) (eC (.int 0))) (aCons (eC (.int 0)) (aCons (eFld (He.ga K "House") "last" (eV 0)) (aNil))))))) (tNotM (tVal (eCall1 (mf_is_number K) (aCons (e2 dIx (eV 1) (eC (.int 1))) (aCons (eC (.int 1)) (aCons (eC (.int 60)) (aNil))))))))) (sRet (eC (.bl false))) (sNil)) (sSeq (sIf (tOrM (tNotM (tVal (eCall1 (mf_is_number K) (aCons (e2 dIx (eV 1) (eC (.int 2))) (aCons (eC (.int 1)) (aCons (eC (.int 24)) (aNil))))))) (tNotM (tVal (eCall1 (mf_is_number K) (aCons (e2 dIx (eV 1) (eC (.int 3))) (aCons (eC (.int 0)) (aCons (eC (.int 1000000)) (aNil)))))))) (sRet (eC (.bl false))) (sNil)) (sRet (eAndM (eCall1 (mf_is_number K) (aCons (e2 dIx (eV 1) (eC (.int 4))) (aCons (eC (.int 1)) (aCons (eC (.int 60)) (aNil))))) (eAndM (eCall1 (mf_are_some_kinds K) (aCons (eFld (He.ga K "House") "names" (eV 0)) (aCons (e2 dIx (eV 1) (eC (.int 5))) (aNil)))) (eCall1 (mf_is_one_of K) (aCons (e2 dIx (eV 1) (eC (.int 6))) (aCons (eC (.tup (dv_WAYS.map (dvD K)))) (aNil))))))))
noncomputable def mf_is_contract (K : PySem.W.Frag) : List D → Store → Res D := fnM leave 2 2 (m_is_contract K)
noncomputable def m_check_contract (K : PySem.W.Frag) : SM := sSeq (sDrop (eCall1 (mf_check_house K) (aCons (eV 0) (aNil)))) (sIf (tNotM (tVal (eCall1 (mf_is_contract K) (aCons (eV 0) (aCons (eV 1) (aNil)))))) (sRaise (He.ga K "InvalidContract") "given" (eV 1)) (sNil))
noncomputable def mf_check_contract (K : PySem.W.Frag) : List D → Store → Res D := fnM leave 2 2 (m_check_contract K)
noncomputable def m_lots_by (K : PySem.W.Frag) : SM := sSeq (sAsg (eV 1) (gTupM (gsCons (gNm 2) (gsCons (gNm 3) (gsCons (gNm 4) (gsCons (gNm 5) (gsCons (gNm 6) (gsCons (gNm 7) (gsCons (gNm 8) (gsNil)))))))) 7)) (sSeq (sSet 9 (eLstN (aNil))) (sSeq (sFor (iEnumA (aCons (eCall1 (mf_parts_of K) (aCons (eV 5) (aCons (eV 4) (aCons (eV 8) (aNil))))) (aNil))) (.tup ((.one 10) :: (.one 11) :: [])) (sSeq (sSet 12 (e2 dAdd (eV 2) (e2 dMul (eV 10) (eV 3)))) (sIf (tAndM (t2 dGt (eV 11) (eC (.int 0))) (t2 dLe (eV 12) (eFld (He.ga K "House") "last" (eV 0)))) (sDrop (eBM isLs dAppend (eV 9) (aCons (eTup (aCons (eV 12) (aCons (eN (bMin) (aCons (e2 dAdd (eV 12) (eV 6)) (aCons (eFld (He.ga K "House") "last" (eV 0)) (aNil)))) (aCons (eV 11) (aCons (eV 7) (aNil)))))) (aNil)))) (sNil)))) (sRet (eN bSorted (aCons (eV 9) (aNil))))))
noncomputable def mf_lots_by (K : PySem.W.Frag) : List D → Store → Res D := fnM leave 13 2 (m_lots_by K)
noncomputable def m_contract_lots (K : PySem.W.Frag) : SM := sSeq (sDrop (eCall1 (mf_check_contract K) (aCons (eV 0) (aCons (eV 1) (aNil))))) (sRet (eN bTuple (aCons (eCall1 (mf_lots_by K) (aCons (eV 0) (aCons (eV 1) (aNil)))) (aNil))))
noncomputable def mf_contract_lots (K : PySem.W.Frag) : List D → Store → Res D := fnM leave 2 2 (m_contract_lots K)
noncomputable def m_House___init__ (K : PySem.W.Frag) : SM := sSeq (sIf (tNotM (tVal (eCall1 (mf_is_number K) (aCons (eV 1) (aCons (eC (.int 0)) (aCons (eC (.int 60)) (aNil))))))) (sRaise (He.ga K "InvalidNumber") "given" (eV 1)) (sNil)) (sSeq (sFor (iSeq (eCall1 (mf_wrong_kinds K) (aCons (eV 2) (aNil)))) (.one 4) (sRaise (He.ga K "InvalidKinds") "index" (eV 4))) (sSeq (sFor (iSeq (eCall1 (mf_wrong_lots K) (aCons (eV 1) (aCons (eV 2) (aCons (eV 3) (aNil)))))) (.one 4) (sRaise (He.ga K "InvalidLots") "index" (eV 4))) (sSeq (sFldS (He.ga K "House") "last" (eV 0) (eV 1)) (sSeq (sFldS (He.ga K "House") "names" (eV 0) (eV 2)) (sSeq (sFldS (He.ga K "House") "rows" (eV 0) (eV 3)) (sFldS (He.ga K "House") "units" (eV 0) (eCall1 (mf_units_of K) (aCons (eV 3) (aNil)))))))))
noncomputable def mf_House___init__ (K : PySem.W.Frag) : List D → Store → Res D := fnM leave 5 4 (m_House___init__ K)
noncomputable def m_with_contract (K : PySem.W.Frag) : SM := sSeq (sDrop (eCall1 (mf_check_contract K) (aCons (eV 0) (aCons (eV 1) (aNil))))) (sSeq (sSet 2 (eN bTuple (aCons (eN bSorted (aCons (eLst (aStar (eFld (He.ga K "House") "rows" (eV 0)) (aStar (eCall1 (mf_lots_by K) (aCons (eV 0) (aCons (eV 1) (aNil)))) (aNil)))) (aNil))) (aNil)))) (sSeq (sIf (t2 dGt (eN (bLen) (aCons (eV 2) (aNil))) (eC (.int 12))) (sRaise (He.ga K "TooMany") "given" (eN (bLen) (aCons (eV 2) (aNil)))) (sNil)) (sRet (eMake (He.ga K "House") (mf_House___init__ K) 3 0 [0, 1, 2, 3] (aCons (eFld (He.ga K "House") "last" (eV 0)) (aCons (eFld (He.ga K "House") "names" (eV 0)) (aCons (eV 2) (aNil)))) aNil))))
noncomputable def mf_with_contract (K : PySem.W.Frag) : List D → Store → Res D := fnM leave 3 2 (m_with_contract K)
noncomputable def m__law_well (K : PySem.W.Frag) : SM := sSeq (sSet 2 (e2 dAdd (eC (.int 1423958)) (e2 dMul (eC (.int 5231)) (eV 1)))) (sSeq (sFor (iSeq (eCut (eV 0) (oNone) (oSome (eC (.int 9))))) (.one 3) (sSet 2 (e2 dMod (eN bInt (aCons (e2 dAdd (e2 dAdd (e2 dMul (eV 2) (eC (.int 47521))) (e2 dMod (eN bInt (aCons (eV 3) (aNil))) (eC (.int 2147483549)))) (eC (.int 41))) (aNil))) (eC (.int 2147483629))))) (sSeq (sSet 4 (eIf (t2 dLt (eV 1) (eN (bLen) (aCons (eV 0) (aNil)))) (eN bInt (aCons (e2 dIx (eV 0) (eV 1)) (aNil))) (eC (.int 0)))) (sSeq (sSet 2 (e2 dMod (eN bInt (aCons (e2 dAdd (e2 dAdd (e2 dMul (eV 2) (eC (.int 61))) (e2 dMul (e2 dMod (eN bInt (aCons (eV 4) (aNil))) (eC (.int 2147483549))) (eC (.int 16007)))) (eC (.int 17))) (aNil))) (eC (.int 2147483629)))) (sRet (eLstN (aCons (eIf (tOrM (t2 dLt (eV 4) (eC (.int 0))) (t2 dGe (eV 4) (e2 dPow (eC (.int 10)) (eC (.int 15))))) (eN (bAbs) (aCons (eV 4) (aNil))) (eC (.int 0))) (aCons (eV 2) (aCons (eC (.int 0)) (aNil)))))))))
noncomputable def mf__law_well (K : PySem.W.Frag) : List D → Store → Res D := fnM leaveN 5 2 (m__law_well K)
noncomputable def m__law_draw (K : PySem.W.Frag) : SM := sSeq (sIf (t2 dGt (e2 dIx (eV 0) (eC (.int 0))) (eC (.int 0))) (sSeq (sAsg (eN (bDivmod) (aCons (e2 dIx (eV 0) (eC (.int 0))) (aCons (eV 1) (aNil)))) (gTupM (gsCons (gSubM (eV 0) (eC (.int 0))) (gsCons (gNm 2) (gsNil))) 2)) (sRet (eV 2))) (sNil)) (sSeq (sAsg (e2 dAdd (e2 dIx (eV 0) (eC (.int 2))) (eC (.int 1))) (gSubM (eV 0) (eC (.int 2)))) (sSeq (sSet 3 (e2 dMod (eN bInt (aCons (e2 dAdd (e2 dMul (e2 dIx (eV 0) (eC (.int 1))) (eC (.int 40009))) (e2 dMul (eC (.int 15013)) (e2 dIx (eV 0) (eC (.int 2))))) (aNil))) (eC (.int 2147483629)))) (sSeq (sAsg (e2 dMod (eN bInt (aCons (e2 dAdd (e2 dMul (eV 3) (e2 dAdd (e2 dMod (eN bInt (aCons (eV 3) (aNil))) (eC (.int 5003))) (eC (.int 20011)))) (e2 dIx (eV 0) (eC (.int 2)))) (aNil))) (eC (.int 2147483629))) (gSubM (eV 0) (eC (.int 1)))) (sRet (e2 dMod (eN bInt (aCons (e2 dDiv (e2 dIx (eV 0) (eC (.int 1))) (eC (.int 1031))) (aNil))) (eV 1))))))
noncomputable def mf__law_draw (K : PySem.W.Frag) : List D → Store → Res D := fnM leave 4 2 (m__law_draw K)
noncomputable def m__law_of (K : PySem.W.Frag) : SM := sRet (e2 dIx (eV 1) (eCall1 (mf__law_draw K) (aCons (eV 0) (aCons (eN (bLen) (aCons (eV 1) (aNil))) (aNil)))))
noncomputable def mf__law_of (K : PySem.W.Frag) : List D → Store → Res D := fnM leave 2 2 (m__law_of K)
noncomputable def m__law_unlike (K : PySem.W.Frag) : SM := sSeq (sSet 3 (eN bListA (aCons (eV 1) (aNil)))) (sSeq (sFor (iRange1 (aCons (e2 dSub (eN (bLen) (aCons (eV 1) (aNil))) (eV 2)) (aNil))) (.one 4) (sDrop (eBM isLs dPopAt (eV 3) (aCons (eCall1 (mf__law_draw K) (aCons (eV 0) (aCons (eN (bLen) (aCons (eV 3) (aNil))) (aNil)))) (aNil))))) (sRet (eV 3)))
noncomputable def mf__law_unlike (K : PySem.W.Frag) : List D → Store → Res D := fnM leave 5 3 (m__law_unlike K)
noncomputable def m__law_is (K : PySem.W.Frag) : SM := sRet (e2 dEq (eN (bRepr) (aCons (eV 0) (aNil))) (eN (bRepr) (aCons (eV 1) (aNil))))
noncomputable def mf__law_is (K : PySem.W.Frag) : List D → Store → Res D := fnM leave 2 2 (m__law_is K)
noncomputable def m__law_words (K : PySem.W.Frag) : SM := sSeq (sSet 0 (eLst (aCons (eC (.str "book")) (aCons (eC (.str "booking")) (aCons (eC (.str "day")) (aCons (eC (.str "end")) (aCons (eC (.str "ended")) (aCons (eC (.str "from")) (aCons (eC (.str "go")) (aCons (eC (.str "kinds")) (aCons (eC (.str "left")) (aCons (eC (.str "lost")) (aCons (eC (.str "lot")) (aCons (eC (.str "most")) (aNil))))))))))))))) (sSeq (sSet 0 (e2 dAdd (eV 0) (eLst (aCons (eC (.str "none")) (aCons (eC (.str "of")) (aCons (eC (.str "paid")) (aCons (eC (.str "pay")) (aCons (eC (.str "room")) (aCons (eC (.str "to")) (aCons (eC (.str "units")) (aCons (eC (.str "with")) (aNil)))))))))))) (sRet (eV 0)))
noncomputable def mf__law_words (K : PySem.W.Frag) : List D → Store → Res D := fnM leave 1 0 (m__law_words K)
noncomputable def m__law_names (K : PySem.W.Frag) : SM := sSeq (sPar 2 3 (aCons (eLstN (aNil)) (aCons (eC (.str "abcdefghijklmnopqrstuvwxyz")) (aNil)))) (sSeq (sFor (iSeq (eCall1 (mf__law_unlike K) (aCons (eV 0) (aCons (eCut (eV 3) (oNone) (oSome (eC (.int 25)))) (aCons (eV 1) (aNil)))))) (.one 4) (sSeq (sSet 5 (eV 4)) (sSeq (sFor (iRange1 (aCons (eCall1 (mf__law_of K) (aCons (eV 0) (aCons (eTup (aCons (eC (.int 0)) (aCons (eC (.int 0)) (aCons (eC (.int 1)) (aCons (eC (.int 2)) (aCons (eC (.int 4)) (aCons (eC (.int 7)) (aNil)))))))) (aNil)))) (aNil))) (.one 6) (sSet 5 (e2 dAdd (eV 5) (e2 dIx (eV 3) (eCall1 (mf__law_draw K) (aCons (eV 0) (aCons (eC (.int 26)) (aNil)))))))) (sDrop (eBM isLs dAppend (eV 2) (aCons (eIf (t2 (dIn false) (eV 5) (eCall1 (mf__law_words K) aNil)) (e2 dAdd (eCut (eV 5) (oNone) (oSome (eC (.int 7)))) (eC (.str "q"))) (eV 5)) (aNil))))))) (sRet (eV 2)))
noncomputable def mf__law_names (K : PySem.W.Frag) : List D → Store → Res D := fnM leave 7 2 (m__law_names K)
noncomputable def m__law_lots (K : PySem.W.Frag) : SM := sSeq (sSet 5 (eLstN (aNil))) (sSeq (sFor (iRange1 (aCons (eCall1 (mf__law_draw K) (aCons (eV 0) (aCons (e2 dAdd (eV 3) (eC (.int 1))) (aNil)))) (aNil))) (.one 6) (sSeq (sSet 7 (eCall1 (mf__law_draw K) (aCons (eV 0) (aCons (e2 dAdd (eV 1) (eC (.int 1))) (aNil))))) (sSeq (sSet 8 (e2 dAdd (eV 7) (eCall1 (mf__law_draw K) (aCons (eV 0) (aCons (e2 dSub (e2 dAdd (eV 1) (eC (.int 1))) (eV 7)) (aNil)))))) (sSeq (sSet 9 (eN bTuple (aCons (eCall1 (mf__law_unlike K) (aCons (eV 0) (aCons (eV 2) (aCons (e2 dAdd (eC (.int 1)) (eCall1 (mf__law_draw K) (aCons (eV 0) (aCons (eN (bLen) (aCons (eV 2) (aNil))) (aNil))))) (aNil))))) (aNil)))) (sDrop (eBM isLs dAppend (eV 5) (aCons (eTup (aCons (eV 7) (aCons (eV 8) (aCons (e2 dAdd (eC (.int 1)) (eCall1 (mf__law_draw K) (aCons (eV 0) (aCons (eV 4) (aNil))))) (aCons (eV 9) (aNil)))))) (aNil)))))))) (sRet (eN bTuple (aCons (eN bSorted (aCons (eV 5) (aNil))) (aNil)))))
noncomputable def mf__law_lots (K : PySem.W.Frag) : List D → Store → Res D := fnM leave 10 5 (m__law_lots K)
noncomputable def m__law_parts (K : PySem.W.Frag) : SM := sSeq (sSet 5 (eCall1 (mf__law_names K) (aCons (eV 0) (aCons (e2 dAdd (eC (.int 1)) (eCall1 (mf__law_draw K) (aCons (eV 0) (aCons (eV 2) (aNil))))) (aNil))))) (sRet (eTup (aCons (eV 1) (aCons (eN bTuple (aCons (eV 5) (aNil))) (aCons (eCall1 (mf__law_lots K) (aCons (eV 0) (aCons (eV 1) (aCons (eV 5) (aCons (eV 3) (aCons (eV 4) (aNil))))))) (aNil))))))
noncomputable def mf__law_parts (K : PySem.W.Frag) : List D → Store → Res D := fnM leave 6 5 (m__law_parts K)
noncomputable def m__law_refused (K : PySem.W.Frag) (g : Addr) (ap : List D → Store → Res D) : SM := sSeq (sTry K (.named (He.ga K "NotAHouse") "given" 1 (fun a xd => sRet (eLst (aCons (eC (.str "house")) (aCons (eN (bRepr) (aCons (eXf 1 a xd) (aNil))) (aNil))))) :: .named (He.ga K "InvalidContract") "given" 1 (fun a xd => sRet (eLst (aCons (eC (.str "contract")) (aCons (eN (bRepr) (aCons (eXf 1 a xd) (aNil))) (aNil))))) :: .plain (He.ga K "TooMany") (sRet (eLst (aCons (eC (.str "told")) (aNil)))) :: []) (sDrop (eClo 0 g ap (aNil)))) (sRet (eLst (aCons (eC (.str "told")) (aNil))))
noncomputable def mf__law_refused (K : PySem.W.Frag) : Addr → (List D → Store → Res D) → List D → Store → Res D := fun g ap => fnM leave 2 1 (m__law_refused K g ap)
noncomputable def m__law_odds (K : PySem.W.Frag) : SM := sSeq (sAsg (eV 0) (gTupM (gsCons (gNm 1) (gsCons (gNm 2) (gsCons (gNm 3) (gsNil)))) 3)) (sSeq (sSet 4 (eTup (aCons (eC (.int 61)) (aCons (eC (.int 0)) (aCons (e1 dNeg (eC (.int 1))) (aCons (eC (.bl true)) (aCons (eC .non) (aCons (eC (.str "5")) (aCons (e2 dPow (eC (.int 10)) (eC (.int 30))) (aNil)))))))))) (sSeq (sSet 5 (eTup (aCons (e2 dAdd (eV 1) (eC (.int 1))) (aCons (e1 dNeg (eC (.int 1))) (aCons (eC (.bl true)) (aCons (eC .non) (aCons (eC (.str "0")) (aNil)))))))) (sSeq (sSet 6 (eTup (aCons (eC (.int 25)) (aCons (eC (.int 0)) (aCons (e1 dNeg (eC (.int 1))) (aCons (eC (.bl true)) (aCons (eC .non) (aNil)))))))) (sSeq (sSet 7 (eTup (aCons (e2 dAdd (e2 dPow (eC (.int 10)) (eC (.int 6))) (eC (.int 1))) (aCons (e1 dNeg (eC (.int 1))) (aCons (eC (.bl true)) (aCons (eC .non) (aCons (eC (.str "5")) (aNil)))))))) (sSeq (sSet 8 (eTup (aCons (eTup (aNil)) (aCons (eTup (aCons (eC (.str "zz")) (aNil))) (aCons (e2 dMul (eCut (eV 2) (oNone) (oSome (eC (.int 1)))) (eC (.int 2))) (aCons (e2 dIx (eV 2) (eC (.int 0))) (aCons (eC .non) (aCons (eN bListZ (aCons (eV 2) (aNil))) (aCons (e2 dAdd (eV 2) (eTup (aCons (eC (.str "zz")) (aNil)))) (aNil)))))))))) (sRet (eTup (aCons (eV 5) (aCons (eV 4) (aCons (eV 6) (aCons (eV 7) (aCons (eV 4) (aCons (eV 8) (aCons (eTup (aCons (eC (.str "Down")) (aCons (eC (.str "")) (aCons (eC .non) (aCons (eC (.int 0)) (aCons (eTup (aCons (eC (.str "down")) (aNil))) (aCons (eC (.str "most")) (aNil)))))))) (aNil)))))))))))))))
noncomputable def mf__law_odds (K : PySem.W.Frag) : List D → Store → Res D := fnM leave 9 1 (m__law_odds K)
noncomputable def m__law_right (K : PySem.W.Frag) : SM := sSeq (sFor (iRange1 (aCons (eC (.int 8)) (aNil))) (.one 1) (sSeq (sSet 2 (eCall1 (mf__law_parts K) (aCons (eV 0) (aCons (eCall1 (mf__law_draw K) (aCons (eV 0) (aCons (eCall1 (mf__law_of K) (aCons (eV 0) (aCons (eTup (aCons (eC (.int 6)) (aCons (eC (.int 30)) (aCons (eC (.int 61)) (aNil))))) (aNil)))) (aNil)))) (aCons (eC (.int 3)) (aCons (eC (.int 6)) (aCons (eC (.int 30)) (aNil)))))))) (sSeq (sSet 3 (eMake (He.ga K "House") (mf_House___init__ K) 3 0 [0, 1, 2, 3] (aCons (e2 dIx (eV 2) (eC (.int 0))) (aCons (e2 dIx (eV 2) (eC (.int 1))) (aCons (e2 dIx (eV 2) (eC (.int 2))) (aNil)))) aNil)) (sSeq (sSet 4 (eLst (aCons (eCall1 (mf__law_of K) (aCons (eV 0) (aCons (eTup (aCons (eC (.int 0)) (aCons (e2 dIx (eV 2) (eC (.int 0))) (aNil)))) (aNil)))) (aCons (eCall1 (mf__law_of K) (aCons (eV 0) (aCons (eTup (aCons (eC (.int 1)) (aCons (eC (.int 60)) (aNil)))) (aNil)))) (aCons (eCall1 (mf__law_of K) (aCons (eV 0) (aCons (eTup (aCons (eC (.int 1)) (aCons (eC (.int 24)) (aNil)))) (aNil)))) (aNil)))))) (sSeq (sSet 4 (e2 dAdd (eV 4) (eLst (aCons (eCall1 (mf__law_of K) (aCons (eV 0) (aCons (eTup (aCons (eC (.int 0)) (aCons (e2 dPow (eC (.int 10)) (eC (.int 6))) (aNil)))) (aNil)))) (aCons (eCall1 (mf__law_of K) (aCons (eV 0) (aCons (eTup (aCons (eC (.int 1)) (aCons (eC (.int 60)) (aNil)))) (aNil)))) (aCons (e2 dIx (eV 2) (eC (.int 1))) (aNil))))))) (sSeq (sSet 4 (eN bTuple (aCons (e2 dAdd (eV 4) (eLst (aCons (eCall1 (mf__law_of K) (aCons (eV 0) (aCons (eTup (aCons (eC (.str "down")) (aCons (eC (.str "near")) (aCons (eC (.str "up")) (aCons (eC (.str "first")) (aCons (eC (.str "last")) (aNil))))))) (aNil)))) (aNil)))) (aNil)))) (sSeq (sPar 5 6 (aCons (eCall1 (mf__law_odds K) (aCons (eV 2) (aNil))) (aCons (eCall1 (mf__law_draw K) (aCons (eV 0) (aCons (eC (.int 7)) (aNil)))) (aNil)))) (sSeq (sSet 7 (e2 dAdd (e2 dAdd (eCut (eV 4) (oNone) (oSome (eV 6))) (eTup (aCons (eCall1 (mf__law_of K) (aCons (eV 0) (aCons (e2 dIx (eV 5) (eV 6)) (aNil)))) (aNil)))) (eCut (eV 4) (oSome (e2 dAdd (eV 6) (eC (.int 1)))) (oNone)))) (sSeq (sSet 8 (eCall1 (mf__law_of K) (aCons (eV 0) (aCons (eTup (aCons (eV 7) (aCons (eV 7) (aCons (eV 7) (aCons (eV 7) (aCons (eCut (eV 4) (oNone) (oSome (e1 dNeg (eC (.int 1))))) (aCons (e2 dAdd (eV 4) (eTup (aCons (eC (.int 0)) (aNil)))) (aCons (eN bListZ (aCons (eV 4) (aNil))) (aCons (eC .non) (aCons (eTup (aNil)) (aCons (eC (.int 5)) (aCons (eRevT (eV 4)) (aNil))))))))))))) (aNil))))) (sSeq (sSet 9 (eCall1 (mf__law_of K) (aCons (eV 0) (aCons (eTup (aCons (eC .non) (aCons (eV 2) (aCons (eTup (aNil)) (aCons (eC (.int 5)) (aNil)))))) (aNil))))) (sSeq (sSet 10 (eLstN (aCons (eCallL (mf__law_refused K) 2 0 [9, 8] (eCall1 (mf_contract_lots K) (aCons (eV 0) (aCons (eV 1) (aNil)))) (aNil)) (aNil)))) (sSeq (sDrop (eBM isLs dAppend (eV 10) (aCons (eCallL (mf__law_refused K) 2 0 [9, 8] (eCall (mf_with_contract K) 0 2 [1, 0] aNil (aCons (eV 1) (aCons (eV 0) (aNil)))) (aNil)) (aNil)))) (sSeq (sDrop (eBM isLs dAppend (eV 10) (aCons (eCallL (mf__law_refused K) 2 0 [3, 8] (eCall1 (mf_contract_lots K) (aCons (eV 0) (aCons (eV 1) (aNil)))) (aNil)) (aNil)))) (sSeq (sDrop (eBM isLs dAppend (eV 10) (aCons (eCallL (mf__law_refused K) 2 0 [3, 8] (eCall1 (mf_with_contract K) (aCons (eV 0) (aCons (eV 1) (aNil)))) (aNil)) (aNil)))) (sSeq (sDrop (eBM isLs dAppend (eV 10) (aCons (eCallL (mf__law_refused K) 2 0 [3, 8] (eCall (mf_contract_lots K) 0 2 [1, 0] aNil (aCons (eV 1) (aCons (eV 0) (aNil)))) (aNil)) (aNil)))) (sSeq (sDrop (eBM isLs dAppend (eV 10) (aCons (eCallL (mf__law_refused K) 2 0 [3, 4] (eCall1 (mf_contract_lots K) (aCons (eV 0) (aCons (eV 1) (aNil)))) (aNil)) (aNil)))) (sSeq (sDrop (eBM isLs dAppend (eV 10) (aCons (eCallL (mf__law_refused K) 2 0 [3, 4] (eCall1 (mf_with_contract K) (aCons (eV 0) (aCons (eV 1) (aNil)))) (aNil)) (aNil)))) (sSeq (sSet 11 (e2 dAdd (e2 dAdd (e2 dMul (eLst (aCons (eLst (aCons (eC (.str "house")) (aCons (eN (bRepr) (aCons (eV 9) (aNil))) (aNil)))) (aNil))) (eC (.int 2))) (e2 dMul (eLst (aCons (eLst (aCons (eC (.str "contract")) (aCons (eN (bRepr) (aCons (eV 8) (aNil))) (aNil)))) (aNil))) (eC (.int 3)))) (e2 dMul (eLst (aCons (eLst (aCons (eC (.str "told")) (aNil))) (aNil))) (eC (.int 2))))) (sIf (tNotM (tVal (eCall1 (mf__law_is K) (aCons (eV 10) (aCons (eV 11) (aNil)))))) (sRet (eC (.bl false))) (sNil)))))))))))))))))))) (sRet (eC (.bl true)))
noncomputable def mf__law_right (K : PySem.W.Frag) : List D → Store → Res D := fnM leave 12 1 (m__law_right K)
noncomputable def m_law (K : PySem.W.Frag) : SM := sRet (eN (bAll) (aCons (eLC (iRange1 (aCons (eN (bMax) (aCons (eC (.int 1)) (aCons (eN (bMin) (aCons (eN (bLen) (aCons (eV 0) (aNil))) (aCons (eC (.int 3)) (aNil)))) (aNil)))) (aNil))) (.one 1) (tYesM) (eCall1 (mf__law_right K) (aCons (eCall1 (mf__law_well K) (aCons (eV 0) (aCons (eV 1) (aNil)))) (aNil))) [1]) (aNil)))
noncomputable def mf_law (K : PySem.W.Frag) : List D → Store → Res D := fnM leave 2 1 (m_law K)
noncomputable def m_House_end (K : PySem.W.Frag) : SM := sRet (eFld (He.ga K "House") "last" (eV 0))
noncomputable def mf_House_end (K : PySem.W.Frag) : List D → Store → Res D := fnM leave 1 1 (m_House_end K)
noncomputable def m_House_kinds (K : PySem.W.Frag) : SM := sRet (eFld (He.ga K "House") "names" (eV 0))
noncomputable def mf_House_kinds (K : PySem.W.Frag) : List D → Store → Res D := fnM leave 1 1 (m_House_kinds K)
noncomputable def m_House_lots (K : PySem.W.Frag) : SM := sRet (eFld (He.ga K "House") "rows" (eV 0))
noncomputable def mf_House_lots (K : PySem.W.Frag) : List D → Store → Res D := fnM leave 1 1 (m_House_lots K)
noncomputable def m_House_parts (K : PySem.W.Frag) : SM := sRet (eTup (aCons (eFld (He.ga K "House") "last" (eV 0)) (aCons (eFld (He.ga K "House") "names" (eV 0)) (aCons (eFld (He.ga K "House") "rows" (eV 0)) (aNil)))))
noncomputable def mf_House_parts (K : PySem.W.Frag) : List D → Store → Res D := fnM leave 1 1 (m_House_parts K)
noncomputable def m_House_whole (K : PySem.W.Frag) : SM := sRet (eFld (He.ga K "House") "units" (eV 0))
noncomputable def mf_House_whole (K : PySem.W.Frag) : List D → Store → Res D := fnM leave 1 1 (m_House_whole K)
noncomputable def m_House___eq__ (K : PySem.W.Frag) : SM := sRet (eAndM (eN (bIsi K (isC K)) (aCons (eV 1) (aCons (eC (.ref (He.ga K "House"))) (aNil)))) (e2 dEq (eProp (He.ga K "House") (mf_House_parts K) (eV 0)) (eProp (He.ga K "House") (mf_House_parts K) (eV 1))))
noncomputable def mf_House___eq__ (K : PySem.W.Frag) : List D → Store → Res D := fnM leave 2 2 (m_House___eq__ K)
def nmq (q : Str) : Nat → Nat → Str := fun _ _ => q
def tabs (K : PySem.W.Frag) : List NdefX.NTab := [(tabP K (He.ga K "wrong_kinds"), (nmq "wrong_kinds.<locals>.is_right")), (tabP K (He.ga K "are_some_kinds"), (nmq "are_some_kinds.<locals>.is_right")), (tabP K (He.ga K "wrong_lots"), (nmq "wrong_lots.<locals>.is_right")), (tabP K (He.ga K "_law_right"), (nmq "_law_right.<locals>.<lambda>"))]
/-- what stands behind the top -/
structure Gd (P : Program) (w : World) (K : PySem.W.Frag) (mg : Str → Option Value) (base : Heap) : Prop where
  n_abs : mg "abs" = none
  n_all : mg "all" = none
  n_bool : mg "bool" = none
  n_divmod : mg "divmod" = none
  n_enumerate : mg "enumerate" = none
  n_int : mg "int" = none
  n_isinstance : mg "isinstance" = none
  n_len : mg "len" = none
  n_list : mg "list" = none
  n_max : mg "max" = none
  n_min : mg "min" = none
  n_range : mg "range" = none
  n_repr : mg "repr" = none
  n_sorted : mg "sorted" = none
  n_str : mg "str" = none
  n_sum : mg "sum" = none
  n_tuple : mg "tuple" = none
  n_zip : mg "zip" = none
  v_DOWN : ∃ t, mg "DOWN" = some (.str "down" t)
  v_FIRST : ∃ t, mg "FIRST" = some (.str "first" t)
  v_LETTERS : ∃ t, mg "LETTERS" = some (.str "abcdefghijklmnopqrstuvwxyz" t)
  v_MOST_DAY : ∃ t, mg "MOST_DAY" = some (.int 60 t)
  v_MOST_KINDS : ∃ t, mg "MOST_KINDS" = some (.int 4 t)
  v_MOST_LETTERS : ∃ t, mg "MOST_LETTERS" = some (.int 8 t)
  v_MOST_LOTS : ∃ t, mg "MOST_LOTS" = some (.int 12 t)
  v_MOST_PARTS : ∃ t, mg "MOST_PARTS" = some (.int 24 t)
  v_MOST_UNITS : ∃ t, mg "MOST_UNITS" = some (.int 1000000 t)
  v_NEAR : ∃ t, mg "NEAR" = some (.str "near" t)
  v_UP : ∃ t, mg "UP" = some (.str "up" t)
  v_WAYS : TupA K mg "WAYS" dv_WAYS
  v_WORDS : TupA K mg "WORDS" dv_WORDS
  f_is_whole : FunA K mg "is_whole" s_is_whole
  f_is_number : FunA K mg "is_number" s_is_number
  f_is_word : FunA K mg "is_word" s_is_word
  f_is_name : FunA K mg "is_name" s_is_name
  f_is_tuple_of : FunA K mg "is_tuple_of" s_is_tuple_of
  f_is_one_of : FunA K mg "is_one_of" s_is_one_of
  f_wrong_at : FunA K mg "wrong_at" s_wrong_at
  f_wrong_from_one : FunA K mg "wrong_from_one" s_wrong_from_one
  f_wrong_kinds : FunA K mg "wrong_kinds" s_wrong_kinds
  f_are_some_kinds : FunA K mg "are_some_kinds" s_are_some_kinds
  f_is_lot : FunA K mg "is_lot" s_is_lot
  f_wrong_lots : FunA K mg "wrong_lots" s_wrong_lots
  f_units_of : FunA K mg "units_of" s_units_of
  f_check_house : FunA K mg "check_house" s_check_house
  f_sum_behind : FunA K mg "sum_behind" s_sum_behind
  f_sums_of : FunA K mg "sums_of" s_sums_of
  f_parts_of : FunA K mg "parts_of" s_parts_of
  f_is_contract : FunA K mg "is_contract" s_is_contract
  f_check_contract : FunA K mg "check_contract" s_check_contract
  f_lots_by : FunA K mg "lots_by" s_lots_by
  f_contract_lots : FunA K mg "contract_lots" s_contract_lots
  f_House___init__ : Fun K "__init__" "House.__init__" s_House___init__ (He.fAd K ("House", some "__init__")) (fdOf K (He.fAd K ("House", some "__init__")))
  f_with_contract : FunA K mg "with_contract" s_with_contract
  f__law_well : FunA K mg "_law_well" s__law_well
  f__law_draw : FunA K mg "_law_draw" s__law_draw
  f__law_of : FunA K mg "_law_of" s__law_of
  f__law_unlike : FunA K mg "_law_unlike" s__law_unlike
  f__law_is : FunA K mg "_law_is" s__law_is
  f__law_words : FunA K mg "_law_words" s__law_words
  f__law_names : FunA K mg "_law_names" s__law_names
  f__law_lots : FunA K mg "_law_lots" s__law_lots
  f__law_parts : FunA K mg "_law_parts" s__law_parts
  f__law_refused : FunA K mg "_law_refused" s__law_refused
  f__law_odds : FunA K mg "_law_odds" s__law_odds
  f__law_right : FunA K mg "_law_right" s__law_right
  f_law : FunA K mg "law" s_law
  f_House_end : Fun K "end" "House.end" s_House_end (gtA K "House" "end") (fdOf K (gtA K "House" "end"))
  f_House_kinds : Fun K "kinds" "House.kinds" s_House_kinds (gtA K "House" "kinds") (fdOf K (gtA K "House" "kinds"))
  f_House_lots : Fun K "lots" "House.lots" s_House_lots (gtA K "House" "lots") (fdOf K (gtA K "House" "lots"))
  f_House_parts : Fun K "parts" "House.parts" s_House_parts (gtA K "House" "parts") (fdOf K (gtA K "House" "parts"))
  f_House_whole : Fun K "whole" "House.whole" s_House_whole (gtA K "House" "whole") (fdOf K (gtA K "House" "whole"))
  f_House___eq__ : Fun K "__eq__" "House.__eq__" s_House___eq__ (He.fAd K ("House", some "__eq__")) (fdOf K (He.fAd K ("House", some "__eq__")))
  c_InvalidContract : ExA P w K mg base "InvalidContract" "given"
  c_InvalidKinds : ExA P w K mg base "InvalidKinds" "index"
  c_InvalidLots : ExA P w K mg base "InvalidLots" "index"
  c_InvalidNumber : ExA P w K mg base "InvalidNumber" "given"
  c_NotAHouse : ExA P w K mg base "NotAHouse" "given"
  c_TooMany : ExA P w K mg base "TooMany" "given"
  x_InvalidContract_InvalidContract : PySem.W.exmOne K (.ref (He.ga K "InvalidContract")) (.ref (He.ga K "InvalidContract")) = some true
  x_InvalidContract_NotAHouse : PySem.W.exmOne K (.ref (He.ga K "InvalidContract")) (.ref (He.ga K "NotAHouse")) = some false
  x_InvalidContract_TooMany : PySem.W.exmOne K (.ref (He.ga K "InvalidContract")) (.ref (He.ga K "TooMany")) = some false
  x_NotAHouse_InvalidContract : PySem.W.exmOne K (.ref (He.ga K "NotAHouse")) (.ref (He.ga K "InvalidContract")) = some false
  x_NotAHouse_NotAHouse : PySem.W.exmOne K (.ref (He.ga K "NotAHouse")) (.ref (He.ga K "NotAHouse")) = some true
  x_NotAHouse_TooMany : PySem.W.exmOne K (.ref (He.ga K "NotAHouse")) (.ref (He.ga K "TooMany")) = some false
  x_TooMany_InvalidContract : PySem.W.exmOne K (.ref (He.ga K "TooMany")) (.ref (He.ga K "InvalidContract")) = some false
  x_TooMany_NotAHouse : PySem.W.exmOne K (.ref (He.ga K "TooMany")) (.ref (He.ga K "NotAHouse")) = some false
  x_TooMany_TooMany : PySem.W.exmOne K (.ref (He.ga K "TooMany")) (.ref (He.ga K "TooMany")) = some true
  k_House : Cls K (He.ga K "House")
  kg_House : mg "House" = some (.ref (He.ga K "House"))
  m_House : Mk K (He.ga K "House") (He.fAd K ("House", some "__init__"))
  a_House_last : NoAttr K (He.ga K "House") "last"
  a_House_names : NoAttr K (He.ga K "House") "names"
  a_House_rows : NoAttr K (He.ga K "House") "rows"
  a_House_units : NoAttr K (He.ga K "House") "units"
  p_House_parts : PropOf K (He.ga K "House") "parts" (prA K "House" "parts") (gtA K "House" "parts")
  e_House : EqC K (He.ga K "House") (He.fAd K ("House", some "__eq__"))
  nf_House_NoneType : PySem.W.notFirst K (He.ga K "House") (.type "NoneType") = true
  nf_House_bool : PySem.W.notFirst K (He.ga K "House") (.type "bool") = true
  nf_House_int : PySem.W.notFirst K (He.ga K "House") (.type "int") = true
  nf_House_str : PySem.W.notFirst K (He.ga K "House") (.type "str") = true
  nf_House_tuple : PySem.W.notFirst K (He.ga K "House") (.type "tuple") = true
  nf_House_list : PySem.W.notFirst K (He.ga K "House") (.type "list") = true
  tyc_House : TyC K (He.ga K "House")
  isi : ∀ C ∈ isC K, TyC K C
  i_NoneType_House : PySem.W.kitOne K (.type "NoneType") (.ref (He.ga K "House")) = some false
  i_bool_House : PySem.W.kitOne K (.type "bool") (.ref (He.ga K "House")) = some false
  i_int_House : PySem.W.kitOne K (.type "int") (.ref (He.ga K "House")) = some false
  i_str_House : PySem.W.kitOne K (.type "str") (.ref (He.ga K "House")) = some false
  i_tuple_House : PySem.W.kitOne K (.type "tuple") (.ref (He.ga K "House")) = some false
  i_list_House : PySem.W.kitOne K (.type "list") (.ref (He.ga K "House")) = some false
  i_House_House : PySem.W.kitOne K (.ref (He.ga K "House")) (.ref (He.ga K "House")) = some true
  i_NoneType_bool : PySem.W.kitOne K (.type "NoneType") (.type "bool") = some false
  i_bool_bool : PySem.W.kitOne K (.type "bool") (.type "bool") = some true
  i_int_bool : PySem.W.kitOne K (.type "int") (.type "bool") = some false
  i_str_bool : PySem.W.kitOne K (.type "str") (.type "bool") = some false
  i_tuple_bool : PySem.W.kitOne K (.type "tuple") (.type "bool") = some false
  i_list_bool : PySem.W.kitOne K (.type "list") (.type "bool") = some false
  i_House_bool : PySem.W.kitOne K (.ref (He.ga K "House")) (.type "bool") = some false
  i_NoneType_int : PySem.W.kitOne K (.type "NoneType") (.type "int") = some false
  i_bool_int : PySem.W.kitOne K (.type "bool") (.type "int") = some true
  i_int_int : PySem.W.kitOne K (.type "int") (.type "int") = some true
  i_str_int : PySem.W.kitOne K (.type "str") (.type "int") = some false
  i_tuple_int : PySem.W.kitOne K (.type "tuple") (.type "int") = some false
  i_list_int : PySem.W.kitOne K (.type "list") (.type "int") = some false
  i_House_int : PySem.W.kitOne K (.ref (He.ga K "House")) (.type "int") = some false
  i_NoneType_str : PySem.W.kitOne K (.type "NoneType") (.type "str") = some false
  i_bool_str : PySem.W.kitOne K (.type "bool") (.type "str") = some false
  i_int_str : PySem.W.kitOne K (.type "int") (.type "str") = some false
  i_str_str : PySem.W.kitOne K (.type "str") (.type "str") = some true
  i_tuple_str : PySem.W.kitOne K (.type "tuple") (.type "str") = some false
  i_list_str : PySem.W.kitOne K (.type "list") (.type "str") = some false
  i_House_str : PySem.W.kitOne K (.ref (He.ga K "House")) (.type "str") = some false
  i_NoneType_tuple : PySem.W.kitOne K (.type "NoneType") (.type "tuple") = some false
  i_bool_tuple : PySem.W.kitOne K (.type "bool") (.type "tuple") = some false
  i_int_tuple : PySem.W.kitOne K (.type "int") (.type "tuple") = some false
  i_str_tuple : PySem.W.kitOne K (.type "str") (.type "tuple") = some false
  i_tuple_tuple : PySem.W.kitOne K (.type "tuple") (.type "tuple") = some true
  i_list_tuple : PySem.W.kitOne K (.type "list") (.type "tuple") = some false
  i_House_tuple : PySem.W.kitOne K (.ref (He.ga K "House")) (.type "tuple") = some false
  t_wrong_kinds : LamX.TabB base mg (codeA K (He.ga K "wrong_kinds")) (tabP K (He.ga K "wrong_kinds"))
  o_wrong_kinds : codeOf K (He.ga K "wrong_kinds") = some (.ref (codeA K (He.ga K "wrong_kinds")))
  t_are_some_kinds : LamX.TabB base mg (codeA K (He.ga K "are_some_kinds")) (tabP K (He.ga K "are_some_kinds"))
  o_are_some_kinds : codeOf K (He.ga K "are_some_kinds") = some (.ref (codeA K (He.ga K "are_some_kinds")))
  t_wrong_lots : LamX.TabB base mg (codeA K (He.ga K "wrong_lots")) (tabP K (He.ga K "wrong_lots"))
  o_wrong_lots : codeOf K (He.ga K "wrong_lots") = some (.ref (codeA K (He.ga K "wrong_lots")))
  t__law_right : LamX.TabB base mg (codeA K (He.ga K "_law_right")) (tabP K (He.ga K "_law_right"))
  o__law_right : codeOf K (He.ga K "_law_right") = some (.ref (codeA K (He.ga K "_law_right")))
  tabs_u : ∀ p ∈ tabs K, ∀ q ∈ tabs K, p.1 = q.1 → p.2 = q.2
/-- what the plain law asks of the classes -/
structure Pf (K : PySem.W.Frag) : Prop where
  one : True
  x_InvalidContract_InvalidContract : PySem.W.exmOne K (.ref (He.ga K "InvalidContract")) (.ref (He.ga K "InvalidContract")) = some true
  x_InvalidContract_NotAHouse : PySem.W.exmOne K (.ref (He.ga K "InvalidContract")) (.ref (He.ga K "NotAHouse")) = some false
  x_InvalidContract_TooMany : PySem.W.exmOne K (.ref (He.ga K "InvalidContract")) (.ref (He.ga K "TooMany")) = some false
  x_NotAHouse_InvalidContract : PySem.W.exmOne K (.ref (He.ga K "NotAHouse")) (.ref (He.ga K "InvalidContract")) = some false
  x_NotAHouse_NotAHouse : PySem.W.exmOne K (.ref (He.ga K "NotAHouse")) (.ref (He.ga K "NotAHouse")) = some true
  x_NotAHouse_TooMany : PySem.W.exmOne K (.ref (He.ga K "NotAHouse")) (.ref (He.ga K "TooMany")) = some false
  x_TooMany_InvalidContract : PySem.W.exmOne K (.ref (He.ga K "TooMany")) (.ref (He.ga K "InvalidContract")) = some false
  x_TooMany_NotAHouse : PySem.W.exmOne K (.ref (He.ga K "TooMany")) (.ref (He.ga K "NotAHouse")) = some false
  x_TooMany_TooMany : PySem.W.exmOne K (.ref (He.ga K "TooMany")) (.ref (He.ga K "TooMany")) = some true
  nf_House_NoneType : PySem.W.notFirst K (He.ga K "House") (.type "NoneType") = true
  nf_House_bool : PySem.W.notFirst K (He.ga K "House") (.type "bool") = true
  nf_House_int : PySem.W.notFirst K (He.ga K "House") (.type "int") = true
  nf_House_str : PySem.W.notFirst K (He.ga K "House") (.type "str") = true
  nf_House_tuple : PySem.W.notFirst K (He.ga K "House") (.type "tuple") = true
  nf_House_list : PySem.W.notFirst K (He.ga K "House") (.type "list") = true
  nf_House_House : PySem.W.notFirst K (He.ga K "House") (.ref (He.ga K "House")) = true
  i_NoneType_House : PySem.W.kitOne K (.type "NoneType") (.ref (He.ga K "House")) = some false
  i_bool_House : PySem.W.kitOne K (.type "bool") (.ref (He.ga K "House")) = some false
  i_int_House : PySem.W.kitOne K (.type "int") (.ref (He.ga K "House")) = some false
  i_str_House : PySem.W.kitOne K (.type "str") (.ref (He.ga K "House")) = some false
  i_tuple_House : PySem.W.kitOne K (.type "tuple") (.ref (He.ga K "House")) = some false
  i_list_House : PySem.W.kitOne K (.type "list") (.ref (He.ga K "House")) = some false
  i_House_House : PySem.W.kitOne K (.ref (He.ga K "House")) (.ref (He.ga K "House")) = some true
  i_NoneType_bool : PySem.W.kitOne K (.type "NoneType") (.type "bool") = some false
  i_bool_bool : PySem.W.kitOne K (.type "bool") (.type "bool") = some true
  i_int_bool : PySem.W.kitOne K (.type "int") (.type "bool") = some false
  i_str_bool : PySem.W.kitOne K (.type "str") (.type "bool") = some false
  i_tuple_bool : PySem.W.kitOne K (.type "tuple") (.type "bool") = some false
  i_list_bool : PySem.W.kitOne K (.type "list") (.type "bool") = some false
  i_House_bool : PySem.W.kitOne K (.ref (He.ga K "House")) (.type "bool") = some false
  i_NoneType_int : PySem.W.kitOne K (.type "NoneType") (.type "int") = some false
  i_bool_int : PySem.W.kitOne K (.type "bool") (.type "int") = some true
  i_int_int : PySem.W.kitOne K (.type "int") (.type "int") = some true
  i_str_int : PySem.W.kitOne K (.type "str") (.type "int") = some false
  i_tuple_int : PySem.W.kitOne K (.type "tuple") (.type "int") = some false
  i_list_int : PySem.W.kitOne K (.type "list") (.type "int") = some false
  i_House_int : PySem.W.kitOne K (.ref (He.ga K "House")) (.type "int") = some false
  i_NoneType_str : PySem.W.kitOne K (.type "NoneType") (.type "str") = some false
  i_bool_str : PySem.W.kitOne K (.type "bool") (.type "str") = some false
  i_int_str : PySem.W.kitOne K (.type "int") (.type "str") = some false
  i_str_str : PySem.W.kitOne K (.type "str") (.type "str") = some true
  i_tuple_str : PySem.W.kitOne K (.type "tuple") (.type "str") = some false
  i_list_str : PySem.W.kitOne K (.type "list") (.type "str") = some false
  i_House_str : PySem.W.kitOne K (.ref (He.ga K "House")) (.type "str") = some false
  i_NoneType_tuple : PySem.W.kitOne K (.type "NoneType") (.type "tuple") = some false
  i_bool_tuple : PySem.W.kitOne K (.type "bool") (.type "tuple") = some false
  i_int_tuple : PySem.W.kitOne K (.type "int") (.type "tuple") = some false
  i_str_tuple : PySem.W.kitOne K (.type "str") (.type "tuple") = some false
  i_tuple_tuple : PySem.W.kitOne K (.type "tuple") (.type "tuple") = some true
  i_list_tuple : PySem.W.kitOne K (.type "list") (.type "tuple") = some false
  i_House_tuple : PySem.W.kitOne K (.ref (He.ga K "House")) (.type "tuple") = some false
section
variable {P : Program} {w : World} {K : PySem.W.Frag} {mg : Str → Option Value} {base : Heap}
theorem sc_is_whole : FnScope ["value"] ["value"] (defScope s_is_whole) := ⟨rfl, rfl, rfl, by decide +kernel, rfl, by decide +kernel, by decide +kernel⟩
theorem b_is_whole (G : Gd P w K mg base) : Binds K (fdOf K (He.ga K "is_whole")) ["value"] [] := G.f_is_whole.f.binds fun _ _ _ _ _ _ us hl => match us, hl with | [_], _ => rfl
theorem sc_is_number : FnScope ["value", "low", "high"] ["value", "low", "high"] (defScope s_is_number) := ⟨rfl, rfl, rfl, by decide +kernel, rfl, by decide +kernel, by decide +kernel⟩
theorem b_is_number (G : Gd P w K mg base) : Binds K (fdOf K (He.ga K "is_number")) ["value", "low", "high"] [] := G.f_is_number.f.binds fun _ _ _ _ _ _ us hl => match us, hl with | [_, _, _], _ => rfl
theorem sc_is_word : FnScope ["value", "letter"] ["value"] (defScope s_is_word) := ⟨rfl, rfl, rfl, by decide +kernel, rfl, by decide +kernel, by decide +kernel⟩
theorem b_is_word (G : Gd P w K mg base) : Binds K (fdOf K (He.ga K "is_word")) ["value"] [] := G.f_is_word.f.binds fun _ _ _ _ _ _ us hl => match us, hl with | [_], _ => rfl
theorem sc_is_name : FnScope ["value"] ["value"] (defScope s_is_name) := ⟨rfl, rfl, rfl, by decide +kernel, rfl, by decide +kernel, by decide +kernel⟩
theorem b_is_name (G : Gd P w K mg base) : Binds K (fdOf K (He.ga K "is_name")) ["value"] [] := G.f_is_name.f.binds fun _ _ _ _ _ _ us hl => match us, hl with | [_], _ => rfl
theorem sc_is_tuple_of : FnScope ["value", "length"] ["value", "length"] (defScope s_is_tuple_of) := ⟨rfl, rfl, rfl, by decide +kernel, rfl, by decide +kernel, by decide +kernel⟩
theorem b_is_tuple_of (G : Gd P w K mg base) : Binds K (fdOf K (He.ga K "is_tuple_of")) ["value", "length"] [] := G.f_is_tuple_of.f.binds fun _ _ _ _ _ _ us hl => match us, hl with | [_, _], _ => rfl
theorem sc_is_one_of : FnScope ["value", "some"] ["value", "some"] (defScope s_is_one_of) := ⟨rfl, rfl, rfl, by decide +kernel, rfl, by decide +kernel, by decide +kernel⟩
theorem b_is_one_of (G : Gd P w K mg base) : Binds K (fdOf K (He.ga K "is_one_of")) ["value", "some"] [] := G.f_is_one_of.f.binds fun _ _ _ _ _ _ us hl => match us, hl with | [_, _], _ => rfl
theorem sc_wrong_at : FnScope ["value", "most", "is_right", "at", "each"] ["value", "most", "is_right"] (defScope s_wrong_at) := ⟨rfl, rfl, rfl, by decide +kernel, rfl, by decide +kernel, by decide +kernel⟩
theorem b_wrong_at (G : Gd P w K mg base) : Binds K (fdOf K (He.ga K "wrong_at")) ["value", "most", "is_right"] [] := G.f_wrong_at.f.binds fun _ _ _ _ _ _ us hl => match us, hl with | [_, _, _], _ => rfl
theorem sc_wrong_from_one : FnScope ["value", "most", "is_right"] ["value", "most", "is_right"] (defScope s_wrong_from_one) := ⟨rfl, rfl, rfl, by decide +kernel, rfl, by decide +kernel, by decide +kernel⟩
theorem b_wrong_from_one (G : Gd P w K mg base) : Binds K (fdOf K (He.ga K "wrong_from_one")) ["value", "most", "is_right"] [] := G.f_wrong_from_one.f.binds fun _ _ _ _ _ _ us hl => match us, hl with | [_, _, _], _ => rfl
theorem sc_wrong_kinds : FnScope ["value", "is_right"] ["value"] (defScope s_wrong_kinds) := ⟨rfl, rfl, rfl, by decide +kernel, rfl, by decide +kernel, by decide +kernel⟩
theorem b_wrong_kinds (G : Gd P w K mg base) : Binds K (fdOf K (He.ga K "wrong_kinds")) ["value"] [] := G.f_wrong_kinds.f.binds fun _ _ _ _ _ _ us hl => match us, hl with | [_], _ => rfl
theorem sc_are_some_kinds : FnScope ["kinds", "value", "is_right"] ["kinds", "value"] (defScope s_are_some_kinds) := ⟨rfl, rfl, rfl, by decide +kernel, rfl, by decide +kernel, by decide +kernel⟩
theorem b_are_some_kinds (G : Gd P w K mg base) : Binds K (fdOf K (He.ga K "are_some_kinds")) ["kinds", "value"] [] := G.f_are_some_kinds.f.binds fun _ _ _ _ _ _ us hl => match us, hl with | [_, _], _ => rfl
theorem sc_is_lot : FnScope ["end", "kinds", "value"] ["end", "kinds", "value"] (defScope s_is_lot) := ⟨rfl, rfl, rfl, by decide +kernel, rfl, by decide +kernel, by decide +kernel⟩
theorem b_is_lot (G : Gd P w K mg base) : Binds K (fdOf K (He.ga K "is_lot")) ["end", "kinds", "value"] [] := G.f_is_lot.f.binds fun _ _ _ _ _ _ us hl => match us, hl with | [_, _, _], _ => rfl
theorem sc_wrong_lots : FnScope ["end", "kinds", "value", "is_right"] ["end", "kinds", "value"] (defScope s_wrong_lots) := ⟨rfl, rfl, rfl, by decide +kernel, rfl, by decide +kernel, by decide +kernel⟩
theorem b_wrong_lots (G : Gd P w K mg base) : Binds K (fdOf K (He.ga K "wrong_lots")) ["end", "kinds", "value"] [] := G.f_wrong_lots.f.binds fun _ _ _ _ _ _ us hl => match us, hl with | [_, _, _], _ => rfl
theorem sc_units_of : FnScope ["lots", "lot"] ["lots"] (defScope s_units_of) := ⟨rfl, rfl, rfl, by decide +kernel, rfl, by decide +kernel, by decide +kernel⟩
theorem b_units_of (G : Gd P w K mg base) : Binds K (fdOf K (He.ga K "units_of")) ["lots"] [] := G.f_units_of.f.binds fun _ _ _ _ _ _ us hl => match us, hl with | [_], _ => rfl
theorem sc_check_house : FnScope ["value"] ["value"] (defScope s_check_house) := ⟨rfl, rfl, rfl, by decide +kernel, rfl, by decide +kernel, by decide +kernel⟩
theorem b_check_house (G : Gd P w K mg base) : Binds K (fdOf K (He.ga K "check_house")) ["value"] [] := G.f_check_house.f.binds fun _ _ _ _ _ _ us hl => match us, hl with | [_], _ => rfl
theorem sc_sum_behind : FnScope ["yearly", "parts", "way", "index", "here", "part"] ["yearly", "parts", "way", "index"] (defScope s_sum_behind) := ⟨rfl, rfl, rfl, by decide +kernel, rfl, by decide +kernel, by decide +kernel⟩
theorem b_sum_behind (G : Gd P w K mg base) : Binds K (fdOf K (He.ga K "sum_behind")) ["yearly", "parts", "way", "index"] [] := G.f_sum_behind.f.binds fun _ _ _ _ _ _ us hl => match us, hl with | [_, _, _, _], _ => rfl
theorem sc_sums_of : FnScope ["yearly", "parts", "way", "index"] ["yearly", "parts", "way"] (defScope s_sums_of) := ⟨rfl, rfl, rfl, by decide +kernel, rfl, by decide +kernel, by decide +kernel⟩
theorem b_sums_of (G : Gd P w K mg base) : Binds K (fdOf K (He.ga K "sums_of")) ["yearly", "parts", "way"] [] := G.f_sums_of.f.binds fun _ _ _ _ _ _ us hl => match us, hl with | [_, _, _], _ => rfl
theorem sc_parts_of : FnScope ["yearly", "parts", "way", "found", "ahead", "later"] ["yearly", "parts", "way"] (defScope s_parts_of) := ⟨rfl, rfl, rfl, by decide +kernel, rfl, by decide +kernel, by decide +kernel⟩
theorem b_parts_of (G : Gd P w K mg base) : Binds K (fdOf K (He.ga K "parts_of")) ["yearly", "parts", "way"] [] := G.f_parts_of.f.binds fun _ _ _ _ _ _ us hl => match us, hl with | [_, _, _], _ => rfl
theorem sc_is_contract : FnScope ["house", "value"] ["house", "value"] (defScope s_is_contract) := ⟨rfl, rfl, rfl, by decide +kernel, rfl, by decide +kernel, by decide +kernel⟩
theorem b_is_contract (G : Gd P w K mg base) : Binds K (fdOf K (He.ga K "is_contract")) ["house", "value"] [] := G.f_is_contract.f.binds fun _ _ _ _ _ _ us hl => match us, hl with | [_, _], _ => rfl
theorem sc_check_contract : FnScope ["house", "value"] ["house", "value"] (defScope s_check_contract) := ⟨rfl, rfl, rfl, by decide +kernel, rfl, by decide +kernel, by decide +kernel⟩
theorem b_check_contract (G : Gd P w K mg base) : Binds K (fdOf K (He.ga K "check_contract")) ["house", "value"] [] := G.f_check_contract.f.binds fun _ _ _ _ _ _ us hl => match us, hl with | [_, _], _ => rfl
theorem sc_lots_by : FnScope ["house", "contract", "first", "step", "parts", "yearly", "life", "kinds", "way", "found", "at", "units", "day"] ["house", "contract"] (defScope s_lots_by) := ⟨rfl, rfl, rfl, by decide +kernel, rfl, by decide +kernel, by decide +kernel⟩
theorem b_lots_by (G : Gd P w K mg base) : Binds K (fdOf K (He.ga K "lots_by")) ["house", "contract"] [] := G.f_lots_by.f.binds fun _ _ _ _ _ _ us hl => match us, hl with | [_, _], _ => rfl
theorem sc_contract_lots : FnScope ["house", "contract"] ["house", "contract"] (defScope s_contract_lots) := ⟨rfl, rfl, rfl, by decide +kernel, rfl, by decide +kernel, by decide +kernel⟩
theorem b_contract_lots (G : Gd P w K mg base) : Binds K (fdOf K (He.ga K "contract_lots")) ["house", "contract"] [] := G.f_contract_lots.f.binds fun _ _ _ _ _ _ us hl => match us, hl with | [_, _], _ => rfl
theorem sc_House___init__ : FnScope ["self", "end", "kinds", "lots", "at"] ["self", "end", "kinds", "lots"] (defScope s_House___init__) := ⟨rfl, rfl, rfl, by decide +kernel, rfl, by decide +kernel, by decide +kernel⟩
theorem b_House___init__ (G : Gd P w K mg base) : Binds K (fdOf K (He.fAd K ("House", some "__init__"))) ["self", "end", "kinds", "lots"] [] := G.f_House___init__.binds fun _ _ _ _ _ _ us hl => match us, hl with | [_, _, _, _], _ => rfl
theorem sc_with_contract : FnScope ["house", "contract", "lots"] ["house", "contract"] (defScope s_with_contract) := ⟨rfl, rfl, rfl, by decide +kernel, rfl, by decide +kernel, by decide +kernel⟩
theorem b_with_contract (G : Gd P w K mg base) : Binds K (fdOf K (He.ga K "with_contract")) ["house", "contract"] [] := G.f_with_contract.f.binds fun _ _ _ _ _ _ us hl => match us, hl with | [_, _], _ => rfl
theorem sc__law_well : FnScope ["script", "lap", "stirred", "cell", "own"] ["script", "lap"] (defScope s__law_well) := ⟨rfl, rfl, rfl, by decide +kernel, rfl, by decide +kernel, by decide +kernel⟩
theorem b__law_well (G : Gd P w K mg base) : Binds K (fdOf K (He.ga K "_law_well")) ["script", "lap"] [] := G.f__law_well.f.binds fun _ _ _ _ _ _ us hl => match us, hl with | [_, _], _ => rfl
theorem sc__law_draw : FnScope ["well", "limit", "figure", "mixed"] ["well", "limit"] (defScope s__law_draw) := ⟨rfl, rfl, rfl, by decide +kernel, rfl, by decide +kernel, by decide +kernel⟩
theorem b__law_draw (G : Gd P w K mg base) : Binds K (fdOf K (He.ga K "_law_draw")) ["well", "limit"] [] := G.f__law_draw.f.binds fun _ _ _ _ _ _ us hl => match us, hl with | [_, _], _ => rfl
theorem sc__law_of : FnScope ["well", "some"] ["well", "some"] (defScope s__law_of) := ⟨rfl, rfl, rfl, by decide +kernel, rfl, by decide +kernel, by decide +kernel⟩
theorem b__law_of (G : Gd P w K mg base) : Binds K (fdOf K (He.ga K "_law_of")) ["well", "some"] [] := G.f__law_of.f.binds fun _ _ _ _ _ _ us hl => match us, hl with | [_, _], _ => rfl
theorem sc__law_unlike : FnScope ["well", "some", "many", "left", "turn"] ["well", "some", "many"] (defScope s__law_unlike) := ⟨rfl, rfl, rfl, by decide +kernel, rfl, by decide +kernel, by decide +kernel⟩
theorem b__law_unlike (G : Gd P w K mg base) : Binds K (fdOf K (He.ga K "_law_unlike")) ["well", "some", "many"] [] := G.f__law_unlike.f.binds fun _ _ _ _ _ _ us hl => match us, hl with | [_, _, _], _ => rfl
theorem sc__law_is : FnScope ["told", "due"] ["told", "due"] (defScope s__law_is) := ⟨rfl, rfl, rfl, by decide +kernel, rfl, by decide +kernel, by decide +kernel⟩
theorem b__law_is (G : Gd P w K mg base) : Binds K (fdOf K (He.ga K "_law_is")) ["told", "due"] [] := G.f__law_is.f.binds fun _ _ _ _ _ _ us hl => match us, hl with | [_, _], _ => rfl
theorem sc__law_words : FnScope ["some"] [] (defScope s__law_words) := ⟨rfl, rfl, rfl, by decide +kernel, rfl, by decide +kernel, by decide +kernel⟩
theorem b__law_words (G : Gd P w K mg base) : Binds K (fdOf K (He.ga K "_law_words")) [] [] := G.f__law_words.f.binds fun _ _ _ _ _ _ us hl => match us, hl with | [], _ => rfl
theorem sc__law_names : FnScope ["well", "many", "found", "letters", "letter", "name", "turn"] ["well", "many"] (defScope s__law_names) := ⟨rfl, rfl, rfl, by decide +kernel, rfl, by decide +kernel, by decide +kernel⟩
theorem b__law_names (G : Gd P w K mg base) : Binds K (fdOf K (He.ga K "_law_names")) ["well", "many"] [] := G.f__law_names.f.binds fun _ _ _ _ _ _ us hl => match us, hl with | [_, _], _ => rfl
theorem sc__law_lots : FnScope ["well", "end", "kinds", "most", "high", "found", "turn", "first", "last", "some"] ["well", "end", "kinds", "most", "high"] (defScope s__law_lots) := ⟨rfl, rfl, rfl, by decide +kernel, rfl, by decide +kernel, by decide +kernel⟩
theorem b__law_lots (G : Gd P w K mg base) : Binds K (fdOf K (He.ga K "_law_lots")) ["well", "end", "kinds", "most", "high"] [] := G.f__law_lots.f.binds fun _ _ _ _ _ _ us hl => match us, hl with | [_, _, _, _, _], _ => rfl
theorem sc__law_parts : FnScope ["well", "end", "many", "most", "high", "kinds"] ["well", "end", "many", "most", "high"] (defScope s__law_parts) := ⟨rfl, rfl, rfl, by decide +kernel, rfl, by decide +kernel, by decide +kernel⟩
theorem b__law_parts (G : Gd P w K mg base) : Binds K (fdOf K (He.ga K "_law_parts")) ["well", "end", "many", "most", "high"] [] := G.f__law_parts.f.binds fun _ _ _ _ _ _ us hl => match us, hl with | [_, _, _, _, _], _ => rfl
theorem sc__law_refused : FnScope ["act", "e"] ["act"] (defScope s__law_refused) := ⟨rfl, rfl, rfl, by decide +kernel, rfl, by decide +kernel, by decide +kernel⟩
theorem b__law_refused (G : Gd P w K mg base) : Binds K (fdOf K (He.ga K "_law_refused")) ["act"] [] := G.f__law_refused.f.binds fun _ _ _ _ _ _ us hl => match us, hl with | [_], _ => rfl
theorem sc__law_odds : FnScope ["parts", "end", "kinds", "lots", "sizes", "firsts", "many", "yearly", "some"] ["parts"] (defScope s__law_odds) := ⟨rfl, rfl, rfl, by decide +kernel, rfl, by decide +kernel, by decide +kernel⟩
theorem b__law_odds (G : Gd P w K mg base) : Binds K (fdOf K (He.ga K "_law_odds")) ["parts"] [] := G.f__law_odds.f.binds fun _ _ _ _ _ _ us hl => match us, hl with | [_], _ => rfl
theorem sc__law_right : FnScope ["well", "turn", "parts", "house", "right", "odds", "at", "bad", "wrong", "none", "had", "due"] ["well"] (defScope s__law_right) := ⟨rfl, rfl, rfl, by decide +kernel, rfl, by decide +kernel, by decide +kernel⟩
theorem b__law_right (G : Gd P w K mg base) : Binds K (fdOf K (He.ga K "_law_right")) ["well"] [] := G.f__law_right.f.binds fun _ _ _ _ _ _ us hl => match us, hl with | [_], _ => rfl
theorem sc_law : FnScope ["script", "lap"] ["script"] (defScope s_law) := ⟨rfl, rfl, rfl, by decide +kernel, rfl, by decide +kernel, by decide +kernel⟩
theorem b_law (G : Gd P w K mg base) : Binds K (fdOf K (He.ga K "law")) ["script"] [] := G.f_law.f.binds fun _ _ _ _ _ _ us hl => match us, hl with | [_], _ => rfl
theorem sc_House_end : FnScope ["self"] ["self"] (defScope s_House_end) := ⟨rfl, rfl, rfl, by decide +kernel, rfl, by decide +kernel, by decide +kernel⟩
theorem b_House_end (G : Gd P w K mg base) : Binds K (fdOf K (gtA K "House" "end")) ["self"] [] := G.f_House_end.binds fun _ _ _ _ _ _ us hl => match us, hl with | [_], _ => rfl
theorem sc_House_kinds : FnScope ["self"] ["self"] (defScope s_House_kinds) := ⟨rfl, rfl, rfl, by decide +kernel, rfl, by decide +kernel, by decide +kernel⟩
theorem b_House_kinds (G : Gd P w K mg base) : Binds K (fdOf K (gtA K "House" "kinds")) ["self"] [] := G.f_House_kinds.binds fun _ _ _ _ _ _ us hl => match us, hl with | [_], _ => rfl
theorem sc_House_lots : FnScope ["self"] ["self"] (defScope s_House_lots) := ⟨rfl, rfl, rfl, by decide +kernel, rfl, by decide +kernel, by decide +kernel⟩
theorem b_House_lots (G : Gd P w K mg base) : Binds K (fdOf K (gtA K "House" "lots")) ["self"] [] := G.f_House_lots.binds fun _ _ _ _ _ _ us hl => match us, hl with | [_], _ => rfl
theorem sc_House_parts : FnScope ["self"] ["self"] (defScope s_House_parts) := ⟨rfl, rfl, rfl, by decide +kernel, rfl, by decide +kernel, by decide +kernel⟩
theorem b_House_parts (G : Gd P w K mg base) : Binds K (fdOf K (gtA K "House" "parts")) ["self"] [] := G.f_House_parts.binds fun _ _ _ _ _ _ us hl => match us, hl with | [_], _ => rfl
theorem sc_House_whole : FnScope ["self"] ["self"] (defScope s_House_whole) := ⟨rfl, rfl, rfl, by decide +kernel, rfl, by decide +kernel, by decide +kernel⟩
theorem b_House_whole (G : Gd P w K mg base) : Binds K (fdOf K (gtA K "House" "whole")) ["self"] [] := G.f_House_whole.binds fun _ _ _ _ _ _ us hl => match us, hl with | [_], _ => rfl
theorem sc_House___eq__ : FnScope ["self", "other"] ["self", "other"] (defScope s_House___eq__) := ⟨rfl, rfl, rfl, by decide +kernel, rfl, by decide +kernel, by decide +kernel⟩
theorem b_House___eq__ (G : Gd P w K mg base) : Binds K (fdOf K (He.fAd K ("House", some "__eq__"))) ["self", "other"] [] := G.f_House___eq__.binds fun _ _ _ _ _ _ us hl => match us, hl with | [_, _], _ => rfl
theorem bk_contract_lots_0_contract_house (G : Gd P w K mg base) : BindD K (fdOf K (He.ga K "contract_lots")) ["house", "contract"] ["contract", "house"] 0 [1, 0] := BindD.of G.f_contract_lots.f fun _ _ _ _ _ _ us ws h1 h2 => match us, ws, h1, h2 with | [], [_, _], _, _ => rfl
theorem bk_House___init___4_ (G : Gd P w K mg base) : BindD K (fdOf K (He.fAd K ("House", some "__init__"))) ["self", "end", "kinds", "lots"] [] 4 [0, 1, 2, 3] := BindD.of G.f_House___init__ fun _ _ _ _ _ _ us ws h1 h2 => match us, ws, h1, h2 with | [_, _, _, _], [], _, _ => rfl
theorem bk_with_contract_0_contract_house (G : Gd P w K mg base) : BindD K (fdOf K (He.ga K "with_contract")) ["house", "contract"] ["contract", "house"] 0 [1, 0] := BindD.of G.f_with_contract.f fun _ _ _ _ _ _ us ws h1 h2 => match us, ws, h1, h2 with | [], [_, _], _, _ => rfl
theorem w_is_whole (G : Gd P w K mg base) : FnD P w K mg base (tabs K) 3 (He.ga K "is_whole") (fdOf K (He.ga K "is_whole")) ["value"] (mf_is_whole K) := by
  refine FnD.of (m := m_is_whole K) G.f_is_whole.f sc_is_whole rfl rfl leaves_leave fun T cdv A outer s H E X hT hcd hX hr hgd tk hp => ?_
  subst hX
  obtain ⟨tb, ths, tvs⟩ := T
  obtain rfl : tb = tabs K := hT
  have hu := huOf hr
  have hN := sc_is_whole.nd
  have hc : (cxOf (L2.CX P w) P w K mg base ["value"] "is_whole" (defScope s_is_whole) (He.ga K "is_whole") cdv A outer s H E).calm = true := rfl
  exact db_one (ds_ret (de_and (de_isi G.isi G.n_isinstance (da_cons (de_v 0) (da_cons (de_ty G.n_int bv_int) (da_nil)))) (de_one (de_not (de_isi G.isi G.n_isinstance (da_cons (de_v 0) (da_cons (de_ty G.n_bool bv_bool) (da_nil))))))))
theorem w_is_number (G : Gd P w K mg base) : FnD P w K mg base (tabs K) 4 (He.ga K "is_number") (fdOf K (He.ga K "is_number")) ["value", "low", "high"] (mf_is_number K) := by
  refine FnD.of (m := m_is_number K) G.f_is_number.f sc_is_number rfl rfl leaves_leave fun T cdv A outer s H E X hT hcd hX hr hgd tk hp => ?_
  subst hX
  obtain ⟨tb, ths, tvs⟩ := T
  obtain rfl : tb = tabs K := hT
  have hu := huOf hr
  have hN := sc_is_number.nd
  have hc : (cxOf (L2.CX P w) P w K mg base ["value", "low", "high"] "is_number" (defScope s_is_number) (He.ga K "is_number") cdv A outer s H E).calm = true := rfl
  exact db_cons (ds_if (DW.dt (dw_or (dt_not (dt_val (de_call (w_is_whole G) (hr.mono (by omega)) hgd tk (by rfl) G.f_is_whole.m G.f_is_whole.f.kp (b_is_whole G) (da_cons (de_v 0) (da_nil))))) (dw_or1 (DW.dt (dw_and (dt_notN (de_v 1) (de_non)) (dw_and1 (dt_lt (de_v 0) (de_v 1)))))))) (db_one (ds_ret (de_bl))) (db_nil)) (
    db_one (ds_ret (de_or (de_isN (de_v 2) (de_non)) (de_one (de_le (de_v 0) (de_v 2))))))
theorem w_is_word (G : Gd P w K mg base) : FnD P w K mg base (tabs K) 3 (He.ga K "is_word") (fdOf K (He.ga K "is_word")) ["value"] (mf_is_word K) := by
  refine FnD.of (m := m_is_word K) G.f_is_word.f sc_is_word rfl rfl leaves_leave fun T cdv A outer s H E X hT hcd hX hr hgd tk hp => ?_
  subst hX
  obtain ⟨tb, ths, tvs⟩ := T
  obtain rfl : tb = tabs K := hT
  have hu := huOf hr
  have hN := sc_is_word.nd
  have hc : (cxOf (L2.CX P w) P w K mg base ["value", "letter"] "is_word" (defScope s_is_word) (He.ga K "is_word") cdv A outer s H E).calm = true := rfl
  exact db_one (ds_ret (de_and (de_isi G.isi G.n_isinstance (da_cons (de_v 0) (da_cons (de_ty G.n_str bv_str) (da_nil)))) (de_and (de_ne hu (de_v 0) (de_str)) (de_one (de_all hc G.n_all (da_cons (de_lc hc hN (di_seq (de_v 0)) (own := [("letter", 1)]) (blkOk_by (N := ["value", "letter"]) (sc := defScope s_is_word) (by decide +kernel)) (by decide) (fun s H C cl fp => dn_name 1 hN) (fun s H C cl fp => dts_nil) (fun s H C cl fp => de_in (de_v 1) (de_gstr G.v_LETTERS))) (da_nil)))))))
theorem w_is_name (G : Gd P w K mg base) : FnD P w K mg base (tabs K) 4 (He.ga K "is_name") (fdOf K (He.ga K "is_name")) ["value"] (mf_is_name K) := by
  refine FnD.of (m := m_is_name K) G.f_is_name.f sc_is_name rfl rfl leaves_leave fun T cdv A outer s H E X hT hcd hX hr hgd tk hp => ?_
  subst hX
  obtain ⟨tb, ths, tvs⟩ := T
  obtain rfl : tb = tabs K := hT
  have hu := huOf hr
  have hN := sc_is_name.nd
  have hc : (cxOf (L2.CX P w) P w K mg base ["value"] "is_name" (defScope s_is_name) (He.ga K "is_name") cdv A outer s H E).calm = true := rfl
  exact db_one (ds_ret (de_and (de_call (w_is_word G) (hr.mono (by omega)) hgd tk (by rfl) G.f_is_word.m G.f_is_word.f.kp (b_is_word G) (da_cons (de_v 0) (da_nil))) (de_and (de_le (de_len G.n_len (da_cons (de_v 0) (da_nil))) (de_gint G.v_MOST_LETTERS)) (de_one (de_notIn (de_v 0) (de_gtup (vs := dv_WORDS) G.v_WORDS))))))
theorem w_is_tuple_of (G : Gd P w K mg base) : FnD P w K mg base (tabs K) 3 (He.ga K "is_tuple_of") (fdOf K (He.ga K "is_tuple_of")) ["value", "length"] (mf_is_tuple_of K) := by
  refine FnD.of (m := m_is_tuple_of K) G.f_is_tuple_of.f sc_is_tuple_of rfl rfl leaves_leave fun T cdv A outer s H E X hT hcd hX hr hgd tk hp => ?_
  subst hX
  obtain ⟨tb, ths, tvs⟩ := T
  obtain rfl : tb = tabs K := hT
  have hu := huOf hr
  have hN := sc_is_tuple_of.nd
  have hc : (cxOf (L2.CX P w) P w K mg base ["value", "length"] "is_tuple_of" (defScope s_is_tuple_of) (He.ga K "is_tuple_of") cdv A outer s H E).calm = true := rfl
  exact db_one (ds_ret (de_and (de_isi G.isi G.n_isinstance (da_cons (de_v 0) (da_cons (de_ty G.n_tuple bv_tuple) (da_nil)))) (de_one (de_eq hu (de_len G.n_len (da_cons (de_v 0) (da_nil))) (de_v 1)))))
theorem w_is_one_of (G : Gd P w K mg base) : FnD P w K mg base (tabs K) 3 (He.ga K "is_one_of") (fdOf K (He.ga K "is_one_of")) ["value", "some"] (mf_is_one_of K) := by
  refine FnD.of (m := m_is_one_of K) G.f_is_one_of.f sc_is_one_of rfl rfl leaves_leave fun T cdv A outer s H E X hT hcd hX hr hgd tk hp => ?_
  subst hX
  obtain ⟨tb, ths, tvs⟩ := T
  obtain rfl : tb = tabs K := hT
  have hu := huOf hr
  have hN := sc_is_one_of.nd
  have hc : (cxOf (L2.CX P w) P w K mg base ["value", "some"] "is_one_of" (defScope s_is_one_of) (He.ga K "is_one_of") cdv A outer s H E).calm = true := rfl
  exact db_one (ds_ret (de_and (de_isi G.isi G.n_isinstance (da_cons (de_v 0) (da_cons (de_ty G.n_str bv_str) (da_nil)))) (de_one (de_in (de_v 0) (de_v 1)))))
theorem w_wrong_at (kc : Nat) (G : Gd P w K mg base) : FnC P w K mg base (tabs K) (kc + 1) (kc + 4) (He.ga K "wrong_at") (fdOf K (He.ga K "wrong_at")) ["value", "most", "is_right"] (mf_wrong_at K) := by
  refine FnC.of (k := kc + 3) (m := m_wrong_at K) G.f_wrong_at.f sc_wrong_at rfl rfl leaves_leave fun T g cl fr ws ap cdv A outer s H E X hT hcd hX hclo hC hr hgd tk hp => ?_
  subst hX
  obtain ⟨tb, ths, tvs⟩ := T
  obtain rfl : tb = tabs K := hT
  have hu := huOf hr
  have hN := sc_wrong_at.nd
  have hc : (cxOf (L2.CX P w) P w K mg base ["value", "most", "is_right", "at", "each"] "wrong_at" (defScope s_wrong_at) (He.ga K "wrong_at") cdv A outer s H E).calm = true := rfl
  exact db_cons (ds_if (dt_not (dt_val (de_isi G.isi G.n_isinstance (da_cons (de_v 0) (da_cons (de_ty G.n_tuple bv_tuple) (da_nil)))))) (db_one (ds_ret (de_lst (da_cons (de_non) (da_nil))))) (db_nil)) (
    db_cons (ds_for hp hc (di_enumA (by rfl) G.n_enumerate (da_cons (de_v 0) (da_nil))) (dn_tup hc (dns_cons (dn_name 3 hN) (dns_cons (dn_name 4 hN) (dns_nil)))) (db_one (ds_if (DW.dt (dw_or (DW.dt (dw_and (dt_notN (de_v 1) (de_non)) (dw_and1 (dt_ge (de_v 3) (de_v 1))))) (dw_or1 (dt_not (dt_val (de_clo 2 hclo hC (hr.mono (by omega)) hgd tk (da_cons (de_v 4) (da_cons (de_cut (de_v 0) (do_none) (do_some (de_v 3))) (da_nil))))))))) (db_one (ds_ret (de_lst (da_cons (de_v 3) (da_nil))))) (db_nil)))) (
    db_one (ds_ret (de_lst (da_nil)))))
theorem w_wrong_from_one (kc : Nat) (G : Gd P w K mg base) : FnC P w K mg base (tabs K) (kc + 1) (kc + 6) (He.ga K "wrong_from_one") (fdOf K (He.ga K "wrong_from_one")) ["value", "most", "is_right"] (mf_wrong_from_one K) := by
  refine FnC.of (k := kc + 5) (m := m_wrong_from_one K) G.f_wrong_from_one.f sc_wrong_from_one rfl rfl leaves_leave fun T g cl fr ws ap cdv A outer s H E X hT hcd hX hclo hC hr hgd tk hp => ?_
  subst hX
  obtain ⟨tb, ths, tvs⟩ := T
  obtain rfl : tb = tabs K := hT
  have hu := huOf hr
  have hN := sc_wrong_from_one.nd
  have hc : (cxOf (L2.CX P w) P w K mg base ["value", "most", "is_right"] "wrong_from_one" (defScope s_wrong_from_one) (He.ga K "wrong_from_one") cdv A outer s H E).calm = true := rfl
  exact db_one (ds_ret (de_if (DW.dt (dw_and (dt_val (de_isi G.isi G.n_isinstance (da_cons (de_v 0) (da_cons (de_ty G.n_tuple bv_tuple) (da_nil))))) (dw_and1 (dt_eq hu (de_v 0) (de_tup (da_nil)))))) (de_lst (da_cons (de_non) (da_nil))) (de_callC (w_wrong_at kc G) hclo hC (hr.mono (by omega)) hgd tk (by rfl) G.f_wrong_at.m G.f_wrong_at.f.kp (b_wrong_at G) (da_cons (de_v 0) (da_cons (de_v 1) (da_cons (de_v 2) (da_nil)))))))
theorem w_wrong_kinds (G : Gd P w K mg base) : FnD P w K mg base (tabs K) 11 (He.ga K "wrong_kinds") (fdOf K (He.ga K "wrong_kinds")) ["value"] (mf_wrong_kinds K) := by
  refine FnD.of (m := m_wrong_kinds K) G.f_wrong_kinds.f sc_wrong_kinds rfl rfl leaves_leave fun T cdv A outer s H E X hT hcd hX hr hgd tk hp => ?_
  subst hX
  obtain ⟨tb, ths, tvs⟩ := T
  obtain rfl : tb = tabs K := hT
  have hu := huOf hr
  have hN := sc_wrong_kinds.nd
  have hc : (cxOf (L2.CX P w) P w K mg base ["value", "is_right"] "wrong_kinds" (defScope s_wrong_kinds) (He.ga K "wrong_kinds") cdv A outer s H E).calm = true := rfl
  have hlamK : LamK (cxOf (L2.CX P w) P w K mg base ["value", "is_right"] "wrong_kinds" (defScope s_wrong_kinds) (He.ga K "wrong_kinds") cdv A outer s H E) (tabs K) (nmq "wrong_kinds.<locals>.is_right") := ⟨_, _, G.t_wrong_kinds, (show cdv = _ from Option.some.inj (hcd.symm.trans G.o_wrong_kinds)), by simp [tabs], fun p hp e => G.tabs_u p hp (tabP K (He.ga K "wrong_kinds"), (nmq "wrong_kinds.<locals>.is_right")) (by simp [tabs]) e⟩
  exact db_def 1 hlamK (by rfl) (by rfl) (free_by (sc := defScope s_wrong_kinds) (by decide +kernel)) (by rfl) (by rfl) (by rfl) hN (by rfl) (by first | exact Or.inl rfl | exact Or.inr rfl) (by first | exact .inl rfl | exact .inr rfl) (fun T' gd1 gc1 hT1 hgf1 hgc1 => by
    obtain ⟨tb11, ths11, tvs11⟩ := T'
    obtain rfl : tb11 = tabs K := hT1
    exact db_one (ds_ret (de_callN (w_wrong_from_one 4 G) (N := ["each", "before"]) (qs := ["each", "before"]) (fr := []) (js := []) hgf1 hgc1 (NdefX.nscope_by (by decide +kernel)) rfl rfl leaves_leave (by decide +kernel) (free_by (sc := defScope s_wrong_kinds) (by decide +kernel)) (by rfl) (fun _ _ _ us hl => match us, hl with | [_, _], _ => rfl) (fun T' f c' A outer s H E X hT hX hr hgd tk hp => by
        subst hX
        obtain ⟨tb2, ths2, tvs2⟩ := T'
        obtain rfl : tb2 = tabs K := hT
        have hu := huOf hr
        have hN : (["each", "before"] : List Str).Nodup := by decide
        have hc : true = true := rfl
        exact db_one (ds_ret (de_and (de_call (w_is_name G) (hr.mono (by omega)) hgd tk (by rfl) G.f_is_name.m G.f_is_name.f.kp (b_is_name G) (da_cons (de_v 0) (da_nil))) (de_one (de_or (de_eq hu (de_v 1) (de_tup (da_nil))) (de_one (de_cmp (op_ltA hu) tell_ltA (de_ix (de_v 1) (de_neg (de_int))) (de_v 0)))))))) (hr.mono (by omega)) hgd tk (by rfl) G.f_wrong_from_one.m G.f_wrong_from_one.f.kp (b_wrong_from_one G) (da_cons (de_v 0) (da_cons (de_gint G.v_MOST_KINDS) (da_cons (de_v 1) (da_nil)))))))
theorem w_are_some_kinds (G : Gd P w K mg base) : FnD P w K mg base (tabs K) 10 (He.ga K "are_some_kinds") (fdOf K (He.ga K "are_some_kinds")) ["kinds", "value"] (mf_are_some_kinds K) := by
  refine FnD.of (m := m_are_some_kinds K) G.f_are_some_kinds.f sc_are_some_kinds rfl rfl leaves_leave fun T cdv A outer s H E X hT hcd hX hr hgd tk hp => ?_
  subst hX
  obtain ⟨tb, ths, tvs⟩ := T
  obtain rfl : tb = tabs K := hT
  have hu := huOf hr
  have hN := sc_are_some_kinds.nd
  have hc : (cxOf (L2.CX P w) P w K mg base ["kinds", "value", "is_right"] "are_some_kinds" (defScope s_are_some_kinds) (He.ga K "are_some_kinds") cdv A outer s H E).calm = true := rfl
  have hlamK : LamK (cxOf (L2.CX P w) P w K mg base ["kinds", "value", "is_right"] "are_some_kinds" (defScope s_are_some_kinds) (He.ga K "are_some_kinds") cdv A outer s H E) (tabs K) (nmq "are_some_kinds.<locals>.is_right") := ⟨_, _, G.t_are_some_kinds, (show cdv = _ from Option.some.inj (hcd.symm.trans G.o_are_some_kinds)), by simp [tabs], fun p hp e => G.tabs_u p hp (tabP K (He.ga K "are_some_kinds"), (nmq "are_some_kinds.<locals>.is_right")) (by simp [tabs]) e⟩
  exact db_def 2 hlamK (by rfl) (by rfl) (free_by (sc := defScope s_are_some_kinds) (by decide +kernel)) (by rfl) (by rfl) (by rfl) hN (by rfl) (by first | exact Or.inl rfl | exact Or.inr rfl) (by first | exact .inl rfl | exact .inr rfl) (fun T' gd1 gc1 hT1 hgf1 hgc1 => by
    obtain ⟨tb11, ths11, tvs11⟩ := T'
    obtain rfl : tb11 = tabs K := hT1
    exact db_one (ds_ret (de_eq hu (de_callN (w_wrong_from_one 3 G) (N := ["each", "before", "kinds"]) (qs := ["each", "before"]) (fr := ["kinds"]) (js := [0]) hgf1 hgc1 (NdefX.nscope_by (by decide +kernel)) rfl rfl leaves_leave (by decide +kernel) (free_by (sc := defScope s_are_some_kinds) (by decide +kernel)) (by rfl) (fun _ _ _ us hl => match us, hl with | [_, _], _ => rfl) (fun T' f c' A outer s H E X hT hX hr hgd tk hp => by
        subst hX
        obtain ⟨tb2, ths2, tvs2⟩ := T'
        obtain rfl : tb2 = tabs K := hT
        have hu := huOf hr
        have hN : (["each", "before", "kinds"] : List Str).Nodup := by decide
        have hc : true = true := rfl
        exact db_one (ds_ret (de_and (de_call (w_is_one_of G) (hr.mono (by omega)) hgd tk (by rfl) G.f_is_one_of.m G.f_is_one_of.f.kp (b_is_one_of G) (da_cons (de_v 0) (da_cons (de_v 2) (da_nil)))) (de_one (de_or (de_eq hu (de_v 1) (de_tup (da_nil))) (de_one (de_cmp (op_ltA hu) tell_ltA (de_ix (de_v 1) (de_neg (de_int))) (de_v 0)))))))) (hr.mono (by omega)) hgd tk (by rfl) G.f_wrong_from_one.m G.f_wrong_from_one.f.kp (b_wrong_from_one G) (da_cons (de_v 1) (da_cons (de_non) (da_cons (de_v 2) (da_nil))))) (de_lst (da_nil)))))
theorem w_is_lot (G : Gd P w K mg base) : FnD P w K mg base (tabs K) 11 (He.ga K "is_lot") (fdOf K (He.ga K "is_lot")) ["end", "kinds", "value"] (mf_is_lot K) := by
  refine FnD.of (m := m_is_lot K) G.f_is_lot.f sc_is_lot rfl rfl leaves_leave fun T cdv A outer s H E X hT hcd hX hr hgd tk hp => ?_
  subst hX
  obtain ⟨tb, ths, tvs⟩ := T
  obtain rfl : tb = tabs K := hT
  have hu := huOf hr
  have hN := sc_is_lot.nd
  have hc : (cxOf (L2.CX P w) P w K mg base ["end", "kinds", "value"] "is_lot" (defScope s_is_lot) (He.ga K "is_lot") cdv A outer s H E).calm = true := rfl
  exact db_cons (ds_if (DW.dt (dw_or (dt_not (dt_val (de_call (w_is_tuple_of G) (hr.mono (by omega)) hgd tk (by rfl) G.f_is_tuple_of.m G.f_is_tuple_of.f.kp (b_is_tuple_of G) (da_cons (de_v 2) (da_cons (de_int) (da_nil)))))) (dw_or (dt_not (dt_val (de_call (w_is_number G) (hr.mono (by omega)) hgd tk (by rfl) G.f_is_number.m G.f_is_number.f.kp (b_is_number G) (da_cons (de_ix (de_v 2) (de_int)) (da_cons (de_int) (da_cons (de_v 0) (da_nil))))))) (dw_or1 (dt_not (dt_val (de_call (w_is_number G) (hr.mono (by omega)) hgd tk (by rfl) G.f_is_number.m G.f_is_number.f.kp (b_is_number G) (da_cons (de_ix (de_v 2) (de_int)) (da_cons (de_ix (de_v 2) (de_int)) (da_cons (de_v 0) (da_nil))))))))))) (db_one (ds_ret (de_bl))) (db_nil)) (
    db_one (ds_ret (de_and (de_call (w_is_number G) (hr.mono (by omega)) hgd tk (by rfl) G.f_is_number.m G.f_is_number.f.kp (b_is_number G) (da_cons (de_ix (de_v 2) (de_int)) (da_cons (de_int) (da_cons (de_gint G.v_MOST_UNITS) (da_nil))))) (de_one (de_call (w_are_some_kinds G) (hr.mono (by omega)) hgd tk (by rfl) G.f_are_some_kinds.m G.f_are_some_kinds.f.kp (b_are_some_kinds G) (da_cons (de_v 1) (da_cons (de_ix (de_v 2) (de_int)) (da_nil))))))))
theorem w_wrong_lots (G : Gd P w K mg base) : FnD P w K mg base (tabs K) 16 (He.ga K "wrong_lots") (fdOf K (He.ga K "wrong_lots")) ["end", "kinds", "value"] (mf_wrong_lots K) := by
  refine FnD.of (m := m_wrong_lots K) G.f_wrong_lots.f sc_wrong_lots rfl rfl leaves_leave fun T cdv A outer s H E X hT hcd hX hr hgd tk hp => ?_
  subst hX
  obtain ⟨tb, ths, tvs⟩ := T
  obtain rfl : tb = tabs K := hT
  have hu := huOf hr
  have hN := sc_wrong_lots.nd
  have hc : (cxOf (L2.CX P w) P w K mg base ["end", "kinds", "value", "is_right"] "wrong_lots" (defScope s_wrong_lots) (He.ga K "wrong_lots") cdv A outer s H E).calm = true := rfl
  have hlamK : LamK (cxOf (L2.CX P w) P w K mg base ["end", "kinds", "value", "is_right"] "wrong_lots" (defScope s_wrong_lots) (He.ga K "wrong_lots") cdv A outer s H E) (tabs K) (nmq "wrong_lots.<locals>.is_right") := ⟨_, _, G.t_wrong_lots, (show cdv = _ from Option.some.inj (hcd.symm.trans G.o_wrong_lots)), by simp [tabs], fun p hp e => G.tabs_u p hp (tabP K (He.ga K "wrong_lots"), (nmq "wrong_lots.<locals>.is_right")) (by simp [tabs]) e⟩
  exact db_def 3 hlamK (by rfl) (by rfl) (free_by (sc := defScope s_wrong_lots) (by decide +kernel)) (by rfl) (by rfl) (by rfl) hN (by rfl) (by first | exact Or.inl rfl | exact Or.inr rfl) (by first | exact .inl rfl | exact .inr rfl) (fun T' gd1 gc1 hT1 hgf1 hgc1 => by
    obtain ⟨tb11, ths11, tvs11⟩ := T'
    obtain rfl : tb11 = tabs K := hT1
    exact db_one (ds_ret (de_callN (w_wrong_at 11 G) (N := ["each", "before", "end", "kinds"]) (qs := ["each", "before"]) (fr := ["end", "kinds"]) (js := [0, 1]) hgf1 hgc1 (NdefX.nscope_by (by decide +kernel)) rfl rfl leaves_leave (by decide +kernel) (free_by (sc := defScope s_wrong_lots) (by decide +kernel)) (by rfl) (fun _ _ _ us hl => match us, hl with | [_, _], _ => rfl) (fun T' f c' A outer s H E X hT hX hr hgd tk hp => by
        subst hX
        obtain ⟨tb2, ths2, tvs2⟩ := T'
        obtain rfl : tb2 = tabs K := hT
        have hu := huOf hr
        have hN : (["each", "before", "end", "kinds"] : List Str).Nodup := by decide
        have hc : true = true := rfl
        exact db_one (ds_ret (de_and (de_call (w_is_lot G) (hr.mono (by omega)) hgd tk (by rfl) G.f_is_lot.m G.f_is_lot.f.kp (b_is_lot G) (da_cons (de_v 2) (da_cons (de_v 3) (da_cons (de_v 0) (da_nil))))) (de_one (de_or (de_eq hu (de_v 1) (de_tup (da_nil))) (de_one (de_cmp (op_leA hu) tell_leA (de_ix (de_v 1) (de_neg (de_int))) (de_v 0)))))))) (hr.mono (by omega)) hgd tk (by rfl) G.f_wrong_at.m G.f_wrong_at.f.kp (b_wrong_at G) (da_cons (de_v 2) (da_cons (de_gint G.v_MOST_LOTS) (da_cons (de_v 3) (da_nil)))))))
theorem w_units_of (G : Gd P w K mg base) : FnD P w K mg base (tabs K) 3 (He.ga K "units_of") (fdOf K (He.ga K "units_of")) ["lots"] (mf_units_of K) := by
  refine FnD.of (m := m_units_of K) G.f_units_of.f sc_units_of rfl rfl leaves_leave fun T cdv A outer s H E X hT hcd hX hr hgd tk hp => ?_
  subst hX
  obtain ⟨tb, ths, tvs⟩ := T
  obtain rfl : tb = tabs K := hT
  have hu := huOf hr
  have hN := sc_units_of.nd
  have hc : (cxOf (L2.CX P w) P w K mg base ["lots", "lot"] "units_of" (defScope s_units_of) (He.ga K "units_of") cdv A outer s H E).calm = true := rfl
  exact db_one (ds_ret (de_sum hc G.n_sum (da_cons (de_lc hc hN (di_seq (de_v 0)) (own := [("lot", 1)]) (blkOk_by (N := ["lots", "lot"]) (sc := defScope s_units_of) (by decide +kernel)) (by decide) (fun s H C cl fp => dn_name 1 hN) (fun s H C cl fp => dts_nil) (fun s H C cl fp => de_ix (de_v 1) (de_int))) (da_nil))))
theorem w_check_house (G : Gd P w K mg base) : FnD P w K mg base (tabs K) 3 (He.ga K "check_house") (fdOf K (He.ga K "check_house")) ["value"] (mf_check_house K) := by
  refine FnD.of (m := m_check_house K) G.f_check_house.f sc_check_house rfl rfl leaves_leave fun T cdv A outer s H E X hT hcd hX hr hgd tk hp => ?_
  subst hX
  obtain ⟨tb, ths, tvs⟩ := T
  obtain rfl : tb = tabs K := hT
  have hu := huOf hr
  have hN := sc_check_house.nd
  have hc : (cxOf (L2.CX P w) P w K mg base ["value"] "check_house" (defScope s_check_house) (He.ga K "check_house") cdv A outer s H E).calm = true := rfl
  exact db_one (ds_if (dt_not (dt_val (de_isi G.isi G.n_isinstance (da_cons (de_v 0) (da_cons (de_gref G.kg_House) (da_nil)))))) (db_one (ds_raise G.c_NotAHouse.e (hr.mono (by omega)) hc tk (by rfl) (de_v 0))) (db_nil))
theorem w_sum_behind (G : Gd P w K mg base) : FnD P w K mg base (tabs K) 3 (He.ga K "sum_behind") (fdOf K (He.ga K "sum_behind")) ["yearly", "parts", "way", "index"] (mf_sum_behind K) := by
  refine FnD.of (m := m_sum_behind K) G.f_sum_behind.f sc_sum_behind rfl rfl leaves_leave fun T cdv A outer s H E X hT hcd hX hr hgd tk hp => ?_
  subst hX
  obtain ⟨tb, ths, tvs⟩ := T
  obtain rfl : tb = tabs K := hT
  have hu := huOf hr
  have hN := sc_sum_behind.nd
  have hc : (cxOf (L2.CX P w) P w K mg base ["yearly", "parts", "way", "index", "here", "part"] "sum_behind" (defScope s_sum_behind) (He.ga K "sum_behind") cdv A outer s H E).calm = true := rfl
  exact db_cons (ds_set 4 hN (de_mul (de_v 3) (de_v 0))) (
    db_cons (ds_if (dt_eq hu (de_v 2) (de_gstr G.v_DOWN)) (db_one (ds_ret (de_div (de_v 4) (de_v 1)))) (db_nil)) (
    db_cons (ds_if (dt_eq hu (de_v 2) (de_gstr G.v_NEAR)) (db_one (ds_ret (de_div (de_add (de_mul (de_int) (de_v 4)) (de_v 1)) (de_mul (de_int) (de_v 1))))) (db_nil)) (
    db_cons (ds_if (dt_eq hu (de_v 2) (de_gstr G.v_UP)) (db_one (ds_ret (de_sub (de_int) (de_div (de_sub (de_int) (de_v 4)) (de_v 1))))) (db_nil)) (
    db_cons (ds_set 5 hN (de_div (de_v 0) (de_v 1))) (
    db_cons (ds_if (DW.dt (dw_or (dt_eq hu (de_v 2) (de_gstr G.v_FIRST)) (dw_or1 (dt_eq hu (de_v 3) (de_v 1))))) (db_one (ds_ret (de_sub (de_add (de_mul (de_v 3) (de_v 5)) (de_v 0)) (de_mul (de_v 1) (de_v 5))))) (db_nil)) (
    db_one (ds_ret (de_mul (de_v 3) (de_v 5)))))))))
theorem w_sums_of (G : Gd P w K mg base) : FnD P w K mg base (tabs K) 4 (He.ga K "sums_of") (fdOf K (He.ga K "sums_of")) ["yearly", "parts", "way"] (mf_sums_of K) := by
  refine FnD.of (m := m_sums_of K) G.f_sums_of.f sc_sums_of rfl rfl leaves_leave fun T cdv A outer s H E X hT hcd hX hr hgd tk hp => ?_
  subst hX
  obtain ⟨tb, ths, tvs⟩ := T
  obtain rfl : tb = tabs K := hT
  have hu := huOf hr
  have hN := sc_sums_of.nd
  have hc : (cxOf (L2.CX P w) P w K mg base ["yearly", "parts", "way", "index"] "sums_of" (defScope s_sums_of) (He.ga K "sums_of") cdv A outer s H E).calm = true := rfl
  exact db_one (ds_ret (de_lc hc hN (di_range2 (by rfl) G.n_range (da_cons (de_int) (da_cons (de_add (de_v 1) (de_int)) (da_nil)))) (own := [("index", 3)]) (blkOk_by (N := ["yearly", "parts", "way", "index"]) (sc := defScope s_sums_of) (by decide +kernel)) (by decide) (fun s H C cl fp => dn_name 3 hN) (fun s H C cl fp => dts_nil) (fun s H C cl fp => de_call (w_sum_behind G) (hr.mono (by omega)) hgd takes_none5 (by rfl) G.f_sum_behind.m G.f_sum_behind.f.kp (b_sum_behind G) (da_cons (de_v 0) (da_cons (de_v 1) (da_cons (de_v 2) (da_cons (de_v 3) (da_nil))))))))
theorem w_parts_of (G : Gd P w K mg base) : FnD P w K mg base (tabs K) 5 (He.ga K "parts_of") (fdOf K (He.ga K "parts_of")) ["yearly", "parts", "way"] (mf_parts_of K) := by
  refine FnD.of (m := m_parts_of K) G.f_parts_of.f sc_parts_of rfl rfl leaves_leave fun T cdv A outer s H E X hT hcd hX hr hgd tk hp => ?_
  subst hX
  obtain ⟨tb, ths, tvs⟩ := T
  obtain rfl : tb = tabs K := hT
  have hu := huOf hr
  have hN := sc_parts_of.nd
  have hc : (cxOf (L2.CX P w) P w K mg base ["yearly", "parts", "way", "found", "ahead", "later"] "parts_of" (defScope s_parts_of) (He.ga K "parts_of") cdv A outer s H E).calm = true := rfl
  exact db_cons (ds_set 3 hN (de_call (w_sums_of G) (hr.mono (by omega)) hgd tk (by rfl) G.f_sums_of.m G.f_sums_of.f.kp (b_sums_of G) (da_cons (de_v 0) (da_cons (de_v 1) (da_cons (de_v 2) (da_nil)))))) (
    db_one (ds_ret (de_lc hc hN (di_zip (by rfl) G.n_zip (da_cons (de_lst (da_cons (de_int) (da_star (de_v 3) (da_nil)))) (da_cons (de_v 3) (da_nil)))) (own := [("ahead", 4), ("later", 5)]) (blkOk_by (N := ["yearly", "parts", "way", "found", "ahead", "later"]) (sc := defScope s_parts_of) (by decide +kernel)) (by decide) (fun s H C cl fp => dn_tup hc (dns_cons (dn_name 4 hN) (dns_cons (dn_name 5 hN) (dns_nil)))) (fun s H C cl fp => dts_nil) (fun s H C cl fp => de_sub (de_v 5) (de_v 4)))))
theorem w_is_contract (G : Gd P w K mg base) : FnD P w K mg base (tabs K) 11 (He.ga K "is_contract") (fdOf K (He.ga K "is_contract")) ["house", "value"] (mf_is_contract K) := by
  refine FnD.of (m := m_is_contract K) G.f_is_contract.f sc_is_contract rfl rfl leaves_leave fun T cdv A outer s H E X hT hcd hX hr hgd tk hp => ?_
  subst hX
  obtain ⟨tb, ths, tvs⟩ := T
  obtain rfl : tb = tabs K := hT
  have hu := huOf hr
  have hN := sc_is_contract.nd
  have hc : (cxOf (L2.CX P w) P w K mg base ["house", "value"] "is_contract" (defScope s_is_contract) (He.ga K "is_contract") cdv A outer s H E).calm = true := rfl
  exact db_cons (ds_if (DW.dt (dw_or (dt_not (dt_val (de_call (w_is_tuple_of G) (hr.mono (by omega)) hgd tk (by rfl) G.f_is_tuple_of.m G.f_is_tuple_of.f.kp (b_is_tuple_of G) (da_cons (de_v 1) (da_cons (de_int) (da_nil)))))) (dw_or (dt_not (dt_val (de_call (w_is_number G) (hr.mono (by omega)) hgd tk (by rfl) G.f_is_number.m G.f_is_number.f.kp (b_is_number G) (da_cons (de_ix (de_v 1) (de_int)) (da_cons (de_int) (da_cons (de_fld G.k_House G.a_House_last (de_v 0)) (da_nil))))))) (dw_or1 (dt_not (dt_val (de_call (w_is_number G) (hr.mono (by omega)) hgd tk (by rfl) G.f_is_number.m G.f_is_number.f.kp (b_is_number G) (da_cons (de_ix (de_v 1) (de_int)) (da_cons (de_int) (da_cons (de_gint G.v_MOST_DAY) (da_nil))))))))))) (db_one (ds_ret (de_bl))) (db_nil)) (
    db_cons (ds_if (DW.dt (dw_or (dt_not (dt_val (de_call (w_is_number G) (hr.mono (by omega)) hgd tk (by rfl) G.f_is_number.m G.f_is_number.f.kp (b_is_number G) (da_cons (de_ix (de_v 1) (de_int)) (da_cons (de_int) (da_cons (de_gint G.v_MOST_PARTS) (da_nil))))))) (dw_or1 (dt_not (dt_val (de_call (w_is_number G) (hr.mono (by omega)) hgd tk (by rfl) G.f_is_number.m G.f_is_number.f.kp (b_is_number G) (da_cons (de_ix (de_v 1) (de_int)) (da_cons (de_int) (da_cons (de_gint G.v_MOST_UNITS) (da_nil)))))))))) (db_one (ds_ret (de_bl))) (db_nil)) (
    db_one (ds_ret (de_and (de_call (w_is_number G) (hr.mono (by omega)) hgd tk (by rfl) G.f_is_number.m G.f_is_number.f.kp (b_is_number G) (da_cons (de_ix (de_v 1) (de_int)) (da_cons (de_int) (da_cons (de_gint G.v_MOST_DAY) (da_nil))))) (de_and (de_call (w_are_some_kinds G) (hr.mono (by omega)) hgd tk (by rfl) G.f_are_some_kinds.m G.f_are_some_kinds.f.kp (b_are_some_kinds G) (da_cons (de_fld G.k_House G.a_House_names (de_v 0)) (da_cons (de_ix (de_v 1) (de_int)) (da_nil)))) (de_one (de_call (w_is_one_of G) (hr.mono (by omega)) hgd tk (by rfl) G.f_is_one_of.m G.f_is_one_of.f.kp (b_is_one_of G) (da_cons (de_ix (de_v 1) (de_int)) (da_cons (de_gtup (vs := dv_WAYS) G.v_WAYS) (da_nil))))))))))
theorem w_check_contract (G : Gd P w K mg base) : FnD P w K mg base (tabs K) 12 (He.ga K "check_contract") (fdOf K (He.ga K "check_contract")) ["house", "value"] (mf_check_contract K) := by
  refine FnD.of (m := m_check_contract K) G.f_check_contract.f sc_check_contract rfl rfl leaves_leave fun T cdv A outer s H E X hT hcd hX hr hgd tk hp => ?_
  subst hX
  obtain ⟨tb, ths, tvs⟩ := T
  obtain rfl : tb = tabs K := hT
  have hu := huOf hr
  have hN := sc_check_contract.nd
  have hc : (cxOf (L2.CX P w) P w K mg base ["house", "value"] "check_contract" (defScope s_check_contract) (He.ga K "check_contract") cdv A outer s H E).calm = true := rfl
  exact db_cons (ds_expr (de_call (w_check_house G) (hr.mono (by omega)) hgd tk (by rfl) G.f_check_house.m G.f_check_house.f.kp (b_check_house G) (da_cons (de_v 0) (da_nil)))) (
    db_one (ds_if (dt_not (dt_val (de_call (w_is_contract G) (hr.mono (by omega)) hgd tk (by rfl) G.f_is_contract.m G.f_is_contract.f.kp (b_is_contract G) (da_cons (de_v 0) (da_cons (de_v 1) (da_nil)))))) (db_one (ds_raise G.c_InvalidContract.e (hr.mono (by omega)) hc tk (by rfl) (de_v 1))) (db_nil)))
theorem w_lots_by (G : Gd P w K mg base) : FnD P w K mg base (tabs K) 6 (He.ga K "lots_by") (fdOf K (He.ga K "lots_by")) ["house", "contract"] (mf_lots_by K) := by
  refine FnD.of (m := m_lots_by K) G.f_lots_by.f sc_lots_by rfl rfl leaves_leave fun T cdv A outer s H E X hT hcd hX hr hgd tk hp => ?_
  subst hX
  obtain ⟨tb, ths, tvs⟩ := T
  obtain rfl : tb = tabs K := hT
  have hu := huOf hr
  have hN := sc_lots_by.nd
  have hc : (cxOf (L2.CX P w) P w K mg base ["house", "contract", "first", "step", "parts", "yearly", "life", "kinds", "way", "found", "at", "units", "day"] "lots_by" (defScope s_lots_by) (He.ga K "lots_by") cdv A outer s H E).calm = true := rfl
  exact db_cons (ds_asg (de_v 1) (dg_tup hc (dgs_cons (dg_name 2 hN) (dgs_cons (dg_name 3 hN) (dgs_cons (dg_name 4 hN) (dgs_cons (dg_name 5 hN) (dgs_cons (dg_name 6 hN) (dgs_cons (dg_name 7 hN) (dgs_cons (dg_name 8 hN) (dgs_nil)))))))))) (
    db_cons (ds_set 9 hN (de_lstN (da_nil))) (
    db_cons (ds_for hp hc (di_enumA (by rfl) G.n_enumerate (da_cons (de_call (w_parts_of G) (hr.mono (by omega)) hgd tk (by rfl) G.f_parts_of.m G.f_parts_of.f.kp (b_parts_of G) (da_cons (de_v 5) (da_cons (de_v 4) (da_cons (de_v 8) (da_nil))))) (da_nil))) (dn_tup hc (dns_cons (dn_name 10 hN) (dns_cons (dn_name 11 hN) (dns_nil)))) (db_cons (ds_set 12 hN (de_add (de_v 2) (de_mul (de_v 10) (de_v 3)))) (
    db_one (ds_if (DW.dt (dw_and (dt_gt (de_v 11) (de_int)) (dw_and1 (dt_le (de_v 12) (de_fld G.k_House G.a_House_last (de_v 0)))))) (db_one (ds_expr (de_append (de_v 9) (da_cons (de_tup (da_cons (de_v 12) (da_cons (de_min hc hu G.n_min (da_cons (de_add (de_v 12) (de_v 6)) (da_cons (de_fld G.k_House G.a_House_last (de_v 0)) (da_nil)))) (da_cons (de_v 11) (da_cons (de_v 7) (da_nil)))))) (da_nil))))) (db_nil))))) (
    db_one (ds_ret (de_bi (cr_sortD hu) tell_sorted (by rfl) G.n_sorted bv_sorted (da_cons (de_v 9) (da_nil)))))))
theorem w_contract_lots (G : Gd P w K mg base) : FnD P w K mg base (tabs K) 13 (He.ga K "contract_lots") (fdOf K (He.ga K "contract_lots")) ["house", "contract"] (mf_contract_lots K) := by
  refine FnD.of (m := m_contract_lots K) G.f_contract_lots.f sc_contract_lots rfl rfl leaves_leave fun T cdv A outer s H E X hT hcd hX hr hgd tk hp => ?_
  subst hX
  obtain ⟨tb, ths, tvs⟩ := T
  obtain rfl : tb = tabs K := hT
  have hu := huOf hr
  have hN := sc_contract_lots.nd
  have hc : (cxOf (L2.CX P w) P w K mg base ["house", "contract"] "contract_lots" (defScope s_contract_lots) (He.ga K "contract_lots") cdv A outer s H E).calm = true := rfl
  exact db_cons (ds_expr (de_call (w_check_contract G) (hr.mono (by omega)) hgd tk (by rfl) G.f_check_contract.m G.f_check_contract.f.kp (b_check_contract G) (da_cons (de_v 0) (da_cons (de_v 1) (da_nil))))) (
    db_one (ds_ret (de_tuple G.n_tuple (da_cons (de_call (w_lots_by G) (hr.mono (by omega)) hgd tk (by rfl) G.f_lots_by.m G.f_lots_by.f.kp (b_lots_by G) (da_cons (de_v 0) (da_cons (de_v 1) (da_nil)))) (da_nil)))))
theorem w_House___init__ (G : Gd P w K mg base) : FnD P w K mg base (tabs K) 17 (He.fAd K ("House", some "__init__")) (fdOf K (He.fAd K ("House", some "__init__"))) ["self", "end", "kinds", "lots"] (mf_House___init__ K) := by
  refine FnD.of (m := m_House___init__ K) G.f_House___init__ sc_House___init__ rfl rfl leaves_leave fun T cdv A outer s H E X hT hcd hX hr hgd tk hp => ?_
  subst hX
  obtain ⟨tb, ths, tvs⟩ := T
  obtain rfl : tb = tabs K := hT
  have hu := huOf hr
  have hN := sc_House___init__.nd
  have hc : (cxOf (L2.CX P w) P w K mg base ["self", "end", "kinds", "lots", "at"] "House.__init__" (defScope s_House___init__) (He.fAd K ("House", some "__init__")) cdv A outer s H E).calm = true := rfl
  exact db_cons (ds_if (dt_not (dt_val (de_call (w_is_number G) (hr.mono (by omega)) hgd tk (by rfl) G.f_is_number.m G.f_is_number.f.kp (b_is_number G) (da_cons (de_v 1) (da_cons (de_int) (da_cons (de_gint G.v_MOST_DAY) (da_nil))))))) (db_one (ds_raise G.c_InvalidNumber.e (hr.mono (by omega)) hc tk (by rfl) (de_v 1))) (db_nil)) (
    db_cons (ds_for hp hc (di_seq (de_call (w_wrong_kinds G) (hr.mono (by omega)) hgd tk (by rfl) G.f_wrong_kinds.m G.f_wrong_kinds.f.kp (b_wrong_kinds G) (da_cons (de_v 2) (da_nil)))) (dn_name 4 hN) (db_one (ds_raise G.c_InvalidKinds.e (hr.mono (by omega)) hc tk (by rfl) (de_v 4)))) (
    db_cons (ds_for hp hc (di_seq (de_call (w_wrong_lots G) (hr.mono (by omega)) hgd tk (by rfl) G.f_wrong_lots.m G.f_wrong_lots.f.kp (b_wrong_lots G) (da_cons (de_v 1) (da_cons (de_v 2) (da_cons (de_v 3) (da_nil)))))) (dn_name 4 hN) (db_one (ds_raise G.c_InvalidLots.e (hr.mono (by omega)) hc tk (by rfl) (de_v 4)))) (
    db_cons (ds_fldS G.k_House G.a_House_last (de_v 0) (de_v 1)) (
    db_cons (ds_fldS G.k_House G.a_House_names (de_v 0) (de_v 2)) (
    db_cons (ds_fldS G.k_House G.a_House_rows (de_v 0) (de_v 3)) (
    db_one (ds_fldS G.k_House G.a_House_units (de_v 0) (de_call (w_units_of G) (hr.mono (by omega)) hgd tk (by rfl) G.f_units_of.m G.f_units_of.f.kp (b_units_of G) (da_cons (de_v 3) (da_nil))))))))))
theorem w_with_contract (G : Gd P w K mg base) : FnD P w K mg base (tabs K) 19 (He.ga K "with_contract") (fdOf K (He.ga K "with_contract")) ["house", "contract"] (mf_with_contract K) := by
  refine FnD.of (m := m_with_contract K) G.f_with_contract.f sc_with_contract rfl rfl leaves_leave fun T cdv A outer s H E X hT hcd hX hr hgd tk hp => ?_
  subst hX
  obtain ⟨tb, ths, tvs⟩ := T
  obtain rfl : tb = tabs K := hT
  have hu := huOf hr
  have hN := sc_with_contract.nd
  have hc : (cxOf (L2.CX P w) P w K mg base ["house", "contract", "lots"] "with_contract" (defScope s_with_contract) (He.ga K "with_contract") cdv A outer s H E).calm = true := rfl
  exact db_cons (ds_expr (de_call (w_check_contract G) (hr.mono (by omega)) hgd tk (by rfl) G.f_check_contract.m G.f_check_contract.f.kp (b_check_contract G) (da_cons (de_v 0) (da_cons (de_v 1) (da_nil))))) (
    db_cons (ds_set 2 hN (de_tuple G.n_tuple (da_cons (de_bi (cr_sortD hu) tell_sorted (by rfl) G.n_sorted bv_sorted (da_cons (de_lst (da_star (de_fld G.k_House G.a_House_rows (de_v 0)) (da_star (de_call (w_lots_by G) (hr.mono (by omega)) hgd tk (by rfl) G.f_lots_by.m G.f_lots_by.f.kp (b_lots_by G) (da_cons (de_v 0) (da_cons (de_v 1) (da_nil)))) (da_nil)))) (da_nil))) (da_nil)))) (
    db_cons (ds_if (dt_gt (de_len G.n_len (da_cons (de_v 2) (da_nil))) (de_gint G.v_MOST_LOTS)) (db_one (ds_raise G.c_TooMany.e (hr.mono (by omega)) hc tk (by rfl) (de_len G.n_len (da_cons (de_v 2) (da_nil))))) (db_nil)) (
    db_one (ds_ret (de_make G.m_House (w_House___init__ G) (hr.mono (by omega)) hgd tk (by rfl) G.kg_House (bk_House___init___4_ G) (da_cons (de_fld G.k_House G.a_House_last (de_v 0)) (da_cons (de_fld G.k_House G.a_House_names (de_v 0)) (da_cons (de_v 2) (da_nil)))))))))
theorem w__law_well (G : Gd P w K mg base) : FnD P w K mg base (tabs K) 3 (He.ga K "_law_well") (fdOf K (He.ga K "_law_well")) ["script", "lap"] (mf__law_well K) := by
  refine FnD.of (m := m__law_well K) G.f__law_well.f sc__law_well rfl rfl leaves_leaveN fun T cdv A outer s H E X hT hcd hX hr hgd tk hp => ?_
  subst hX
  obtain ⟨tb, ths, tvs⟩ := T
  obtain rfl : tb = tabs K := hT
  have hu := huOf hr
  have hN := sc__law_well.nd
  have hc : (cxOf (L2.CX P w) P w K mg base ["script", "lap", "stirred", "cell", "own"] "_law_well" (defScope s__law_well) (He.ga K "_law_well") cdv A outer s H E).calm = true := rfl
  exact db_cons (ds_set 2 hN (de_add (de_int) (de_mul (de_int) (de_v 1)))) (
    db_cons (ds_for hp hc (di_seq (de_cut (de_v 0) (do_none) (do_some (de_int)))) (dn_name 3 hN) (db_one (ds_set 2 hN (de_mod (de_intc G.n_int (da_cons (de_add (de_add (de_mul (de_v 2) (de_int)) (de_mod (de_intc G.n_int (da_cons (de_v 3) (da_nil))) (de_int))) (de_int)) (da_nil))) (de_int))))) (
    db_cons (ds_set 4 hN (de_if (dt_lt (de_v 1) (de_len G.n_len (da_cons (de_v 0) (da_nil)))) (de_intc G.n_int (da_cons (de_ix (de_v 0) (de_v 1)) (da_nil))) (de_int))) (
    db_cons (ds_set 2 hN (de_mod (de_intc G.n_int (da_cons (de_add (de_add (de_mul (de_v 2) (de_int)) (de_mul (de_mod (de_intc G.n_int (da_cons (de_v 4) (da_nil))) (de_int)) (de_int))) (de_int)) (da_nil))) (de_int))) (
    db_one (ds_ret (de_lstN (da_cons (de_if (DW.dt (dw_or (dt_lt (de_v 4) (de_int)) (dw_or1 (dt_ge (de_v 4) (de_pow (de_int) (de_int)))))) (de_abs G.n_abs (da_cons (de_v 4) (da_nil))) (de_int)) (da_cons (de_v 2) (da_cons (de_int) (da_nil))))))))))
theorem w__law_draw (G : Gd P w K mg base) : FnD P w K mg base (tabs K) 3 (He.ga K "_law_draw") (fdOf K (He.ga K "_law_draw")) ["well", "limit"] (mf__law_draw K) := by
  refine FnD.of (m := m__law_draw K) G.f__law_draw.f sc__law_draw rfl rfl leaves_leave fun T cdv A outer s H E X hT hcd hX hr hgd tk hp => ?_
  subst hX
  obtain ⟨tb, ths, tvs⟩ := T
  obtain rfl : tb = tabs K := hT
  have hu := huOf hr
  have hN := sc__law_draw.nd
  have hc : (cxOf (L2.CX P w) P w K mg base ["well", "limit", "figure", "mixed"] "_law_draw" (defScope s__law_draw) (He.ga K "_law_draw") cdv A outer s H E).calm = true := rfl
  exact db_cons (ds_if (dt_gt (de_ix (de_v 0) (de_int)) (de_int)) (db_cons (ds_asg (de_divmod G.n_divmod (da_cons (de_ix (de_v 0) (de_int)) (da_cons (de_v 1) (da_nil)))) (dg_tup hc (dgs_cons (dg_sub (de_v 0) (de_int)) (dgs_cons (dg_name 2 hN) (dgs_nil))))) (
    db_one (ds_ret (de_v 2)))) (db_nil)) (
    db_cons (ds_asg (de_add (de_ix (de_v 0) (de_int)) (de_int)) (dg_sub (de_v 0) (de_int))) (
    db_cons (ds_set 3 hN (de_mod (de_intc G.n_int (da_cons (de_add (de_mul (de_ix (de_v 0) (de_int)) (de_int)) (de_mul (de_int) (de_ix (de_v 0) (de_int)))) (da_nil))) (de_int))) (
    db_cons (ds_asg (de_mod (de_intc G.n_int (da_cons (de_add (de_mul (de_v 3) (de_add (de_mod (de_intc G.n_int (da_cons (de_v 3) (da_nil))) (de_int)) (de_int))) (de_ix (de_v 0) (de_int))) (da_nil))) (de_int)) (dg_sub (de_v 0) (de_int))) (
    db_one (ds_ret (de_mod (de_intc G.n_int (da_cons (de_div (de_ix (de_v 0) (de_int)) (de_int)) (da_nil))) (de_v 1)))))))
theorem w__law_of (G : Gd P w K mg base) : FnD P w K mg base (tabs K) 4 (He.ga K "_law_of") (fdOf K (He.ga K "_law_of")) ["well", "some"] (mf__law_of K) := by
  refine FnD.of (m := m__law_of K) G.f__law_of.f sc__law_of rfl rfl leaves_leave fun T cdv A outer s H E X hT hcd hX hr hgd tk hp => ?_
  subst hX
  obtain ⟨tb, ths, tvs⟩ := T
  obtain rfl : tb = tabs K := hT
  have hu := huOf hr
  have hN := sc__law_of.nd
  have hc : (cxOf (L2.CX P w) P w K mg base ["well", "some"] "_law_of" (defScope s__law_of) (He.ga K "_law_of") cdv A outer s H E).calm = true := rfl
  exact db_one (ds_ret (de_ix (de_v 1) (de_call (w__law_draw G) (hr.mono (by omega)) hgd tk (by rfl) G.f__law_draw.m G.f__law_draw.f.kp (b__law_draw G) (da_cons (de_v 0) (da_cons (de_len G.n_len (da_cons (de_v 1) (da_nil))) (da_nil))))))
theorem w__law_unlike (G : Gd P w K mg base) : FnD P w K mg base (tabs K) 4 (He.ga K "_law_unlike") (fdOf K (He.ga K "_law_unlike")) ["well", "some", "many"] (mf__law_unlike K) := by
  refine FnD.of (m := m__law_unlike K) G.f__law_unlike.f sc__law_unlike rfl rfl leaves_leave fun T cdv A outer s H E X hT hcd hX hr hgd tk hp => ?_
  subst hX
  obtain ⟨tb, ths, tvs⟩ := T
  obtain rfl : tb = tabs K := hT
  have hu := huOf hr
  have hN := sc__law_unlike.nd
  have hc : (cxOf (L2.CX P w) P w K mg base ["well", "some", "many", "left", "turn"] "_law_unlike" (defScope s__law_unlike) (He.ga K "_law_unlike") cdv A outer s H E).calm = true := rfl
  exact db_cons (ds_set 3 hN (de_bt (cr_listA hc) tell_listA (by rfl) G.n_list bv_list (da_cons (de_v 1) (da_nil)))) (
    db_cons (ds_for hp hc (di_range1 (by rfl) G.n_range (da_cons (de_sub (de_len G.n_len (da_cons (de_v 1) (da_nil))) (de_v 2)) (da_nil))) (dn_name 4 hN) (db_one (ds_expr (de_popAt (de_v 3) (da_cons (de_call (w__law_draw G) (hr.mono (by omega)) hgd tk (by rfl) G.f__law_draw.m G.f__law_draw.f.kp (b__law_draw G) (da_cons (de_v 0) (da_cons (de_len G.n_len (da_cons (de_v 3) (da_nil))) (da_nil)))) (da_nil)))))) (
    db_one (ds_ret (de_v 3))))
theorem w__law_is (G : Gd P w K mg base) : FnD P w K mg base (tabs K) 3 (He.ga K "_law_is") (fdOf K (He.ga K "_law_is")) ["told", "due"] (mf__law_is K) := by
  refine FnD.of (m := m__law_is K) G.f__law_is.f sc__law_is rfl rfl leaves_leave fun T cdv A outer s H E X hT hcd hX hr hgd tk hp => ?_
  subst hX
  obtain ⟨tb, ths, tvs⟩ := T
  obtain rfl : tb = tabs K := hT
  have hu := huOf hr
  have hN := sc__law_is.nd
  have hc : (cxOf (L2.CX P w) P w K mg base ["told", "due"] "_law_is" (defScope s__law_is) (He.ga K "_law_is") cdv A outer s H E).calm = true := rfl
  exact db_one (ds_ret (de_eq hu (de_repr hgd hu G.n_repr (da_cons (de_v 0) (da_nil))) (de_repr hgd hu G.n_repr (da_cons (de_v 1) (da_nil)))))
theorem w__law_words (G : Gd P w K mg base) : FnD P w K mg base (tabs K) 3 (He.ga K "_law_words") (fdOf K (He.ga K "_law_words")) [] (mf__law_words K) := by
  refine FnD.of (m := m__law_words K) G.f__law_words.f sc__law_words rfl rfl leaves_leave fun T cdv A outer s H E X hT hcd hX hr hgd tk hp => ?_
  subst hX
  obtain ⟨tb, ths, tvs⟩ := T
  obtain rfl : tb = tabs K := hT
  have hu := huOf hr
  have hN := sc__law_words.nd
  have hc : (cxOf (L2.CX P w) P w K mg base ["some"] "_law_words" (defScope s__law_words) (He.ga K "_law_words") cdv A outer s H E).calm = true := rfl
  exact db_cons (ds_set 0 hN (de_lst (da_cons (de_str) (da_cons (de_str) (da_cons (de_str) (da_cons (de_str) (da_cons (de_str) (da_cons (de_str) (da_cons (de_str) (da_cons (de_str) (da_cons (de_str) (da_cons (de_str) (da_cons (de_str) (da_cons (de_str) (da_nil))))))))))))))) (
    db_cons (ds_set 0 hN (de_add (de_v 0) (de_lst (da_cons (de_str) (da_cons (de_str) (da_cons (de_str) (da_cons (de_str) (da_cons (de_str) (da_cons (de_str) (da_cons (de_str) (da_cons (de_str) (da_nil)))))))))))) (
    db_one (ds_ret (de_v 0))))
theorem w__law_names (G : Gd P w K mg base) : FnD P w K mg base (tabs K) 5 (He.ga K "_law_names") (fdOf K (He.ga K "_law_names")) ["well", "many"] (mf__law_names K) := by
  refine FnD.of (m := m__law_names K) G.f__law_names.f sc__law_names rfl rfl leaves_leave fun T cdv A outer s H E X hT hcd hX hr hgd tk hp => ?_
  subst hX
  obtain ⟨tb, ths, tvs⟩ := T
  obtain rfl : tb = tabs K := hT
  have hu := huOf hr
  have hN := sc__law_names.nd
  have hc : (cxOf (L2.CX P w) P w K mg base ["well", "many", "found", "letters", "letter", "name", "turn"] "_law_names" (defScope s__law_names) (He.ga K "_law_names") cdv A outer s H E).calm = true := rfl
  exact db_cons (ds_par (i := 2) (j := 3) hc hN (da_cons (de_lstN (da_nil)) (da_cons (de_str) (da_nil)))) (
    db_cons (ds_for hp hc (di_seq (de_call (w__law_unlike G) (hr.mono (by omega)) hgd tk (by rfl) G.f__law_unlike.m G.f__law_unlike.f.kp (b__law_unlike G) (da_cons (de_v 0) (da_cons (de_cut (de_v 3) (do_none) (do_some (de_int))) (da_cons (de_v 1) (da_nil)))))) (dn_name 4 hN) (db_cons (ds_set 5 hN (de_v 4)) (
    db_cons (ds_for hp hc (di_range1 (by rfl) G.n_range (da_cons (de_call (w__law_of G) (hr.mono (by omega)) hgd tk (by rfl) G.f__law_of.m G.f__law_of.f.kp (b__law_of G) (da_cons (de_v 0) (da_cons (de_tup (da_cons (de_int) (da_cons (de_int) (da_cons (de_int) (da_cons (de_int) (da_cons (de_int) (da_cons (de_int) (da_nil)))))))) (da_nil)))) (da_nil))) (dn_name 6 hN) (db_one (ds_set 5 hN (de_add (de_v 5) (de_ix (de_v 3) (de_call (w__law_draw G) (hr.mono (by omega)) hgd tk (by rfl) G.f__law_draw.m G.f__law_draw.f.kp (b__law_draw G) (da_cons (de_v 0) (da_cons (de_int) (da_nil))))))))) (
    db_one (ds_expr (de_append (de_v 2) (da_cons (de_if (dt_in (de_v 5) (de_call0 (w__law_words G) (hr.mono (by omega)) hgd tk (by rfl) G.f__law_words.m G.f__law_words.f.kp (b__law_words G))) (de_add (de_cut (de_v 5) (do_none) (do_some (de_int))) (de_str)) (de_v 5)) (da_nil)))))))) (
    db_one (ds_ret (de_v 2))))
theorem w__law_lots (G : Gd P w K mg base) : FnD P w K mg base (tabs K) 5 (He.ga K "_law_lots") (fdOf K (He.ga K "_law_lots")) ["well", "end", "kinds", "most", "high"] (mf__law_lots K) := by
  refine FnD.of (m := m__law_lots K) G.f__law_lots.f sc__law_lots rfl rfl leaves_leave fun T cdv A outer s H E X hT hcd hX hr hgd tk hp => ?_
  subst hX
  obtain ⟨tb, ths, tvs⟩ := T
  obtain rfl : tb = tabs K := hT
  have hu := huOf hr
  have hN := sc__law_lots.nd
  have hc : (cxOf (L2.CX P w) P w K mg base ["well", "end", "kinds", "most", "high", "found", "turn", "first", "last", "some"] "_law_lots" (defScope s__law_lots) (He.ga K "_law_lots") cdv A outer s H E).calm = true := rfl
  exact db_cons (ds_set 5 hN (de_lstN (da_nil))) (
    db_cons (ds_for hp hc (di_range1 (by rfl) G.n_range (da_cons (de_call (w__law_draw G) (hr.mono (by omega)) hgd tk (by rfl) G.f__law_draw.m G.f__law_draw.f.kp (b__law_draw G) (da_cons (de_v 0) (da_cons (de_add (de_v 3) (de_int)) (da_nil)))) (da_nil))) (dn_name 6 hN) (db_cons (ds_set 7 hN (de_call (w__law_draw G) (hr.mono (by omega)) hgd tk (by rfl) G.f__law_draw.m G.f__law_draw.f.kp (b__law_draw G) (da_cons (de_v 0) (da_cons (de_add (de_v 1) (de_int)) (da_nil))))) (
    db_cons (ds_set 8 hN (de_add (de_v 7) (de_call (w__law_draw G) (hr.mono (by omega)) hgd tk (by rfl) G.f__law_draw.m G.f__law_draw.f.kp (b__law_draw G) (da_cons (de_v 0) (da_cons (de_sub (de_add (de_v 1) (de_int)) (de_v 7)) (da_nil)))))) (
    db_cons (ds_set 9 hN (de_tuple G.n_tuple (da_cons (de_call (w__law_unlike G) (hr.mono (by omega)) hgd tk (by rfl) G.f__law_unlike.m G.f__law_unlike.f.kp (b__law_unlike G) (da_cons (de_v 0) (da_cons (de_v 2) (da_cons (de_add (de_int) (de_call (w__law_draw G) (hr.mono (by omega)) hgd tk (by rfl) G.f__law_draw.m G.f__law_draw.f.kp (b__law_draw G) (da_cons (de_v 0) (da_cons (de_len G.n_len (da_cons (de_v 2) (da_nil))) (da_nil))))) (da_nil))))) (da_nil)))) (
    db_one (ds_expr (de_append (de_v 5) (da_cons (de_tup (da_cons (de_v 7) (da_cons (de_v 8) (da_cons (de_add (de_int) (de_call (w__law_draw G) (hr.mono (by omega)) hgd tk (by rfl) G.f__law_draw.m G.f__law_draw.f.kp (b__law_draw G) (da_cons (de_v 0) (da_cons (de_v 4) (da_nil))))) (da_cons (de_v 9) (da_nil)))))) (da_nil))))))))) (
    db_one (ds_ret (de_tuple G.n_tuple (da_cons (de_bi (cr_sortD hu) tell_sorted (by rfl) G.n_sorted bv_sorted (da_cons (de_v 5) (da_nil))) (da_nil))))))
theorem w__law_parts (G : Gd P w K mg base) : FnD P w K mg base (tabs K) 6 (He.ga K "_law_parts") (fdOf K (He.ga K "_law_parts")) ["well", "end", "many", "most", "high"] (mf__law_parts K) := by
  refine FnD.of (m := m__law_parts K) G.f__law_parts.f sc__law_parts rfl rfl leaves_leave fun T cdv A outer s H E X hT hcd hX hr hgd tk hp => ?_
  subst hX
  obtain ⟨tb, ths, tvs⟩ := T
  obtain rfl : tb = tabs K := hT
  have hu := huOf hr
  have hN := sc__law_parts.nd
  have hc : (cxOf (L2.CX P w) P w K mg base ["well", "end", "many", "most", "high", "kinds"] "_law_parts" (defScope s__law_parts) (He.ga K "_law_parts") cdv A outer s H E).calm = true := rfl
  exact db_cons (ds_set 5 hN (de_call (w__law_names G) (hr.mono (by omega)) hgd tk (by rfl) G.f__law_names.m G.f__law_names.f.kp (b__law_names G) (da_cons (de_v 0) (da_cons (de_add (de_int) (de_call (w__law_draw G) (hr.mono (by omega)) hgd tk (by rfl) G.f__law_draw.m G.f__law_draw.f.kp (b__law_draw G) (da_cons (de_v 0) (da_cons (de_v 2) (da_nil))))) (da_nil))))) (
    db_one (ds_ret (de_tup (da_cons (de_v 1) (da_cons (de_tuple G.n_tuple (da_cons (de_v 5) (da_nil))) (da_cons (de_call (w__law_lots G) (hr.mono (by omega)) hgd tk (by rfl) G.f__law_lots.m G.f__law_lots.f.kp (b__law_lots G) (da_cons (de_v 0) (da_cons (de_v 1) (da_cons (de_v 5) (da_cons (de_v 3) (da_cons (de_v 4) (da_nil))))))) (da_nil)))))))
theorem w__law_refused (kc : Nat) (G : Gd P w K mg base) : FnC P w K mg base (tabs K) (kc + 1) (kc + 4) (He.ga K "_law_refused") (fdOf K (He.ga K "_law_refused")) ["act"] (mf__law_refused K) := by
  refine FnC.of (k := kc + 3) (m := m__law_refused K) G.f__law_refused.f sc__law_refused rfl rfl leaves_leave fun T g cl fr ws ap cdv A outer s H E X hT hcd hX hclo hC hr hgd tk hp => ?_
  subst hX
  obtain ⟨tb, ths, tvs⟩ := T
  obtain rfl : tb = tabs K := hT
  have hu := huOf hr
  have hN := sc__law_refused.nd
  have hc : (cxOf (L2.CX P w) P w K mg base ["act", "e"] "_law_refused" (defScope s__law_refused) (He.ga K "_law_refused") cdv A outer s H E).calm = true := rfl
  exact db_cons (ds_try (by rfl) (by rfl) hN tk (fun W' pn xe tk' hp' => db_one (ds_expr (de_clo0 0 hclo hC.tr (hr.mono (by omega)) hgd tk'))) (.named (i := 1) (fld := "given") ⟨by rfl, by decide, .inl G.c_NotAHouse.m⟩ (by rfl) (by rfl) (fun T' a dd oe w xd pn hT' hd hw hz hf => db_one (ds_ret (de_lst (da_cons (de_str) (da_cons (de_repr hgd hu G.n_repr (da_cons (de_xf 1 G.c_NotAHouse.xf G.c_NotAHouse.no hz hf hd hw) (da_nil))) (da_nil)))))) (.named (i := 1) (fld := "given") ⟨by rfl, by decide, .inl G.c_InvalidContract.m⟩ (by rfl) (by rfl) (fun T' a dd oe w xd pn hT' hd hw hz hf => db_one (ds_ret (de_lst (da_cons (de_str) (da_cons (de_repr hgd hu G.n_repr (da_cons (de_xf 1 G.c_InvalidContract.xf G.c_InvalidContract.no hz hf hd hw) (da_nil))) (da_nil)))))) (.plain ⟨by rfl, by decide, .inl G.c_TooMany.m⟩ (fun T' a oe pn hT' => db_one (ds_ret (de_lst (da_cons (de_str) (da_nil))))) (.nil))))) (
    db_one (ds_ret (de_lst (da_cons (de_str) (da_nil)))))
theorem w__law_odds (G : Gd P w K mg base) : FnD P w K mg base (tabs K) 3 (He.ga K "_law_odds") (fdOf K (He.ga K "_law_odds")) ["parts"] (mf__law_odds K) := by
  refine FnD.of (m := m__law_odds K) G.f__law_odds.f sc__law_odds rfl rfl leaves_leave fun T cdv A outer s H E X hT hcd hX hr hgd tk hp => ?_
  subst hX
  obtain ⟨tb, ths, tvs⟩ := T
  obtain rfl : tb = tabs K := hT
  have hu := huOf hr
  have hN := sc__law_odds.nd
  have hc : (cxOf (L2.CX P w) P w K mg base ["parts", "end", "kinds", "lots", "sizes", "firsts", "many", "yearly", "some"] "_law_odds" (defScope s__law_odds) (He.ga K "_law_odds") cdv A outer s H E).calm = true := rfl
  exact db_cons (ds_asg (de_v 0) (dg_tup hc (dgs_cons (dg_name 1 hN) (dgs_cons (dg_name 2 hN) (dgs_cons (dg_name 3 hN) (dgs_nil)))))) (
    db_cons (ds_set 4 hN (de_tup (da_cons (de_int) (da_cons (de_int) (da_cons (de_neg (de_int)) (da_cons (de_bl) (da_cons (de_non) (da_cons (de_str) (da_cons (de_pow (de_int) (de_int)) (da_nil)))))))))) (
    db_cons (ds_set 5 hN (de_tup (da_cons (de_add (de_v 1) (de_int)) (da_cons (de_neg (de_int)) (da_cons (de_bl) (da_cons (de_non) (da_cons (de_str) (da_nil)))))))) (
    db_cons (ds_set 6 hN (de_tup (da_cons (de_int) (da_cons (de_int) (da_cons (de_neg (de_int)) (da_cons (de_bl) (da_cons (de_non) (da_nil)))))))) (
    db_cons (ds_set 7 hN (de_tup (da_cons (de_add (de_pow (de_int) (de_int)) (de_int)) (da_cons (de_neg (de_int)) (da_cons (de_bl) (da_cons (de_non) (da_cons (de_str) (da_nil)))))))) (
    db_cons (ds_set 8 hN (de_tup (da_cons (de_tup (da_nil)) (da_cons (de_tup (da_cons (de_str) (da_nil))) (da_cons (de_mul (de_cut (de_v 2) (do_none) (do_some (de_int))) (de_int)) (da_cons (de_ix (de_v 2) (de_int)) (da_cons (de_non) (da_cons (de_bt (cr_listA hc) tell_listZ (by rfl) G.n_list bv_list (da_cons (de_v 2) (da_nil))) (da_cons (de_add (de_v 2) (de_tup (da_cons (de_str) (da_nil)))) (da_nil)))))))))) (
    db_one (ds_ret (de_tup (da_cons (de_v 5) (da_cons (de_v 4) (da_cons (de_v 6) (da_cons (de_v 7) (da_cons (de_v 4) (da_cons (de_v 8) (da_cons (de_tup (da_cons (de_str) (da_cons (de_str) (da_cons (de_non) (da_cons (de_int) (da_cons (de_tup (da_cons (de_str) (da_nil))) (da_cons (de_str) (da_nil)))))))) (da_nil))))))))))))))))
theorem w__law_right (G : Gd P w K mg base) : FnD P w K mg base (tabs K) 24 (He.ga K "_law_right") (fdOf K (He.ga K "_law_right")) ["well"] (mf__law_right K) := by
  refine FnD.of (m := m__law_right K) G.f__law_right.f sc__law_right rfl rfl leaves_leave fun T cdv A outer s H E X hT hcd hX hr hgd tk hp => ?_
  subst hX
  obtain ⟨tb, ths, tvs⟩ := T
  obtain rfl : tb = tabs K := hT
  have hu := huOf hr
  have hN := sc__law_right.nd
  have hc : (cxOf (L2.CX P w) P w K mg base ["well", "turn", "parts", "house", "right", "odds", "at", "bad", "wrong", "none", "had", "due"] "_law_right" (defScope s__law_right) (He.ga K "_law_right") cdv A outer s H E).calm = true := rfl
  have hlamK : LamK (cxOf (L2.CX P w) P w K mg base ["well", "turn", "parts", "house", "right", "odds", "at", "bad", "wrong", "none", "had", "due"] "_law_right" (defScope s__law_right) (He.ga K "_law_right") cdv A outer s H E) (tabs K) (nmq "_law_right.<locals>.<lambda>") := ⟨_, _, G.t__law_right, (show cdv = _ from Option.some.inj (hcd.symm.trans G.o__law_right)), by simp [tabs], fun p hp e => G.tabs_u p hp (tabP K (He.ga K "_law_right"), (nmq "_law_right.<locals>.<lambda>")) (by simp [tabs]) e⟩
  exact db_cons (ds_for hp hc (di_range1 (by rfl) G.n_range (da_cons (de_int) (da_nil))) (dn_name 1 hN) (db_cons (ds_set 2 hN (de_call (w__law_parts G) (hr.mono (by omega)) hgd tk (by rfl) G.f__law_parts.m G.f__law_parts.f.kp (b__law_parts G) (da_cons (de_v 0) (da_cons (de_call (w__law_draw G) (hr.mono (by omega)) hgd tk (by rfl) G.f__law_draw.m G.f__law_draw.f.kp (b__law_draw G) (da_cons (de_v 0) (da_cons (de_call (w__law_of G) (hr.mono (by omega)) hgd tk (by rfl) G.f__law_of.m G.f__law_of.f.kp (b__law_of G) (da_cons (de_v 0) (da_cons (de_tup (da_cons (de_int) (da_cons (de_int) (da_cons (de_int) (da_nil))))) (da_nil)))) (da_nil)))) (da_cons (de_int) (da_cons (de_int) (da_cons (de_int) (da_nil)))))))) (
    db_cons (ds_set 3 hN (de_make G.m_House (w_House___init__ G) (hr.mono (by omega)) hgd tk (by rfl) G.kg_House (bk_House___init___4_ G) (da_cons (de_ix (de_v 2) (de_int)) (da_cons (de_ix (de_v 2) (de_int)) (da_cons (de_ix (de_v 2) (de_int)) (da_nil)))))) (
    db_cons (ds_set 4 hN (de_lst (da_cons (de_call (w__law_of G) (hr.mono (by omega)) hgd tk (by rfl) G.f__law_of.m G.f__law_of.f.kp (b__law_of G) (da_cons (de_v 0) (da_cons (de_tup (da_cons (de_int) (da_cons (de_ix (de_v 2) (de_int)) (da_nil)))) (da_nil)))) (da_cons (de_call (w__law_of G) (hr.mono (by omega)) hgd tk (by rfl) G.f__law_of.m G.f__law_of.f.kp (b__law_of G) (da_cons (de_v 0) (da_cons (de_tup (da_cons (de_int) (da_cons (de_int) (da_nil)))) (da_nil)))) (da_cons (de_call (w__law_of G) (hr.mono (by omega)) hgd tk (by rfl) G.f__law_of.m G.f__law_of.f.kp (b__law_of G) (da_cons (de_v 0) (da_cons (de_tup (da_cons (de_int) (da_cons (de_int) (da_nil)))) (da_nil)))) (da_nil)))))) (
    db_cons (ds_set 4 hN (de_add (de_v 4) (de_lst (da_cons (de_call (w__law_of G) (hr.mono (by omega)) hgd tk (by rfl) G.f__law_of.m G.f__law_of.f.kp (b__law_of G) (da_cons (de_v 0) (da_cons (de_tup (da_cons (de_int) (da_cons (de_pow (de_int) (de_int)) (da_nil)))) (da_nil)))) (da_cons (de_call (w__law_of G) (hr.mono (by omega)) hgd tk (by rfl) G.f__law_of.m G.f__law_of.f.kp (b__law_of G) (da_cons (de_v 0) (da_cons (de_tup (da_cons (de_int) (da_cons (de_int) (da_nil)))) (da_nil)))) (da_cons (de_ix (de_v 2) (de_int)) (da_nil))))))) (
    db_cons (ds_set 4 hN (de_tuple G.n_tuple (da_cons (de_add (de_v 4) (de_lst (da_cons (de_call (w__law_of G) (hr.mono (by omega)) hgd tk (by rfl) G.f__law_of.m G.f__law_of.f.kp (b__law_of G) (da_cons (de_v 0) (da_cons (de_tup (da_cons (de_str) (da_cons (de_str) (da_cons (de_str) (da_cons (de_str) (da_cons (de_str) (da_nil))))))) (da_nil)))) (da_nil)))) (da_nil)))) (
    db_cons (ds_par (i := 5) (j := 6) hc hN (da_cons (de_call (w__law_odds G) (hr.mono (by omega)) hgd tk (by rfl) G.f__law_odds.m G.f__law_odds.f.kp (b__law_odds G) (da_cons (de_v 2) (da_nil))) (da_cons (de_call (w__law_draw G) (hr.mono (by omega)) hgd tk (by rfl) G.f__law_draw.m G.f__law_draw.f.kp (b__law_draw G) (da_cons (de_v 0) (da_cons (de_int) (da_nil)))) (da_nil)))) (
    db_cons (ds_set 7 hN (de_add (de_add (de_cut (de_v 4) (do_none) (do_some (de_v 6))) (de_tup (da_cons (de_call (w__law_of G) (hr.mono (by omega)) hgd tk (by rfl) G.f__law_of.m G.f__law_of.f.kp (b__law_of G) (da_cons (de_v 0) (da_cons (de_ix (de_v 5) (de_v 6)) (da_nil)))) (da_nil)))) (de_cut (de_v 4) (do_some (de_add (de_v 6) (de_int))) (do_none)))) (
    db_cons (ds_set 8 hN (de_call (w__law_of G) (hr.mono (by omega)) hgd tk (by rfl) G.f__law_of.m G.f__law_of.f.kp (b__law_of G) (da_cons (de_v 0) (da_cons (de_tup (da_cons (de_v 7) (da_cons (de_v 7) (da_cons (de_v 7) (da_cons (de_v 7) (da_cons (de_cut (de_v 4) (do_none) (do_some (de_neg (de_int)))) (da_cons (de_add (de_v 4) (de_tup (da_cons (de_int) (da_nil)))) (da_cons (de_bt (cr_listA hc) tell_listZ (by rfl) G.n_list bv_list (da_cons (de_v 4) (da_nil))) (da_cons (de_non) (da_cons (de_tup (da_nil)) (da_cons (de_int) (da_cons (de_revT (de_v 4)) (da_nil))))))))))))) (da_nil))))) (
    db_cons (ds_set 9 hN (de_call (w__law_of G) (hr.mono (by omega)) hgd tk (by rfl) G.f__law_of.m G.f__law_of.f.kp (b__law_of G) (da_cons (de_v 0) (da_cons (de_tup (da_cons (de_non) (da_cons (de_v 2) (da_cons (de_tup (da_nil)) (da_cons (de_int) (da_nil)))))) (da_nil))))) (
    db_cons (ds_set 10 hN (de_lstN (da_cons (de_callL (w__law_refused 13 G) (N := ["none", "wrong"]) (qs := []) (fr := ["none", "wrong"]) (js := [9, 8]) (kc := 13) (NdefX.nscope_by (by decide +kernel)) rfl rfl (by decide +kernel) (free_by (sc := defScope s__law_right) (by decide +kernel)) (by rfl) (fun _ _ _ us hl => match us, hl with | [], _ => rfl) (fun T' f c' A outer s H E X hT hX hr hgd tk => by
        subst hX
        obtain ⟨tb2, ths2, tvs2⟩ := T'
        obtain rfl : tb2 = tabs K := hT
        have hu := huOf hr
        exact de_call (w_contract_lots G) (hr.mono (by omega)) hgd tk (by rfl) G.f_contract_lots.m G.f_contract_lots.f.kp (b_contract_lots G) (da_cons (de_v 0) (da_cons (de_v 1) (da_nil)))) (hr.mono (by omega)) hgd tk (by rfl) G.f__law_refused.m G.f__law_refused.f.kp (b__law_refused G) (dal_one hlamK (by rfl) (by rfl) (free_by (sc := defScope s__law_right) (by decide +kernel)))) (da_nil)))) (
    db_cons (ds_expr (de_append (de_v 10) (da_cons (de_callL (w__law_refused 19 G) (N := ["none", "wrong"]) (qs := []) (fr := ["none", "wrong"]) (js := [9, 8]) (kc := 19) (NdefX.nscope_by (by decide +kernel)) rfl rfl (by decide +kernel) (free_by (sc := defScope s__law_right) (by decide +kernel)) (by rfl) (fun _ _ _ us hl => match us, hl with | [], _ => rfl) (fun T' f c' A outer s H E X hT hX hr hgd tk => by
        subst hX
        obtain ⟨tb2, ths2, tvs2⟩ := T'
        obtain rfl : tb2 = tabs K := hT
        have hu := huOf hr
        exact de_callK0 (w_with_contract G) (hr.mono (by omega)) hgd tk (by rfl) G.f_with_contract.m G.f_with_contract.f.kp (bk_with_contract_0_contract_house G) (dk_cons (de_v 1) (dk_cons (de_v 0) (dk_nil)))) (hr.mono (by omega)) hgd tk (by rfl) G.f__law_refused.m G.f__law_refused.f.kp (b__law_refused G) (dal_one hlamK (by rfl) (by rfl) (free_by (sc := defScope s__law_right) (by decide +kernel)))) (da_nil)))) (
    db_cons (ds_expr (de_append (de_v 10) (da_cons (de_callL (w__law_refused 13 G) (N := ["house", "wrong"]) (qs := []) (fr := ["house", "wrong"]) (js := [3, 8]) (kc := 13) (NdefX.nscope_by (by decide +kernel)) rfl rfl (by decide +kernel) (free_by (sc := defScope s__law_right) (by decide +kernel)) (by rfl) (fun _ _ _ us hl => match us, hl with | [], _ => rfl) (fun T' f c' A outer s H E X hT hX hr hgd tk => by
        subst hX
        obtain ⟨tb2, ths2, tvs2⟩ := T'
        obtain rfl : tb2 = tabs K := hT
        have hu := huOf hr
        exact de_call (w_contract_lots G) (hr.mono (by omega)) hgd tk (by rfl) G.f_contract_lots.m G.f_contract_lots.f.kp (b_contract_lots G) (da_cons (de_v 0) (da_cons (de_v 1) (da_nil)))) (hr.mono (by omega)) hgd tk (by rfl) G.f__law_refused.m G.f__law_refused.f.kp (b__law_refused G) (dal_one hlamK (by rfl) (by rfl) (free_by (sc := defScope s__law_right) (by decide +kernel)))) (da_nil)))) (
    db_cons (ds_expr (de_append (de_v 10) (da_cons (de_callL (w__law_refused 19 G) (N := ["house", "wrong"]) (qs := []) (fr := ["house", "wrong"]) (js := [3, 8]) (kc := 19) (NdefX.nscope_by (by decide +kernel)) rfl rfl (by decide +kernel) (free_by (sc := defScope s__law_right) (by decide +kernel)) (by rfl) (fun _ _ _ us hl => match us, hl with | [], _ => rfl) (fun T' f c' A outer s H E X hT hX hr hgd tk => by
        subst hX
        obtain ⟨tb2, ths2, tvs2⟩ := T'
        obtain rfl : tb2 = tabs K := hT
        have hu := huOf hr
        exact de_call (w_with_contract G) (hr.mono (by omega)) hgd tk (by rfl) G.f_with_contract.m G.f_with_contract.f.kp (b_with_contract G) (da_cons (de_v 0) (da_cons (de_v 1) (da_nil)))) (hr.mono (by omega)) hgd tk (by rfl) G.f__law_refused.m G.f__law_refused.f.kp (b__law_refused G) (dal_one hlamK (by rfl) (by rfl) (free_by (sc := defScope s__law_right) (by decide +kernel)))) (da_nil)))) (
    db_cons (ds_expr (de_append (de_v 10) (da_cons (de_callL (w__law_refused 13 G) (N := ["house", "wrong"]) (qs := []) (fr := ["house", "wrong"]) (js := [3, 8]) (kc := 13) (NdefX.nscope_by (by decide +kernel)) rfl rfl (by decide +kernel) (free_by (sc := defScope s__law_right) (by decide +kernel)) (by rfl) (fun _ _ _ us hl => match us, hl with | [], _ => rfl) (fun T' f c' A outer s H E X hT hX hr hgd tk => by
        subst hX
        obtain ⟨tb2, ths2, tvs2⟩ := T'
        obtain rfl : tb2 = tabs K := hT
        have hu := huOf hr
        exact de_callK0 (w_contract_lots G) (hr.mono (by omega)) hgd tk (by rfl) G.f_contract_lots.m G.f_contract_lots.f.kp (bk_contract_lots_0_contract_house G) (dk_cons (de_v 1) (dk_cons (de_v 0) (dk_nil)))) (hr.mono (by omega)) hgd tk (by rfl) G.f__law_refused.m G.f__law_refused.f.kp (b__law_refused G) (dal_one hlamK (by rfl) (by rfl) (free_by (sc := defScope s__law_right) (by decide +kernel)))) (da_nil)))) (
    db_cons (ds_expr (de_append (de_v 10) (da_cons (de_callL (w__law_refused 13 G) (N := ["house", "right"]) (qs := []) (fr := ["house", "right"]) (js := [3, 4]) (kc := 13) (NdefX.nscope_by (by decide +kernel)) rfl rfl (by decide +kernel) (free_by (sc := defScope s__law_right) (by decide +kernel)) (by rfl) (fun _ _ _ us hl => match us, hl with | [], _ => rfl) (fun T' f c' A outer s H E X hT hX hr hgd tk => by
        subst hX
        obtain ⟨tb2, ths2, tvs2⟩ := T'
        obtain rfl : tb2 = tabs K := hT
        have hu := huOf hr
        exact de_call (w_contract_lots G) (hr.mono (by omega)) hgd tk (by rfl) G.f_contract_lots.m G.f_contract_lots.f.kp (b_contract_lots G) (da_cons (de_v 0) (da_cons (de_v 1) (da_nil)))) (hr.mono (by omega)) hgd tk (by rfl) G.f__law_refused.m G.f__law_refused.f.kp (b__law_refused G) (dal_one hlamK (by rfl) (by rfl) (free_by (sc := defScope s__law_right) (by decide +kernel)))) (da_nil)))) (
    db_cons (ds_expr (de_append (de_v 10) (da_cons (de_callL (w__law_refused 19 G) (N := ["house", "right"]) (qs := []) (fr := ["house", "right"]) (js := [3, 4]) (kc := 19) (NdefX.nscope_by (by decide +kernel)) rfl rfl (by decide +kernel) (free_by (sc := defScope s__law_right) (by decide +kernel)) (by rfl) (fun _ _ _ us hl => match us, hl with | [], _ => rfl) (fun T' f c' A outer s H E X hT hX hr hgd tk => by
        subst hX
        obtain ⟨tb2, ths2, tvs2⟩ := T'
        obtain rfl : tb2 = tabs K := hT
        have hu := huOf hr
        exact de_call (w_with_contract G) (hr.mono (by omega)) hgd tk (by rfl) G.f_with_contract.m G.f_with_contract.f.kp (b_with_contract G) (da_cons (de_v 0) (da_cons (de_v 1) (da_nil)))) (hr.mono (by omega)) hgd tk (by rfl) G.f__law_refused.m G.f__law_refused.f.kp (b__law_refused G) (dal_one hlamK (by rfl) (by rfl) (free_by (sc := defScope s__law_right) (by decide +kernel)))) (da_nil)))) (
    db_cons (ds_set 11 hN (de_add (de_add (de_mul (de_lst (da_cons (de_lst (da_cons (de_str) (da_cons (de_repr hgd hu G.n_repr (da_cons (de_v 9) (da_nil))) (da_nil)))) (da_nil))) (de_int)) (de_mul (de_lst (da_cons (de_lst (da_cons (de_str) (da_cons (de_repr hgd hu G.n_repr (da_cons (de_v 8) (da_nil))) (da_nil)))) (da_nil))) (de_int))) (de_mul (de_lst (da_cons (de_lst (da_cons (de_str) (da_nil))) (da_nil))) (de_int)))) (
    db_one (ds_if (dt_not (dt_val (de_call (w__law_is G) (hr.mono (by omega)) hgd tk (by rfl) G.f__law_is.m G.f__law_is.f.kp (b__law_is G) (da_cons (de_v 10) (da_cons (de_v 11) (da_nil)))))) (db_one (ds_ret (de_bl))) (db_nil))))))))))))))))))))) (
    db_one (ds_ret (de_bl)))
theorem w_law (G : Gd P w K mg base) : FnD P w K mg base (tabs K) 25 (He.ga K "law") (fdOf K (He.ga K "law")) ["script"] (mf_law K) := by
  refine FnD.of (m := m_law K) G.f_law.f sc_law rfl rfl leaves_leave fun T cdv A outer s H E X hT hcd hX hr hgd tk hp => ?_
  subst hX
  obtain ⟨tb, ths, tvs⟩ := T
  obtain rfl : tb = tabs K := hT
  have hu := huOf hr
  have hN := sc_law.nd
  have hc : (cxOf (L2.CX P w) P w K mg base ["script", "lap"] "law" (defScope s_law) (He.ga K "law") cdv A outer s H E).calm = true := rfl
  exact db_one (ds_ret (de_all hc G.n_all (da_cons (de_lc hc hN (di_range1 (by rfl) G.n_range (da_cons (de_max hc hu G.n_max (da_cons (de_int) (da_cons (de_min hc hu G.n_min (da_cons (de_len G.n_len (da_cons (de_v 0) (da_nil))) (da_cons (de_int) (da_nil)))) (da_nil)))) (da_nil))) (own := [("lap", 1)]) (blkOk_by (N := ["script", "lap"]) (sc := defScope s_law) (by decide +kernel)) (by decide) (fun s H C cl fp => dn_name 1 hN) (fun s H C cl fp => dts_nil) (fun s H C cl fp => de_call (w__law_right G) (hr.mono (by omega)) hgd takes_none5 (by rfl) G.f__law_right.m G.f__law_right.f.kp (b__law_right G) (da_cons (de_call (w__law_well G) (hr.mono (by omega)) hgd takes_none5 (by rfl) G.f__law_well.m G.f__law_well.f.kp (b__law_well G) (da_cons (de_v 0) (da_cons (de_v 1) (da_nil)))) (da_nil)))) (da_nil))))
theorem w_House_end (G : Gd P w K mg base) : FnD P w K mg base (tabs K) 3 (gtA K "House" "end") (fdOf K (gtA K "House" "end")) ["self"] (mf_House_end K) := by
  refine FnD.of (m := m_House_end K) G.f_House_end sc_House_end rfl rfl leaves_leave fun T cdv A outer s H E X hT hcd hX hr hgd tk hp => ?_
  subst hX
  obtain ⟨tb, ths, tvs⟩ := T
  obtain rfl : tb = tabs K := hT
  have hu := huOf hr
  have hN := sc_House_end.nd
  have hc : (cxOf (L2.CX P w) P w K mg base ["self"] "House.end" (defScope s_House_end) (gtA K "House" "end") cdv A outer s H E).calm = true := rfl
  exact db_one (ds_ret (de_fld G.k_House G.a_House_last (de_v 0)))
theorem w_House_kinds (G : Gd P w K mg base) : FnD P w K mg base (tabs K) 3 (gtA K "House" "kinds") (fdOf K (gtA K "House" "kinds")) ["self"] (mf_House_kinds K) := by
  refine FnD.of (m := m_House_kinds K) G.f_House_kinds sc_House_kinds rfl rfl leaves_leave fun T cdv A outer s H E X hT hcd hX hr hgd tk hp => ?_
  subst hX
  obtain ⟨tb, ths, tvs⟩ := T
  obtain rfl : tb = tabs K := hT
  have hu := huOf hr
  have hN := sc_House_kinds.nd
  have hc : (cxOf (L2.CX P w) P w K mg base ["self"] "House.kinds" (defScope s_House_kinds) (gtA K "House" "kinds") cdv A outer s H E).calm = true := rfl
  exact db_one (ds_ret (de_fld G.k_House G.a_House_names (de_v 0)))
theorem w_House_lots (G : Gd P w K mg base) : FnD P w K mg base (tabs K) 3 (gtA K "House" "lots") (fdOf K (gtA K "House" "lots")) ["self"] (mf_House_lots K) := by
  refine FnD.of (m := m_House_lots K) G.f_House_lots sc_House_lots rfl rfl leaves_leave fun T cdv A outer s H E X hT hcd hX hr hgd tk hp => ?_
  subst hX
  obtain ⟨tb, ths, tvs⟩ := T
  obtain rfl : tb = tabs K := hT
  have hu := huOf hr
  have hN := sc_House_lots.nd
  have hc : (cxOf (L2.CX P w) P w K mg base ["self"] "House.lots" (defScope s_House_lots) (gtA K "House" "lots") cdv A outer s H E).calm = true := rfl
  exact db_one (ds_ret (de_fld G.k_House G.a_House_rows (de_v 0)))
theorem w_House_parts (G : Gd P w K mg base) : FnD P w K mg base (tabs K) 3 (gtA K "House" "parts") (fdOf K (gtA K "House" "parts")) ["self"] (mf_House_parts K) := by
  refine FnD.of (m := m_House_parts K) G.f_House_parts sc_House_parts rfl rfl leaves_leave fun T cdv A outer s H E X hT hcd hX hr hgd tk hp => ?_
  subst hX
  obtain ⟨tb, ths, tvs⟩ := T
  obtain rfl : tb = tabs K := hT
  have hu := huOf hr
  have hN := sc_House_parts.nd
  have hc : (cxOf (L2.CX P w) P w K mg base ["self"] "House.parts" (defScope s_House_parts) (gtA K "House" "parts") cdv A outer s H E).calm = true := rfl
  exact db_one (ds_ret (de_tup (da_cons (de_fld G.k_House G.a_House_last (de_v 0)) (da_cons (de_fld G.k_House G.a_House_names (de_v 0)) (da_cons (de_fld G.k_House G.a_House_rows (de_v 0)) (da_nil))))))
theorem w_House_whole (G : Gd P w K mg base) : FnD P w K mg base (tabs K) 3 (gtA K "House" "whole") (fdOf K (gtA K "House" "whole")) ["self"] (mf_House_whole K) := by
  refine FnD.of (m := m_House_whole K) G.f_House_whole sc_House_whole rfl rfl leaves_leave fun T cdv A outer s H E X hT hcd hX hr hgd tk hp => ?_
  subst hX
  obtain ⟨tb, ths, tvs⟩ := T
  obtain rfl : tb = tabs K := hT
  have hu := huOf hr
  have hN := sc_House_whole.nd
  have hc : (cxOf (L2.CX P w) P w K mg base ["self"] "House.whole" (defScope s_House_whole) (gtA K "House" "whole") cdv A outer s H E).calm = true := rfl
  exact db_one (ds_ret (de_fld G.k_House G.a_House_units (de_v 0)))
theorem w_House___eq__ (G : Gd P w K mg base) : FnD P w K mg base (tabs K) 5 (He.fAd K ("House", some "__eq__")) (fdOf K (He.fAd K ("House", some "__eq__"))) ["self", "other"] (mf_House___eq__ K) := by
  refine FnD.of (m := m_House___eq__ K) G.f_House___eq__ sc_House___eq__ rfl rfl leaves_leave fun T cdv A outer s H E X hT hcd hX hr hgd tk hp => ?_
  subst hX
  obtain ⟨tb, ths, tvs⟩ := T
  obtain rfl : tb = tabs K := hT
  have hu := huOf hr
  have hN := sc_House___eq__.nd
  have hc : (cxOf (L2.CX P w) P w K mg base ["self", "other"] "House.__eq__" (defScope s_House___eq__) (He.fAd K ("House", some "__eq__")) cdv A outer s H E).calm = true := rfl
  exact db_one (ds_ret (de_and (de_isi G.isi G.n_isinstance (da_cons (de_v 1) (da_cons (de_gref G.kg_House) (da_nil)))) (de_one (de_eq hu (de_prop G.k_House G.p_House_parts (w_House_parts G) (hr.mono (by omega)) hgd (b_House_parts G) (de_v 0)) (de_prop G.k_House G.p_House_parts (w_House_parts G) (hr.mono (by omega)) hgd (b_House_parts G) (de_v 1))))))
end
end K14

/-! ### text F1a -/
namespace K14
open PySem PySem.Spec PyProof.Rows L2 L3
section
variable {K : PySem.W.Frag}
theorem draw_dr {n : Nat} {l : Int} (h0 : 0 < l) (h1 : l < 1073741824) : Draws n (mf__law_draw K [.loc n, .int l]) (fun v => ∃ i, v = .int i ∧ 0 ≤ i ∧ i < l) := by
  intro s ⟨a, b, c⟩ X Q hs hn k
  have fin : ∀ (i : Int) (w : W3), 0 ≤ i → i < l → (leave (List.length s + 0) (.int i) (wst s n w [])).wp X Q := fun i w a b => leave_wst hs (x := .int i) rfl (k _ _ ⟨i, rfl, a, b⟩)
  have w0 : ∀ a b c : Int, dIx (.loc n) (.int 0) (wst s n (a, b, c) []) = .ok (.int a) (wst s n (a, b, c) []) := fun a b c => by simp [dIx, sqOf, lsOf, wst_n hn, wc, atI, ixN]
  have w1 : ∀ a b c : Int, dIx (.loc n) (.int 1) (wst s n (a, b, c) []) = .ok (.int b) (wst s n (a, b, c) []) := fun a b c => by simp [dIx, sqOf, lsOf, wst_n hn, wc, atI, ixN]
  have w2 : ∀ a b c : Int, dIx (.loc n) (.int 2) (wst s n (a, b, c) []) = .ok (.int c) (wst s n (a, b, c) []) := fun a b c => by simp [dIx, sqOf, lsOf, wst_n hn, wc, atI, ixN]
  have s0 : ∀ a b c x : Int, dSetIx (.loc n) (.int 0) (.int x) (wst s n (a, b, c) []) = some (wst s n (x, b, c) []) := fun a b c x => by
    have := wst_setn (s := s) (t := []) (w := (a, b, c)) (w' := (x, b, c)) hn
    simp [dSetIx, wst_n hn, wc, ixN] at this ⊢; exact this
  have s1 : ∀ a b c x : Int, dSetIx (.loc n) (.int 1) (.int x) (wst s n (a, b, c) []) = some (wst s n (a, x, c) []) := fun a b c x => by
    have := wst_setn (s := s) (t := []) (w := (a, b, c)) (w' := (a, x, c)) hn
    simp [dSetIx, wst_n hn, wc, ixN] at this ⊢; exact this
  have s2 : ∀ a b c x : Int, dSetIx (.loc n) (.int 2) (.int x) (wst s n (a, b, c) []) = some (wst s n (a, b, x) []) := fun a b c x => by
    have := wst_setn (s := s) (t := []) (w := (a, b, c)) (w' := (a, b, x)) hn
    simp [dSetIx, wst_n hn, wc, ixN] at this ⊢; exact this
  have hm : ∀ m : Int, -18446744073709551616 < m % 5003 + 20011 := fun m => by omega
  have hm2 : ∀ m : Int, m % 5003 + 20011 < 18446744073709551616 := fun m => by omega
  simp only [mf__law_draw, m__law_draw, RWP0, RWP1, RWP2, RWP3, beg, begF, perm, List.map_cons, List.map_nil, List.length_cons, List.length_nil, List.replicate_succ, List.replicate_zero, Nat.reduceAdd, Nat.reduceSub, Nat.reduceLT, Nat.reduceEqDiff, List.cons_append, List.nil_append, List.append_nil, List.getElem?_cons_succ, List.getElem?_cons_zero, List.getElem?_nil, List.set_cons_succ, List.set_cons_zero, List.filterMap_cons, List.filterMap_nil, if_true, if_false, true_and, and_true, Bool.not_true, Bool.not_false, Bool.true_eq_false, Bool.false_eq_true, decide_true, decide_false, and_self, wipeD, Nm.put, Nm.putL, Option.map_some, Option.some.injEq, exists_eq_left', ite_true, ite_false, reduceIte, Nat.reduceLeDiff, List.drop_zero, capsOf, Option.join_some, RST0, List.length_append, List.length_set]
  by_cases ha : 0 < a
  · simp only [w0, s0, ha, h0, h1, wp_eCh2, o_mulF, ROPS0, ROPS1, at0I, at1I, at2I, at3I, at4I, decide_eq_true_eq, Int.reduceLT, Int.reduceLE, Int.reducePow, Int.reduceToNat, Int.reduceAdd, Int.reduceMul, Int.reduceSub, Int.reduceNeg, Nat.reduceLT, Nat.reduceLeDiff, RWP0, RWP1, RWP2, RWP3, beg, begF, perm, List.map_cons, List.map_nil, List.length_cons, List.length_nil, List.replicate_succ, List.replicate_zero, Nat.reduceAdd, Nat.reduceSub, Nat.reduceLT, Nat.reduceEqDiff, List.cons_append, List.nil_append, List.append_nil, List.getElem?_cons_succ, List.getElem?_cons_zero, List.getElem?_nil, List.set_cons_succ, List.set_cons_zero, List.filterMap_cons, List.filterMap_nil, if_true, if_false, true_and, and_true, Bool.not_true, Bool.not_false, Bool.true_eq_false, Bool.false_eq_true, decide_true, decide_false, and_self, wipeD, Nm.put, Nm.putL, Option.map_some, Option.some.injEq, exists_eq_left', ite_true, ite_false, reduceIte, Nat.reduceLeDiff, List.drop_zero, capsOf, Option.join_some, RST0, List.length_append, List.length_set]
    exact fin _ _ (Int.emod_nonneg _ (by omega)) (Int.emod_lt_of_pos _ h0)
  · simp only [w0, w1, w2, s1, s2, ha, h0, h1, hm, hm2, wp_eCh2, o_mulF, ROPS0, ROPS1, at0I, at1I, at2I, at3I, at4I, decide_eq_true_eq, Int.reduceLT, Int.reduceLE, Int.reducePow, Int.reduceToNat, Int.reduceAdd, Int.reduceMul, Int.reduceSub, Int.reduceNeg, Nat.reduceLT, Nat.reduceLeDiff, RWP0, RWP1, RWP2, RWP3, beg, begF, perm, List.map_cons, List.map_nil, List.length_cons, List.length_nil, List.replicate_succ, List.replicate_zero, Nat.reduceAdd, Nat.reduceSub, Nat.reduceLT, Nat.reduceEqDiff, List.cons_append, List.nil_append, List.append_nil, List.getElem?_cons_succ, List.getElem?_cons_zero, List.getElem?_nil, List.set_cons_succ, List.set_cons_zero, List.filterMap_cons, List.filterMap_nil, if_true, if_false, true_and, and_true, Bool.not_true, Bool.not_false, Bool.true_eq_false, Bool.false_eq_true, decide_true, decide_false, and_self, wipeD, Nm.put, Nm.putL, Option.map_some, Option.some.injEq, exists_eq_left', ite_true, ite_false, reduceIte, Nat.reduceLeDiff, List.drop_zero, capsOf, Option.join_some, RST0, List.length_append, List.length_set]
    exact fin _ _ (Int.emod_nonneg _ (by omega)) (Int.emod_lt_of_pos _ h0)
/-- one of some -/
theorem ofT_dr {n : Nat} {xs : List D} (h0 : 0 < xs.length) (h1 : xs.length < 1000000) (hx : ∀ d ∈ xs, ∀ i, shut i d = true) : Draws n (mf__law_of K [.loc n, .tup xs]) (fun v => v ∈ xs) := by
  intro s w X Q hs hn k
  simp only [mf__law_of, m__law_of, wp_eCh2, o_mulF, ROPS0, ROPS1, at0I, at1I, at2I, at3I, at4I, decide_eq_true_eq, Int.reduceLT, Int.reduceLE, Int.reducePow, Int.reduceToNat, Int.reduceAdd, Int.reduceMul, Int.reduceSub, Int.reduceNeg, Nat.reduceLT, Nat.reduceLeDiff, RWP0, RWP1, RWP2, RWP3, beg, begF, perm, List.map_cons, List.map_nil, List.length_cons, List.length_nil, List.replicate_succ, List.replicate_zero, Nat.reduceAdd, Nat.reduceSub, Nat.reduceLT, Nat.reduceEqDiff, List.cons_append, List.nil_append, List.append_nil, List.getElem?_cons_succ, List.getElem?_cons_zero, List.getElem?_nil, List.set_cons_succ, List.set_cons_zero, List.filterMap_cons, List.filterMap_nil, if_true, if_false, true_and, and_true, Bool.not_true, Bool.not_false, Bool.true_eq_false, Bool.false_eq_true, decide_true, decide_false, and_self, wipeD, Nm.put, Nm.putL, Option.map_some, Option.some.injEq, exists_eq_left', ite_true, ite_false, reduceIte, Nat.reduceLeDiff, List.drop_zero, capsOf, Option.join_some, RST0, List.length_append, List.length_set]
  refine (draw_dr (by omega) (by omega)).use hs .nil hn ?_
  rintro v w' ⟨i, rfl, a, b⟩
  simp only [wp_eCh2, o_mulF, ROPS0, ROPS1, at0I, at1I, at2I, at3I, at4I, decide_eq_true_eq, Int.reduceLT, Int.reduceLE, Int.reducePow, Int.reduceToNat, Int.reduceAdd, Int.reduceMul, Int.reduceSub, Int.reduceNeg, Nat.reduceLT, Nat.reduceLeDiff, RWP0, RWP1, RWP2, RWP3, beg, begF, perm, List.map_cons, List.map_nil, List.length_cons, List.length_nil, List.replicate_succ, List.replicate_zero, Nat.reduceAdd, Nat.reduceSub, Nat.reduceLT, Nat.reduceEqDiff, List.cons_append, List.nil_append, List.append_nil, List.getElem?_cons_succ, List.getElem?_cons_zero, List.getElem?_nil, List.set_cons_succ, List.set_cons_zero, List.filterMap_cons, List.filterMap_nil, if_true, if_false, true_and, and_true, Bool.not_true, Bool.not_false, Bool.true_eq_false, Bool.false_eq_true, decide_true, decide_false, and_self, wipeD, Nm.put, Nm.putL, Option.map_some, Option.some.injEq, exists_eq_left', ite_true, ite_false, reduceIte, Nat.reduceLeDiff, List.drop_zero, capsOf, Option.join_some, RST0, List.length_append, List.length_set, atZ a b]
  have hm : xs[i.toNat]'(by omega) ∈ xs := List.getElem_mem _
  exact leave_wst hs rfl (k _ _ hm)
theorem ofF_dr {n : Nat} {xs : List D} (h0 : 0 < xs.length) (h1 : xs.length < 1000000) (hx : ∀ d ∈ xs, ∀ i, shut i d = true) : Draws n (mf__law_of K [.loc n, .fl xs]) (fun v => v ∈ xs) := by
  intro s w X Q hs hn k
  simp only [mf__law_of, m__law_of, wp_eCh2, o_mulF, ROPS0, ROPS1, at0I, at1I, at2I, at3I, at4I, decide_eq_true_eq, Int.reduceLT, Int.reduceLE, Int.reducePow, Int.reduceToNat, Int.reduceAdd, Int.reduceMul, Int.reduceSub, Int.reduceNeg, Nat.reduceLT, Nat.reduceLeDiff, RWP0, RWP1, RWP2, RWP3, beg, begF, perm, List.map_cons, List.map_nil, List.length_cons, List.length_nil, List.replicate_succ, List.replicate_zero, Nat.reduceAdd, Nat.reduceSub, Nat.reduceLT, Nat.reduceEqDiff, List.cons_append, List.nil_append, List.append_nil, List.getElem?_cons_succ, List.getElem?_cons_zero, List.getElem?_nil, List.set_cons_succ, List.set_cons_zero, List.filterMap_cons, List.filterMap_nil, if_true, if_false, true_and, and_true, Bool.not_true, Bool.not_false, Bool.true_eq_false, Bool.false_eq_true, decide_true, decide_false, and_self, wipeD, Nm.put, Nm.putL, Option.map_some, Option.some.injEq, exists_eq_left', ite_true, ite_false, reduceIte, Nat.reduceLeDiff, List.drop_zero, capsOf, Option.join_some, RST0, List.length_append, List.length_set]
  refine (draw_dr (by omega) (by omega)).use hs .nil hn ?_
  rintro v w' ⟨i, rfl, a, b⟩
  simp only [wp_eCh2, o_mulF, ROPS0, ROPS1, at0I, at1I, at2I, at3I, at4I, decide_eq_true_eq, Int.reduceLT, Int.reduceLE, Int.reducePow, Int.reduceToNat, Int.reduceAdd, Int.reduceMul, Int.reduceSub, Int.reduceNeg, Nat.reduceLT, Nat.reduceLeDiff, RWP0, RWP1, RWP2, RWP3, beg, begF, perm, List.map_cons, List.map_nil, List.length_cons, List.length_nil, List.replicate_succ, List.replicate_zero, Nat.reduceAdd, Nat.reduceSub, Nat.reduceLT, Nat.reduceEqDiff, List.cons_append, List.nil_append, List.append_nil, List.getElem?_cons_succ, List.getElem?_cons_zero, List.getElem?_nil, List.set_cons_succ, List.set_cons_zero, List.filterMap_cons, List.filterMap_nil, if_true, if_false, true_and, and_true, Bool.not_true, Bool.not_false, Bool.true_eq_false, Bool.false_eq_true, decide_true, decide_false, and_self, wipeD, Nm.put, Nm.putL, Option.map_some, Option.some.injEq, exists_eq_left', ite_true, ite_false, reduceIte, Nat.reduceLeDiff, List.drop_zero, capsOf, Option.join_some, RST0, List.length_append, List.length_set, atZ a b]
  have hm : xs[i.toNat]'(by omega) ∈ xs := List.getElem_mem _
  exact leave_wst hs rfl (k _ _ hm)
end
end K14

/-! ### text P1 -/
namespace K14
open PySem PySem.Spec PyProof.Rows L2 L3
/-- data: no place, no instance -/
def Pd (d : D) : Prop := ∃ p, toP d = some p
theorem Pd.of {k n : Nat} {d : D} (h : Dat k n d) : Pd d := let ⟨p, h⟩ := h; ⟨p, h.e⟩
def intD : D → Bool | .int _ => true | .bl _ => true | _ => false
def boolD : D → Bool | .bl _ => true | _ => false
def strD : D → Bool | .str _ => true | _ => false
def tupD : D → Bool | .tup _ => true | _ => false
section
variable {K : PySem.W.Frag} (F : Pf K) {d : D} {st : Store}
include F
theorem isi_int (h : Pd d) : bIsi K (isC K) [d, .ty "int"] st = .ok (.bl (intD d)) st := by
  obtain ⟨p, h⟩ := h
  cases d <;> first | (cases h; done) | simp [bIsi, tyD, clsD, okTy, intD, F.i_NoneType_int, F.i_bool_int, F.i_int_int, F.i_str_int, F.i_tuple_int, F.i_list_int]
theorem isi_bool (h : Pd d) : bIsi K (isC K) [d, .ty "bool"] st = .ok (.bl (boolD d)) st := by
  obtain ⟨p, h⟩ := h
  cases d <;> first | (cases h; done) | simp [bIsi, tyD, clsD, okTy, boolD, F.i_NoneType_bool, F.i_bool_bool, F.i_int_bool, F.i_str_bool, F.i_tuple_bool, F.i_list_bool]
theorem isi_str (h : Pd d) : bIsi K (isC K) [d, .ty "str"] st = .ok (.bl (strD d)) st := by
  obtain ⟨p, h⟩ := h
  cases d <;> first | (cases h; done) | simp [bIsi, tyD, clsD, okTy, strD, F.i_NoneType_str, F.i_bool_str, F.i_int_str, F.i_str_str, F.i_tuple_str, F.i_list_str]
theorem isi_tup (h : Pd d) : bIsi K (isC K) [d, .ty "tuple"] st = .ok (.bl (tupD d)) st := by
  obtain ⟨p, h⟩ := h
  cases d <;> first | (cases h; done) | simp [bIsi, tyD, clsD, okTy, tupD, F.i_NoneType_tuple, F.i_bool_tuple, F.i_int_tuple, F.i_str_tuple, F.i_tuple_tuple, F.i_list_tuple]
end
/-- a whole number from .. to -/
def numB (d : D) (lo hi : Int) : Bool := match d with | .int i => decide (lo ≤ i ∧ i ≤ hi) | _ => false
section
variable {K : PySem.W.Frag} (F : Pf K) {d : D} {st : Store}
include F
theorem whole_ok (h : Pd d) : mf_is_whole K [d] st = .ok (.bl (intD d && !boolD d)) st := by
  apply Res.wp_eq
  simp only [mf_is_whole, m_is_whole, wp_eCh2, o_mulF, ROPS0, ROPS1, at0I, at1I, at2I, at3I, at4I, decide_eq_true_eq, Int.reduceLT, Int.reduceLE, Int.reducePow, Int.reduceToNat, Int.reduceAdd, Int.reduceMul, Int.reduceSub, Int.reduceNeg, Nat.reduceLT, Nat.reduceLeDiff, RWP0, RWP1, RWP2, RWP3, beg, begF, perm, List.map_cons, List.map_nil, List.length_cons, List.length_nil, List.replicate_succ, List.replicate_zero, Nat.reduceAdd, Nat.reduceSub, Nat.reduceLT, Nat.reduceEqDiff, List.cons_append, List.nil_append, List.append_nil, List.getElem?_cons_succ, List.getElem?_cons_zero, List.getElem?_nil, List.set_cons_succ, List.set_cons_zero, List.filterMap_cons, List.filterMap_nil, if_true, if_false, true_and, and_true, Bool.not_true, Bool.not_false, Bool.true_eq_false, Bool.false_eq_true, decide_true, decide_false, and_self, wipeD, Nm.put, Nm.putL, Option.map_some, Option.some.injEq, exists_eq_left', ite_true, ite_false, reduceIte, Nat.reduceLeDiff, List.drop_zero, capsOf, Option.join_some, RST0, List.length_append, List.length_set, isi_int F h, isi_bool F h]
  obtain ⟨p, h⟩ := h
  cases d <;> first | (cases h; done) | simp [intD, boolD, leave_same]
theorem number_ok {a b : Int} (h : Pd d) : mf_is_number K [d, .int a, .int b] st = .ok (.bl (numB d a b)) st := by
  apply Res.wp_eq
  simp only [mf_is_number, m_is_number, wp_eCh2, o_mulF, ROPS0, ROPS1, at0I, at1I, at2I, at3I, at4I, decide_eq_true_eq, Int.reduceLT, Int.reduceLE, Int.reducePow, Int.reduceToNat, Int.reduceAdd, Int.reduceMul, Int.reduceSub, Int.reduceNeg, Nat.reduceLT, Nat.reduceLeDiff, RWP0, RWP1, RWP2, RWP3, beg, begF, perm, List.map_cons, List.map_nil, List.length_cons, List.length_nil, List.replicate_succ, List.replicate_zero, Nat.reduceAdd, Nat.reduceSub, Nat.reduceLT, Nat.reduceEqDiff, List.cons_append, List.nil_append, List.append_nil, List.getElem?_cons_succ, List.getElem?_cons_zero, List.getElem?_nil, List.set_cons_succ, List.set_cons_zero, List.filterMap_cons, List.filterMap_nil, if_true, if_false, true_and, and_true, Bool.not_true, Bool.not_false, Bool.true_eq_false, Bool.false_eq_true, decide_true, decide_false, and_self, wipeD, Nm.put, Nm.putL, Option.map_some, Option.some.injEq, exists_eq_left', ite_true, ite_false, reduceIte, Nat.reduceLeDiff, List.drop_zero, capsOf, Option.join_some, RST0, List.length_append, List.length_set, whole_ok F h]
  obtain ⟨p, h⟩ := h
  cases d <;> first | (cases h; done) | skip
  case int i =>
    simp only [wp_eCh2, o_mulF, ROPS0, ROPS1, at0I, at1I, at2I, at3I, at4I, decide_eq_true_eq, Int.reduceLT, Int.reduceLE, Int.reducePow, Int.reduceToNat, Int.reduceAdd, Int.reduceMul, Int.reduceSub, Int.reduceNeg, Nat.reduceLT, Nat.reduceLeDiff, RWP0, RWP1, RWP2, RWP3, beg, begF, perm, List.map_cons, List.map_nil, List.length_cons, List.length_nil, List.replicate_succ, List.replicate_zero, Nat.reduceAdd, Nat.reduceSub, Nat.reduceLT, Nat.reduceEqDiff, List.cons_append, List.nil_append, List.append_nil, List.getElem?_cons_succ, List.getElem?_cons_zero, List.getElem?_nil, List.set_cons_succ, List.set_cons_zero, List.filterMap_cons, List.filterMap_nil, if_true, if_false, true_and, and_true, Bool.not_true, Bool.not_false, Bool.true_eq_false, Bool.false_eq_true, decide_true, decide_false, and_self, wipeD, Nm.put, Nm.putL, Option.map_some, Option.some.injEq, exists_eq_left', ite_true, ite_false, reduceIte, Nat.reduceLeDiff, List.drop_zero, capsOf, Option.join_some, RST0, List.length_append, List.length_set, intD, boolD]
    by_cases h1 : i < a
    · simp only [h1, wp_eCh2, o_mulF, ROPS0, ROPS1, at0I, at1I, at2I, at3I, at4I, decide_eq_true_eq, Int.reduceLT, Int.reduceLE, Int.reducePow, Int.reduceToNat, Int.reduceAdd, Int.reduceMul, Int.reduceSub, Int.reduceNeg, Nat.reduceLT, Nat.reduceLeDiff, RWP0, RWP1, RWP2, RWP3, beg, begF, perm, List.map_cons, List.map_nil, List.length_cons, List.length_nil, List.replicate_succ, List.replicate_zero, Nat.reduceAdd, Nat.reduceSub, Nat.reduceLT, Nat.reduceEqDiff, List.cons_append, List.nil_append, List.append_nil, List.getElem?_cons_succ, List.getElem?_cons_zero, List.getElem?_nil, List.set_cons_succ, List.set_cons_zero, List.filterMap_cons, List.filterMap_nil, if_true, if_false, true_and, and_true, Bool.not_true, Bool.not_false, Bool.true_eq_false, Bool.false_eq_true, decide_true, decide_false, and_self, wipeD, Nm.put, Nm.putL, Option.map_some, Option.some.injEq, exists_eq_left', ite_true, ite_false, reduceIte, Nat.reduceLeDiff, List.drop_zero, capsOf, Option.join_some, RST0, List.length_append, List.length_set, leave_same, numB]
      simp; omega
    · simp only [h1, wp_eCh2, o_mulF, ROPS0, ROPS1, at0I, at1I, at2I, at3I, at4I, decide_eq_true_eq, Int.reduceLT, Int.reduceLE, Int.reducePow, Int.reduceToNat, Int.reduceAdd, Int.reduceMul, Int.reduceSub, Int.reduceNeg, Nat.reduceLT, Nat.reduceLeDiff, RWP0, RWP1, RWP2, RWP3, beg, begF, perm, List.map_cons, List.map_nil, List.length_cons, List.length_nil, List.replicate_succ, List.replicate_zero, Nat.reduceAdd, Nat.reduceSub, Nat.reduceLT, Nat.reduceEqDiff, List.cons_append, List.nil_append, List.append_nil, List.getElem?_cons_succ, List.getElem?_cons_zero, List.getElem?_nil, List.set_cons_succ, List.set_cons_zero, List.filterMap_cons, List.filterMap_nil, if_true, if_false, true_and, and_true, Bool.not_true, Bool.not_false, Bool.true_eq_false, Bool.false_eq_true, decide_true, decide_false, and_self, wipeD, Nm.put, Nm.putL, Option.map_some, Option.some.injEq, exists_eq_left', ite_true, ite_false, reduceIte, Nat.reduceLeDiff, List.drop_zero, capsOf, Option.join_some, RST0, List.length_append, List.length_set, leave_same, numB]
      simp; omega
  all_goals simp only [wp_eCh2, o_mulF, ROPS0, ROPS1, at0I, at1I, at2I, at3I, at4I, decide_eq_true_eq, Int.reduceLT, Int.reduceLE, Int.reducePow, Int.reduceToNat, Int.reduceAdd, Int.reduceMul, Int.reduceSub, Int.reduceNeg, Nat.reduceLT, Nat.reduceLeDiff, RWP0, RWP1, RWP2, RWP3, beg, begF, perm, List.map_cons, List.map_nil, List.length_cons, List.length_nil, List.replicate_succ, List.replicate_zero, Nat.reduceAdd, Nat.reduceSub, Nat.reduceLT, Nat.reduceEqDiff, List.cons_append, List.nil_append, List.append_nil, List.getElem?_cons_succ, List.getElem?_cons_zero, List.getElem?_nil, List.set_cons_succ, List.set_cons_zero, List.filterMap_cons, List.filterMap_nil, if_true, if_false, true_and, and_true, Bool.not_true, Bool.not_false, Bool.true_eq_false, Bool.false_eq_true, decide_true, decide_false, and_self, wipeD, Nm.put, Nm.putL, Option.map_some, Option.some.injEq, exists_eq_left', ite_true, ite_false, reduceIte, Nat.reduceLeDiff, List.drop_zero, capsOf, Option.join_some, RST0, List.length_append, List.length_set, intD, boolD, leave_same, numB, Bool.not_false, Bool.not_true, Bool.true_and, Bool.false_and, Bool.and_true, Bool.and_false]
end
end K14

/-! ### text P2 -/
namespace K14
open PySem PySem.Spec PyProof.Rows L2 L3
/-! ### texts -/
def letB (c : Nat) : Bool := occ (Str.ofString "abcdefghijklmnopqrstuvwxyz") ⟨#[c]⟩
def wordB (x : Str) : Bool := !decide (x = Str.ofString "") && x.cps.toList.all letB
def wordsL : List Str := ["book", "booking", "day", "end", "ended", "from", "go", "kinds", "left", "lost", "lot", "most", "none", "of", "paid", "pay", "room", "to", "units", "with"]
def nameB (x : Str) : Bool := wordB x && decide (x.length ≤ 8) && !decide (x ∈ wordsL)
def nameD (d : D) : Bool := match d with | .str x => nameB x | _ => false
def inB (ks : List Str) (d : D) : Bool := match d with | .str x => decide (x ∈ ks) | _ => false
def tupNB (d : D) (n : Nat) : Bool := match d with | .tup xs => decide (xs.length = n) | _ => false
theorem eqV_str (a b : Str) : eqV (.str a) (.str b) = decide (a = b) := by
  show (a == b) = _
  rw [Bool.eq_iff_iff]; simp
theorem inV_strs (x : Str) (l : List Str) : inV (.str x) (l.map V.str) = decide (x ∈ l) := by
  unfold inV
  induction l with
  | nil => simp
  | cons a l ih =>
    rw [List.map_cons, List.any_cons, ih, eqV_str]
    by_cases h : a = x
    · subst h; simp
    · have : ¬ x = a := fun e => h e.symm
      simp [h, this]
theorem fVs_strs : ∀ l : List Str, fVs (l.map D.str) = some (l.map V.str)
  | [] => rfl
  | a :: l => by simp [fVs, fV, fVs_strs l]
theorem in_strs {x : Str} {l : List Str} {st : Store} : dIn false (.str x) (.tup (l.map D.str)) st = .ok (.bl (decide (x ∈ l))) st := by
  simp [dIn, sqOf, fV, fVs_strs, inV_strs]
theorem notIn_strs {x : Str} {l : List Str} {st : Store} : dIn true (.str x) (.tup (l.map D.str)) st = .ok (.bl (!decide (x ∈ l))) st := by
  simp [dIn, sqOf, fV, fVs_strs, inV_strs]
theorem in_strsF {x : Str} {l : List Str} {st : Store} : dIn false (.str x) (.fl (l.map D.str)) st = .ok (.bl (decide (x ∈ l))) st := by
  simp [dIn, sqOf, lsOf, fV, fVs_strs, inV_strs]
section
variable {K : PySem.W.Frag} (F : Pf K) {d : D} {st : Store}
include F
theorem word_ok (h : Pd d) (hl : ∀ x, d = .str x → x.length ≤ 1000000) : mf_is_word K [d] st = .ok (.bl (match d with | .str x => wordB x | _ => false)) st := by
  apply Res.wp_eq
  simp only [mf_is_word, m_is_word, wp_eCh2, o_mulF, ROPS0, ROPS1, at0I, at1I, at2I, at3I, at4I, decide_eq_true_eq, Int.reduceLT, Int.reduceLE, Int.reducePow, Int.reduceToNat, Int.reduceAdd, Int.reduceMul, Int.reduceSub, Int.reduceNeg, Nat.reduceLT, Nat.reduceLeDiff, RWP0, RWP1, RWP2, RWP3, beg, begF, perm, List.map_cons, List.map_nil, List.length_cons, List.length_nil, List.replicate_succ, List.replicate_zero, Nat.reduceAdd, Nat.reduceSub, Nat.reduceLT, Nat.reduceEqDiff, List.cons_append, List.nil_append, List.append_nil, List.getElem?_cons_succ, List.getElem?_cons_zero, List.getElem?_nil, List.set_cons_succ, List.set_cons_zero, List.filterMap_cons, List.filterMap_nil, if_true, if_false, true_and, and_true, Bool.not_true, Bool.not_false, Bool.true_eq_false, Bool.false_eq_true, decide_true, decide_false, and_self, wipeD, Nm.put, Nm.putL, Option.map_some, Option.some.injEq, exists_eq_left', ite_true, ite_false, reduceIte, Nat.reduceLeDiff, List.drop_zero, capsOf, Option.join_some, RST0, List.length_append, List.length_set, isi_str F h]
  obtain ⟨p, h⟩ := h
  cases d <;> first | (cases h; done) | simp only [strD, wp_eCh2, o_mulF, ROPS0, ROPS1, at0I, at1I, at2I, at3I, at4I, decide_eq_true_eq, Int.reduceLT, Int.reduceLE, Int.reducePow, Int.reduceToNat, Int.reduceAdd, Int.reduceMul, Int.reduceSub, Int.reduceNeg, Nat.reduceLT, Nat.reduceLeDiff, RWP0, RWP1, RWP2, RWP3, beg, begF, perm, List.map_cons, List.map_nil, List.length_cons, List.length_nil, List.replicate_succ, List.replicate_zero, Nat.reduceAdd, Nat.reduceSub, Nat.reduceLT, Nat.reduceEqDiff, List.cons_append, List.nil_append, List.append_nil, List.getElem?_cons_succ, List.getElem?_cons_zero, List.getElem?_nil, List.set_cons_succ, List.set_cons_zero, List.filterMap_cons, List.filterMap_nil, if_true, if_false, true_and, and_true, Bool.not_true, Bool.not_false, Bool.true_eq_false, Bool.false_eq_true, decide_true, decide_false, and_self, wipeD, Nm.put, Nm.putL, Option.map_some, Option.some.injEq, exists_eq_left', ite_true, ite_false, reduceIte, Nat.reduceLeDiff, List.drop_zero, capsOf, Option.join_some, RST0, List.length_append, List.length_set, leave_same]
  case str x =>
    have hx := hl x rfl
    by_cases h0 : x = Str.ofString ""
    · simp [h0, wordB, leave_same]
    · simp only [h0, wp_eCh2, o_mulF, ROPS0, ROPS1, at0I, at1I, at2I, at3I, at4I, decide_eq_true_eq, Int.reduceLT, Int.reduceLE, Int.reducePow, Int.reduceToNat, Int.reduceAdd, Int.reduceMul, Int.reduceSub, Int.reduceNeg, Nat.reduceLT, Nat.reduceLeDiff, RWP0, RWP1, RWP2, RWP3, beg, begF, perm, List.map_cons, List.map_nil, List.length_cons, List.length_nil, List.replicate_succ, List.replicate_zero, Nat.reduceAdd, Nat.reduceSub, Nat.reduceLT, Nat.reduceEqDiff, List.cons_append, List.nil_append, List.append_nil, List.getElem?_cons_succ, List.getElem?_cons_zero, List.getElem?_nil, List.set_cons_succ, List.set_cons_zero, List.filterMap_cons, List.filterMap_nil, if_true, if_false, true_and, and_true, Bool.not_true, Bool.not_false, Bool.true_eq_false, Bool.false_eq_true, decide_true, decide_false, and_self, wipeD, Nm.put, Nm.putL, Option.map_some, Option.some.injEq, exists_eq_left', ite_true, ite_false, reduceIte, Nat.reduceLeDiff, List.drop_zero, capsOf, Option.join_some, RST0, List.length_append, List.length_set]
      have hlen : x.cps.toList.length ≤ 1000000 := by rw [Array.length_toList]; exact hx
      refine lc_pure (fun d => match d with | .str y => some (.bl (occ (Str.ofString "abcdefghijklmnopqrstuvwxyz") y)) | _ => none) (by rw [List.length_map]; exact hlen) trivial (fun d hd => ?_) ?_
      · simp only [List.mem_map] at hd
        obtain ⟨c, hc, rfl⟩ := hd
        simp only [wp_eCh2, o_mulF, ROPS0, ROPS1, at0I, at1I, at2I, at3I, at4I, decide_eq_true_eq, Int.reduceLT, Int.reduceLE, Int.reducePow, Int.reduceToNat, Int.reduceAdd, Int.reduceMul, Int.reduceSub, Int.reduceNeg, Nat.reduceLT, Nat.reduceLeDiff, RWP0, RWP1, RWP2, RWP3, beg, begF, perm, List.map_cons, List.map_nil, List.length_cons, List.length_nil, List.replicate_succ, List.replicate_zero, Nat.reduceAdd, Nat.reduceSub, Nat.reduceLT, Nat.reduceEqDiff, List.cons_append, List.nil_append, List.append_nil, List.getElem?_cons_succ, List.getElem?_cons_zero, List.getElem?_nil, List.set_cons_succ, List.set_cons_zero, List.filterMap_cons, List.filterMap_nil, if_true, if_false, true_and, and_true, Bool.not_true, Bool.not_false, Bool.true_eq_false, Bool.false_eq_true, decide_true, decide_false, and_self, wipeD, Nm.put, Nm.putL, Option.map_some, Option.some.injEq, exists_eq_left', ite_true, ite_false, reduceIte, Nat.reduceLeDiff, List.drop_zero, capsOf, Option.join_some, RST0, List.length_append, List.length_set, dIn, Bool.false_eq_true]
      · have e : (x.cps.toList.map fun c => D.str ⟨#[c]⟩).filterMap (fun d => match d with | .str y => some (D.bl (occ (Str.ofString "abcdefghijklmnopqrstuvwxyz") y)) | _ => none) = (x.cps.toList.map letB).map D.bl := by
          generalize x.cps.toList = l
          induction l with
          | nil => rfl
          | cons a l ih => simp [ih, letB]
        have ib : ∀ l : List Bool, isBls (l.map D.bl) = some l := fun l => by
          induction l with
          | nil => rfl
          | cons a l ih => simp [isBls, ih]
        rw [e]
        have eb : ∀ l : List Nat, (l.map letB).all id = l.all letB := fun l => by rw [List.all_map]; rfl
        simp only [bAll, lsOf, ib, RWP0, RWP1, RWP2, RWP3, beg, begF, perm, List.map_cons, List.map_nil, List.length_cons, List.length_nil, List.replicate_succ, List.replicate_zero, Nat.reduceAdd, Nat.reduceSub, Nat.reduceLT, Nat.reduceEqDiff, List.cons_append, List.nil_append, List.append_nil, List.getElem?_cons_succ, List.getElem?_cons_zero, List.getElem?_nil, List.set_cons_succ, List.set_cons_zero, List.filterMap_cons, List.filterMap_nil, if_true, if_false, true_and, and_true, Bool.not_true, Bool.not_false, Bool.true_eq_false, Bool.false_eq_true, decide_true, decide_false, and_self, wipeD, Nm.put, Nm.putL, Option.map_some, Option.some.injEq, exists_eq_left', ite_true, ite_false, reduceIte, Nat.reduceLeDiff, List.drop_zero, capsOf, Option.join_some, RST0, List.length_append, List.length_set, leave_same, wordB, h0, decide_false, Bool.not_false, Bool.true_and, eb]
theorem name_ok (h : Pd d) (hl : ∀ x, d = .str x → x.length ≤ 1000000) : mf_is_name K [d] st = .ok (.bl (nameD d)) st := by
  apply Res.wp_eq
  have hw : (dv_WORDS.map (dvD K)) = wordsL.map D.str := by simp [dv_WORDS, dvD, wordsL]
  simp only [mf_is_name, m_is_name, wp_eCh2, o_mulF, ROPS0, ROPS1, at0I, at1I, at2I, at3I, at4I, decide_eq_true_eq, Int.reduceLT, Int.reduceLE, Int.reducePow, Int.reduceToNat, Int.reduceAdd, Int.reduceMul, Int.reduceSub, Int.reduceNeg, Nat.reduceLT, Nat.reduceLeDiff, RWP0, RWP1, RWP2, RWP3, beg, begF, perm, List.map_cons, List.map_nil, List.length_cons, List.length_nil, List.replicate_succ, List.replicate_zero, Nat.reduceAdd, Nat.reduceSub, Nat.reduceLT, Nat.reduceEqDiff, List.cons_append, List.nil_append, List.append_nil, List.getElem?_cons_succ, List.getElem?_cons_zero, List.getElem?_nil, List.set_cons_succ, List.set_cons_zero, List.filterMap_cons, List.filterMap_nil, if_true, if_false, true_and, and_true, Bool.not_true, Bool.not_false, Bool.true_eq_false, Bool.false_eq_true, decide_true, decide_false, and_self, wipeD, Nm.put, Nm.putL, Option.map_some, Option.some.injEq, exists_eq_left', ite_true, ite_false, reduceIte, Nat.reduceLeDiff, List.drop_zero, capsOf, Option.join_some, RST0, List.length_append, List.length_set, word_ok F h hl]
  obtain ⟨p, h⟩ := h
  cases d <;> first | (cases h; done) | simp only [nameD, wp_eCh2, o_mulF, ROPS0, ROPS1, at0I, at1I, at2I, at3I, at4I, decide_eq_true_eq, Int.reduceLT, Int.reduceLE, Int.reducePow, Int.reduceToNat, Int.reduceAdd, Int.reduceMul, Int.reduceSub, Int.reduceNeg, Nat.reduceLT, Nat.reduceLeDiff, RWP0, RWP1, RWP2, RWP3, beg, begF, perm, List.map_cons, List.map_nil, List.length_cons, List.length_nil, List.replicate_succ, List.replicate_zero, Nat.reduceAdd, Nat.reduceSub, Nat.reduceLT, Nat.reduceEqDiff, List.cons_append, List.nil_append, List.append_nil, List.getElem?_cons_succ, List.getElem?_cons_zero, List.getElem?_nil, List.set_cons_succ, List.set_cons_zero, List.filterMap_cons, List.filterMap_nil, if_true, if_false, true_and, and_true, Bool.not_true, Bool.not_false, Bool.true_eq_false, Bool.false_eq_true, decide_true, decide_false, and_self, wipeD, Nm.put, Nm.putL, Option.map_some, Option.some.injEq, exists_eq_left', ite_true, ite_false, reduceIte, Nat.reduceLeDiff, List.drop_zero, capsOf, Option.join_some, RST0, List.length_append, List.length_set, leave_same]
  case str x =>
    have hx := hl x rfl
    rw [hw]
    by_cases e : wordB x = true
    rotate_left
    · have e' : wordB x = false := by simpa using e
      simp [nameD, nameB, e', leave_same]
    · simp only [e, wp_eCh2, o_mulF, ROPS0, ROPS1, at0I, at1I, at2I, at3I, at4I, decide_eq_true_eq, Int.reduceLT, Int.reduceLE, Int.reducePow, Int.reduceToNat, Int.reduceAdd, Int.reduceMul, Int.reduceSub, Int.reduceNeg, Nat.reduceLT, Nat.reduceLeDiff, RWP0, RWP1, RWP2, RWP3, beg, begF, perm, List.map_cons, List.map_nil, List.length_cons, List.length_nil, List.replicate_succ, List.replicate_zero, Nat.reduceAdd, Nat.reduceSub, Nat.reduceLT, Nat.reduceEqDiff, List.cons_append, List.nil_append, List.append_nil, List.getElem?_cons_succ, List.getElem?_cons_zero, List.getElem?_nil, List.set_cons_succ, List.set_cons_zero, List.filterMap_cons, List.filterMap_nil, if_true, if_false, true_and, and_true, Bool.not_true, Bool.not_false, Bool.true_eq_false, Bool.false_eq_true, decide_true, decide_false, and_self, wipeD, Nm.put, Nm.putL, Option.map_some, Option.some.injEq, exists_eq_left', ite_true, ite_false, reduceIte, Nat.reduceLeDiff, List.drop_zero, capsOf, Option.join_some, RST0, List.length_append, List.length_set, o_lenS hx, notIn_strs]
      by_cases h8 : x.length ≤ 8
      · have : ((x.length : Int) ≤ 8) := by omega
        simp only [this, wp_eCh2, o_mulF, ROPS0, ROPS1, at0I, at1I, at2I, at3I, at4I, decide_eq_true_eq, Int.reduceLT, Int.reduceLE, Int.reducePow, Int.reduceToNat, Int.reduceAdd, Int.reduceMul, Int.reduceSub, Int.reduceNeg, Nat.reduceLT, Nat.reduceLeDiff, RWP0, RWP1, RWP2, RWP3, beg, begF, perm, List.map_cons, List.map_nil, List.length_cons, List.length_nil, List.replicate_succ, List.replicate_zero, Nat.reduceAdd, Nat.reduceSub, Nat.reduceLT, Nat.reduceEqDiff, List.cons_append, List.nil_append, List.append_nil, List.getElem?_cons_succ, List.getElem?_cons_zero, List.getElem?_nil, List.set_cons_succ, List.set_cons_zero, List.filterMap_cons, List.filterMap_nil, if_true, if_false, true_and, and_true, Bool.not_true, Bool.not_false, Bool.true_eq_false, Bool.false_eq_true, decide_true, decide_false, and_self, wipeD, Nm.put, Nm.putL, Option.map_some, Option.some.injEq, exists_eq_left', ite_true, ite_false, reduceIte, Nat.reduceLeDiff, List.drop_zero, capsOf, Option.join_some, RST0, List.length_append, List.length_set, notIn_strs, leave_same]
        simp [h8, nameD, nameB, e]
      · have : ¬ ((x.length : Int) ≤ 8) := by omega
        simp only [this, wp_eCh2, o_mulF, ROPS0, ROPS1, at0I, at1I, at2I, at3I, at4I, decide_eq_true_eq, Int.reduceLT, Int.reduceLE, Int.reducePow, Int.reduceToNat, Int.reduceAdd, Int.reduceMul, Int.reduceSub, Int.reduceNeg, Nat.reduceLT, Nat.reduceLeDiff, RWP0, RWP1, RWP2, RWP3, beg, begF, perm, List.map_cons, List.map_nil, List.length_cons, List.length_nil, List.replicate_succ, List.replicate_zero, Nat.reduceAdd, Nat.reduceSub, Nat.reduceLT, Nat.reduceEqDiff, List.cons_append, List.nil_append, List.append_nil, List.getElem?_cons_succ, List.getElem?_cons_zero, List.getElem?_nil, List.set_cons_succ, List.set_cons_zero, List.filterMap_cons, List.filterMap_nil, if_true, if_false, true_and, and_true, Bool.not_true, Bool.not_false, Bool.true_eq_false, Bool.false_eq_true, decide_true, decide_false, and_self, wipeD, Nm.put, Nm.putL, Option.map_some, Option.some.injEq, exists_eq_left', ite_true, ite_false, reduceIte, Nat.reduceLeDiff, List.drop_zero, capsOf, Option.join_some, RST0, List.length_append, List.length_set, leave_same]
        simp [h8, nameD, nameB, e]
theorem tupOf_ok {n : Nat} (h : Pd d) : mf_is_tuple_of K [d, .int n] st = .ok (.bl (tupNB d n)) st := by
  apply Res.wp_eq
  simp only [mf_is_tuple_of, m_is_tuple_of, wp_eCh2, o_mulF, ROPS0, ROPS1, at0I, at1I, at2I, at3I, at4I, decide_eq_true_eq, Int.reduceLT, Int.reduceLE, Int.reducePow, Int.reduceToNat, Int.reduceAdd, Int.reduceMul, Int.reduceSub, Int.reduceNeg, Nat.reduceLT, Nat.reduceLeDiff, RWP0, RWP1, RWP2, RWP3, beg, begF, perm, List.map_cons, List.map_nil, List.length_cons, List.length_nil, List.replicate_succ, List.replicate_zero, Nat.reduceAdd, Nat.reduceSub, Nat.reduceLT, Nat.reduceEqDiff, List.cons_append, List.nil_append, List.append_nil, List.getElem?_cons_succ, List.getElem?_cons_zero, List.getElem?_nil, List.set_cons_succ, List.set_cons_zero, List.filterMap_cons, List.filterMap_nil, if_true, if_false, true_and, and_true, Bool.not_true, Bool.not_false, Bool.true_eq_false, Bool.false_eq_true, decide_true, decide_false, and_self, wipeD, Nm.put, Nm.putL, Option.map_some, Option.some.injEq, exists_eq_left', ite_true, ite_false, reduceIte, Nat.reduceLeDiff, List.drop_zero, capsOf, Option.join_some, RST0, List.length_append, List.length_set, isi_tup F h]
  obtain ⟨p, h⟩ := h
  cases d <;> first | (cases h; done) | simp only [tupD, tupNB, wp_eCh2, o_mulF, ROPS0, ROPS1, at0I, at1I, at2I, at3I, at4I, decide_eq_true_eq, Int.reduceLT, Int.reduceLE, Int.reducePow, Int.reduceToNat, Int.reduceAdd, Int.reduceMul, Int.reduceSub, Int.reduceNeg, Nat.reduceLT, Nat.reduceLeDiff, RWP0, RWP1, RWP2, RWP3, beg, begF, perm, List.map_cons, List.map_nil, List.length_cons, List.length_nil, List.replicate_succ, List.replicate_zero, Nat.reduceAdd, Nat.reduceSub, Nat.reduceLT, Nat.reduceEqDiff, List.cons_append, List.nil_append, List.append_nil, List.getElem?_cons_succ, List.getElem?_cons_zero, List.getElem?_nil, List.set_cons_succ, List.set_cons_zero, List.filterMap_cons, List.filterMap_nil, if_true, if_false, true_and, and_true, Bool.not_true, Bool.not_false, Bool.true_eq_false, Bool.false_eq_true, decide_true, decide_false, and_self, wipeD, Nm.put, Nm.putL, Option.map_some, Option.some.injEq, exists_eq_left', ite_true, ite_false, reduceIte, Nat.reduceLeDiff, List.drop_zero, capsOf, Option.join_some, RST0, List.length_append, List.length_set, leave_same]
  case tup xs =>
    simp only [Int.natCast_inj]
theorem oneOf_ok {l : List Str} (h : Pd d) : mf_is_one_of K [d, .tup (l.map D.str)] st = .ok (.bl (inB l d)) st := by
  apply Res.wp_eq
  simp only [mf_is_one_of, m_is_one_of, wp_eCh2, o_mulF, ROPS0, ROPS1, at0I, at1I, at2I, at3I, at4I, decide_eq_true_eq, Int.reduceLT, Int.reduceLE, Int.reducePow, Int.reduceToNat, Int.reduceAdd, Int.reduceMul, Int.reduceSub, Int.reduceNeg, Nat.reduceLT, Nat.reduceLeDiff, RWP0, RWP1, RWP2, RWP3, beg, begF, perm, List.map_cons, List.map_nil, List.length_cons, List.length_nil, List.replicate_succ, List.replicate_zero, Nat.reduceAdd, Nat.reduceSub, Nat.reduceLT, Nat.reduceEqDiff, List.cons_append, List.nil_append, List.append_nil, List.getElem?_cons_succ, List.getElem?_cons_zero, List.getElem?_nil, List.set_cons_succ, List.set_cons_zero, List.filterMap_cons, List.filterMap_nil, if_true, if_false, true_and, and_true, Bool.not_true, Bool.not_false, Bool.true_eq_false, Bool.false_eq_true, decide_true, decide_false, and_self, wipeD, Nm.put, Nm.putL, Option.map_some, Option.some.injEq, exists_eq_left', ite_true, ite_false, reduceIte, Nat.reduceLeDiff, List.drop_zero, capsOf, Option.join_some, RST0, List.length_append, List.length_set, isi_str F h]
  obtain ⟨p, h⟩ := h
  cases d <;> first | (cases h; done) | simp only [strD, inB, wp_eCh2, o_mulF, ROPS0, ROPS1, at0I, at1I, at2I, at3I, at4I, decide_eq_true_eq, Int.reduceLT, Int.reduceLE, Int.reducePow, Int.reduceToNat, Int.reduceAdd, Int.reduceMul, Int.reduceSub, Int.reduceNeg, Nat.reduceLT, Nat.reduceLeDiff, RWP0, RWP1, RWP2, RWP3, beg, begF, perm, List.map_cons, List.map_nil, List.length_cons, List.length_nil, List.replicate_succ, List.replicate_zero, Nat.reduceAdd, Nat.reduceSub, Nat.reduceLT, Nat.reduceEqDiff, List.cons_append, List.nil_append, List.append_nil, List.getElem?_cons_succ, List.getElem?_cons_zero, List.getElem?_nil, List.set_cons_succ, List.set_cons_zero, List.filterMap_cons, List.filterMap_nil, if_true, if_false, true_and, and_true, Bool.not_true, Bool.not_false, Bool.true_eq_false, Bool.false_eq_true, decide_true, decide_false, and_self, wipeD, Nm.put, Nm.putL, Option.map_some, Option.some.injEq, exists_eq_left', ite_true, ite_false, reduceIte, Nat.reduceLeDiff, List.drop_zero, capsOf, Option.join_some, RST0, List.length_append, List.length_set, leave_same]
  case str x =>
    simp only [in_strs, RWP0, RWP1, RWP2, RWP3, beg, begF, perm, List.map_cons, List.map_nil, List.length_cons, List.length_nil, List.replicate_succ, List.replicate_zero, Nat.reduceAdd, Nat.reduceSub, Nat.reduceLT, Nat.reduceEqDiff, List.cons_append, List.nil_append, List.append_nil, List.getElem?_cons_succ, List.getElem?_cons_zero, List.getElem?_nil, List.set_cons_succ, List.set_cons_zero, List.filterMap_cons, List.filterMap_nil, if_true, if_false, true_and, and_true, Bool.not_true, Bool.not_false, Bool.true_eq_false, Bool.false_eq_true, decide_true, decide_false, and_self, wipeD, Nm.put, Nm.putL, Option.map_some, Option.some.injEq, exists_eq_left', ite_true, ite_false, reduceIte, Nat.reduceLeDiff, List.drop_zero, capsOf, Option.join_some, RST0, List.length_append, List.length_set, leave_same]
    try rfl
/-! ### the first that is wrong -/
end
/-- an element is wrong where it stands -/
def overB : Option Nat → Nat → Bool
  | some m, i => decide (m ≤ i)
  | none, _ => false
def badAt (most : Option Nat) (f : D → List D → Bool) (xs : List D) (i : Nat) : Bool := overB most i || !f (xs[i]?.getD .non) (xs.take i)
def firstBad (most : Option Nat) (f : D → List D → Bool) (xs : List D) : Option Nat := (List.range xs.length).find? (badAt most f xs)
def badR : Option Nat → D
  | none => .fl []
  | some i => .fl [.int i]
def mostD : Option Nat → D
  | none => .non
  | some m => .int m
theorem find_range {p : Nat → Bool} {n j : Nat} (hj : j < n) (h : ∀ i, i < j → p i = false) (h2 : p j = true) : (List.range n).find? p = some j := by
  rw [List.find?_range_eq_some]
  exact ⟨h2, by simpa using hj, fun i hi => by simp [h i hi]⟩
section
variable {K : PySem.W.Frag} (F : Pf K) {d : D} {st : Store} {g : Addr} {ap : List D → Store → Res D}
include F
theorem wrongAt_no {mD : D} (h : Pd d) (ht : tupD d = false) : mf_wrong_at K g ap [d, mD, .ref g] st = .ok (.fl [.non]) st := by
  apply Res.wp_eq
  simp only [mf_wrong_at, m_wrong_at, wp_eCh2, o_mulF, ROPS0, ROPS1, at0I, at1I, at2I, at3I, at4I, decide_eq_true_eq, Int.reduceLT, Int.reduceLE, Int.reducePow, Int.reduceToNat, Int.reduceAdd, Int.reduceMul, Int.reduceSub, Int.reduceNeg, Nat.reduceLT, Nat.reduceLeDiff, RWP0, RWP1, RWP2, RWP3, beg, begF, perm, List.map_cons, List.map_nil, List.length_cons, List.length_nil, List.replicate_succ, List.replicate_zero, Nat.reduceAdd, Nat.reduceSub, Nat.reduceLT, Nat.reduceEqDiff, List.cons_append, List.nil_append, List.append_nil, List.getElem?_cons_succ, List.getElem?_cons_zero, List.getElem?_nil, List.set_cons_succ, List.set_cons_zero, List.filterMap_cons, List.filterMap_nil, if_true, if_false, true_and, and_true, Bool.not_true, Bool.not_false, Bool.true_eq_false, Bool.false_eq_true, decide_true, decide_false, and_self, wipeD, Nm.put, Nm.putL, Option.map_some, Option.some.injEq, exists_eq_left', ite_true, ite_false, reduceIte, Nat.reduceLeDiff, List.drop_zero, capsOf, Option.join_some, RST0, List.length_append, List.length_set, isi_tup F h, ht]
  simp [leave_same]
theorem wrongAt_ok {most : Option Nat} {xs : List D} {f : D → List D → Bool} (hp : Pd (.tup xs))
    (hf : ∀ i, (hi : i < xs.length) → (∀ j, j < i → badAt most f xs j = false) → (∀ m, most = some m → i < m) → ap [xs[i], .tup (xs.take i)] st = .ok (.bl (f xs[i] (xs.take i))) st) :
    mf_wrong_at K g ap [.tup xs, mostD most, .ref g] st = .ok (badR (firstBad most f xs)) st := by
  apply Res.wp_eq
  simp only [mf_wrong_at, m_wrong_at, wp_eCh2, o_mulF, ROPS0, ROPS1, at0I, at1I, at2I, at3I, at4I, decide_eq_true_eq, Int.reduceLT, Int.reduceLE, Int.reducePow, Int.reduceToNat, Int.reduceAdd, Int.reduceMul, Int.reduceSub, Int.reduceNeg, Nat.reduceLT, Nat.reduceLeDiff, RWP0, RWP1, RWP2, RWP3, beg, begF, perm, List.map_cons, List.map_nil, List.length_cons, List.length_nil, List.replicate_succ, List.replicate_zero, Nat.reduceAdd, Nat.reduceSub, Nat.reduceLT, Nat.reduceEqDiff, List.cons_append, List.nil_append, List.append_nil, List.getElem?_cons_succ, List.getElem?_cons_zero, List.getElem?_nil, List.set_cons_succ, List.set_cons_zero, List.filterMap_cons, List.filterMap_nil, if_true, if_false, true_and, and_true, Bool.not_true, Bool.not_false, Bool.true_eq_false, Bool.false_eq_true, decide_true, decide_false, and_self, wipeD, Nm.put, Nm.putL, Option.map_some, Option.some.injEq, exists_eq_left', ite_true, ite_false, reduceIte, Nat.reduceLeDiff, List.drop_zero, capsOf, Option.join_some, RST0, List.length_append, List.length_set, isi_tup F hp, tupD]
  refine loop_wp (fun j δ st' => st' = st ∧ (∃ o3 o4, δ = [some (.tup xs), some (mostD most), some (.ref g), o3, o4]) ∧ ∀ i, i < j → badAt most f xs i = false) ⟨rfl, ⟨_, _, rfl⟩, fun i hi => absurd hi (by omega)⟩ (fun _ _ _ _ => trivial) ?_ ?_
  · rintro j d δ st' hd ⟨rfl, ⟨o3, o4, rfl⟩, hb⟩
    obtain ⟨x, hx, rfl⟩ := enumD_get _ _ _ _ hd
    obtain ⟨hj, rfl⟩ := List.getElem?_eq_some_iff.mp hx
    have cut : L3.cutD xs none (some ((0 + j : Nat) : Int)) = xs.take j := by rw [Nat.zero_add]; exact cut_to
    have gd : xs[j]?.getD .non = xs[j] := by simp [hj]
    refine ⟨_, by simp only [beg, begF, perm, List.map_cons, List.map_nil, List.length_cons, List.length_nil, List.replicate_succ, List.replicate_zero, Nat.reduceAdd, Nat.reduceSub, Nat.reduceLT, Nat.reduceEqDiff, List.cons_append, List.nil_append, List.append_nil, List.getElem?_cons_succ, List.getElem?_cons_zero, List.getElem?_nil, List.set_cons_succ, List.set_cons_zero, List.filterMap_cons, List.filterMap_nil, if_true, if_false, true_and, and_true, Bool.not_true, Bool.not_false, Bool.true_eq_false, Bool.false_eq_true, decide_true, decide_false, and_self, wipeD, Nm.put, Nm.putL, Option.map_some, Option.some.injEq, exists_eq_left', ite_true, ite_false, reduceIte, Nat.reduceLeDiff, List.drop_zero, capsOf, Option.join_some]; rfl, ?_⟩
    simp only [wp_eCh2, o_mulF, ROPS0, ROPS1, at0I, at1I, at2I, at3I, at4I, decide_eq_true_eq, Int.reduceLT, Int.reduceLE, Int.reducePow, Int.reduceToNat, Int.reduceAdd, Int.reduceMul, Int.reduceSub, Int.reduceNeg, Nat.reduceLT, Nat.reduceLeDiff, RWP0, RWP1, RWP2, RWP3, beg, begF, perm, List.map_cons, List.map_nil, List.length_cons, List.length_nil, List.replicate_succ, List.replicate_zero, Nat.reduceAdd, Nat.reduceSub, Nat.reduceLT, Nat.reduceEqDiff, List.cons_append, List.nil_append, List.append_nil, List.getElem?_cons_succ, List.getElem?_cons_zero, List.getElem?_nil, List.set_cons_succ, List.set_cons_zero, List.filterMap_cons, List.filterMap_nil, if_true, if_false, true_and, and_true, Bool.not_true, Bool.not_false, Bool.true_eq_false, Bool.false_eq_true, decide_true, decide_false, and_self, wipeD, Nm.put, Nm.putL, Option.map_some, Option.some.injEq, exists_eq_left', ite_true, ite_false, reduceIte, Nat.reduceLeDiff, List.drop_zero, capsOf, Option.join_some, RST0, List.length_append, List.length_set]
    have st1 : (∀ m, most = some m → j < m) → ap [xs[j], D.tup (xs.take j)] st' = .ok (.bl (f xs[j] (xs.take j))) st' := hf j hj hb
    have notM : (∀ m, most = some m → j < m) → overB most j = false := fun hm => by
      clear hf hb st1
      cases most with
      | none => rfl
      | some m => have := hm m rfl; simp [overB]; omega
    have nx1 : (∀ m, most = some m → j < m) → f xs[j] (xs.take j) = true → ∀ i, i < j + 1 → badAt most f xs i = false := fun hm e i hi => by
      rcases Nat.lt_succ_iff_lt_or_eq.mp hi with h | rfl
      · exact hb i h
      · unfold badAt; rw [gd, e, notM hm]; rfl
    have rt1 : (overB most j = true ∨ f xs[j] (xs.take j) = false) → firstBad most f xs = some j := fun e => find_range hj hb (by unfold badAt; rw [gd]; rcases e with e | e <;> simp [e])
    clear hf hb
    cases most with
    | none =>
      have hm : ∀ m, (none : Option Nat) = some m → j < m := fun m h => by cases h
      simp only [mostD, wp_eCh2, o_mulF, ROPS0, ROPS1, at0I, at1I, at2I, at3I, at4I, decide_eq_true_eq, Int.reduceLT, Int.reduceLE, Int.reducePow, Int.reduceToNat, Int.reduceAdd, Int.reduceMul, Int.reduceSub, Int.reduceNeg, Nat.reduceLT, Nat.reduceLeDiff, RWP0, RWP1, RWP2, RWP3, beg, begF, perm, List.map_cons, List.map_nil, List.length_cons, List.length_nil, List.replicate_succ, List.replicate_zero, Nat.reduceAdd, Nat.reduceSub, Nat.reduceLT, Nat.reduceEqDiff, List.cons_append, List.nil_append, List.append_nil, List.getElem?_cons_succ, List.getElem?_cons_zero, List.getElem?_nil, List.set_cons_succ, List.set_cons_zero, List.filterMap_cons, List.filterMap_nil, if_true, if_false, true_and, and_true, Bool.not_true, Bool.not_false, Bool.true_eq_false, Bool.false_eq_true, decide_true, decide_false, and_self, wipeD, Nm.put, Nm.putL, Option.map_some, Option.some.injEq, exists_eq_left', ite_true, ite_false, reduceIte, Nat.reduceLeDiff, List.drop_zero, capsOf, Option.join_some, RST0, List.length_append, List.length_set, cut, st1 hm]
      by_cases e : f xs[j] (xs.take j) = true
      · simp only [e, RWP0, RWP1, RWP2, RWP3, beg, begF, perm, List.map_cons, List.map_nil, List.length_cons, List.length_nil, List.replicate_succ, List.replicate_zero, Nat.reduceAdd, Nat.reduceSub, Nat.reduceLT, Nat.reduceEqDiff, List.cons_append, List.nil_append, List.append_nil, List.getElem?_cons_succ, List.getElem?_cons_zero, List.getElem?_nil, List.set_cons_succ, List.set_cons_zero, List.filterMap_cons, List.filterMap_nil, if_true, if_false, true_and, and_true, Bool.not_true, Bool.not_false, Bool.true_eq_false, Bool.false_eq_true, decide_true, decide_false, and_self, wipeD, Nm.put, Nm.putL, Option.map_some, Option.some.injEq, exists_eq_left', ite_true, ite_false, reduceIte, Nat.reduceLeDiff, List.drop_zero, capsOf, Option.join_some, RST0, List.length_append, List.length_set]
        exact tid_same rfl ⟨rfl, ⟨_, _, rfl⟩, nx1 hm e⟩
      · simp [e, rt1 (.inr (by simpa using e)), badR, leave_same]
    | some m =>
      simp only [mostD, wp_eCh2, o_mulF, ROPS0, ROPS1, at0I, at1I, at2I, at3I, at4I, decide_eq_true_eq, Int.reduceLT, Int.reduceLE, Int.reducePow, Int.reduceToNat, Int.reduceAdd, Int.reduceMul, Int.reduceSub, Int.reduceNeg, Nat.reduceLT, Nat.reduceLeDiff, RWP0, RWP1, RWP2, RWP3, beg, begF, perm, List.map_cons, List.map_nil, List.length_cons, List.length_nil, List.replicate_succ, List.replicate_zero, Nat.reduceAdd, Nat.reduceSub, Nat.reduceLT, Nat.reduceEqDiff, List.cons_append, List.nil_append, List.append_nil, List.getElem?_cons_succ, List.getElem?_cons_zero, List.getElem?_nil, List.set_cons_succ, List.set_cons_zero, List.filterMap_cons, List.filterMap_nil, if_true, if_false, true_and, and_true, Bool.not_true, Bool.not_false, Bool.true_eq_false, Bool.false_eq_true, decide_true, decide_false, and_self, wipeD, Nm.put, Nm.putL, Option.map_some, Option.some.injEq, exists_eq_left', ite_true, ite_false, reduceIte, Nat.reduceLeDiff, List.drop_zero, capsOf, Option.join_some, RST0, List.length_append, List.length_set]
      by_cases hm : m ≤ j
      · have : (m : Int) ≤ ((0 + j : Nat) : Int) := by omega
        simp [Nat.not_lt.mpr hm, rt1 (.inl (by simp [overB, hm])), badR, leave_same]
      · have : ¬ (m : Int) ≤ ((0 + j : Nat) : Int) := by omega
        have hm : ∀ m', some m = some m' → j < m' := fun m' h => by cases h; omega
        simp only [this, wp_eCh2, o_mulF, ROPS0, ROPS1, at0I, at1I, at2I, at3I, at4I, decide_eq_true_eq, Int.reduceLT, Int.reduceLE, Int.reducePow, Int.reduceToNat, Int.reduceAdd, Int.reduceMul, Int.reduceSub, Int.reduceNeg, Nat.reduceLT, Nat.reduceLeDiff, RWP0, RWP1, RWP2, RWP3, beg, begF, perm, List.map_cons, List.map_nil, List.length_cons, List.length_nil, List.replicate_succ, List.replicate_zero, Nat.reduceAdd, Nat.reduceSub, Nat.reduceLT, Nat.reduceEqDiff, List.cons_append, List.nil_append, List.append_nil, List.getElem?_cons_succ, List.getElem?_cons_zero, List.getElem?_nil, List.set_cons_succ, List.set_cons_zero, List.filterMap_cons, List.filterMap_nil, if_true, if_false, true_and, and_true, Bool.not_true, Bool.not_false, Bool.true_eq_false, Bool.false_eq_true, decide_true, decide_false, and_self, wipeD, Nm.put, Nm.putL, Option.map_some, Option.some.injEq, exists_eq_left', ite_true, ite_false, reduceIte, Nat.reduceLeDiff, List.drop_zero, capsOf, Option.join_some, RST0, List.length_append, List.length_set, cut, st1 hm]
        by_cases e : f xs[j] (xs.take j) = true
        · simp only [e, RWP0, RWP1, RWP2, RWP3, beg, begF, perm, List.map_cons, List.map_nil, List.length_cons, List.length_nil, List.replicate_succ, List.replicate_zero, Nat.reduceAdd, Nat.reduceSub, Nat.reduceLT, Nat.reduceEqDiff, List.cons_append, List.nil_append, List.append_nil, List.getElem?_cons_succ, List.getElem?_cons_zero, List.getElem?_nil, List.set_cons_succ, List.set_cons_zero, List.filterMap_cons, List.filterMap_nil, if_true, if_false, true_and, and_true, Bool.not_true, Bool.not_false, Bool.true_eq_false, Bool.false_eq_true, decide_true, decide_false, and_self, wipeD, Nm.put, Nm.putL, Option.map_some, Option.some.injEq, exists_eq_left', ite_true, ite_false, reduceIte, Nat.reduceLeDiff, List.drop_zero, capsOf, Option.join_some, RST0, List.length_append, List.length_set]
          exact tid_same rfl ⟨rfl, ⟨_, _, rfl⟩, nx1 hm e⟩
        · simp [e, rt1 (.inr (by simpa using e)), badR, leave_same]
  · rintro δ st' ⟨rfl, ⟨o3, o4, rfl⟩, hb⟩
    rw [enumD_len] at hb
    have fb : firstBad most f xs = none := by
      unfold firstBad
      rw [List.find?_eq_none]
      intro i hi
      rw [hb i (by simpa using hi)]
      simp
    simp only [wp_eCh2, o_mulF, ROPS0, ROPS1, at0I, at1I, at2I, at3I, at4I, decide_eq_true_eq, Int.reduceLT, Int.reduceLE, Int.reducePow, Int.reduceToNat, Int.reduceAdd, Int.reduceMul, Int.reduceSub, Int.reduceNeg, Nat.reduceLT, Nat.reduceLeDiff, RWP0, RWP1, RWP2, RWP3, beg, begF, perm, List.map_cons, List.map_nil, List.length_cons, List.length_nil, List.replicate_succ, List.replicate_zero, Nat.reduceAdd, Nat.reduceSub, Nat.reduceLT, Nat.reduceEqDiff, List.cons_append, List.nil_append, List.append_nil, List.getElem?_cons_succ, List.getElem?_cons_zero, List.getElem?_nil, List.set_cons_succ, List.set_cons_zero, List.filterMap_cons, List.filterMap_nil, if_true, if_false, true_and, and_true, Bool.not_true, Bool.not_false, Bool.true_eq_false, Bool.false_eq_true, decide_true, decide_false, and_self, wipeD, Nm.put, Nm.putL, Option.map_some, Option.some.injEq, exists_eq_left', ite_true, ite_false, reduceIte, Nat.reduceLeDiff, List.drop_zero, capsOf, Option.join_some, RST0, List.length_append, List.length_set]
    simp [fb, badR, leave_same]
theorem wrongOne_ok {most : Option Nat} {xs : List D} {f : D → List D → Bool} {k n : Nat} (hx : DatL k n xs) (hk : k ≤ 63) (h0 : xs ≠ [])
    (hf : ∀ i, (hi : i < xs.length) → (∀ j, j < i → badAt most f xs j = false) → (∀ m, most = some m → i < m) → ap [xs[i], .tup (xs.take i)] st = .ok (.bl (f xs[i] (xs.take i))) st) :
    mf_wrong_from_one K g ap [.tup xs, mostD most, .ref g] st = .ok (badR (firstBad most f xs)) st := by
  have hp : Pd (.tup xs) := Pd.of (Dat.tup hx)
  apply Res.wp_eq
  simp only [mf_wrong_from_one, m_wrong_from_one, wp_eCh2, o_mulF, ROPS0, ROPS1, at0I, at1I, at2I, at3I, at4I, decide_eq_true_eq, Int.reduceLT, Int.reduceLE, Int.reducePow, Int.reduceToNat, Int.reduceAdd, Int.reduceMul, Int.reduceSub, Int.reduceNeg, Nat.reduceLT, Nat.reduceLeDiff, RWP0, RWP1, RWP2, RWP3, beg, begF, perm, List.map_cons, List.map_nil, List.length_cons, List.length_nil, List.replicate_succ, List.replicate_zero, Nat.reduceAdd, Nat.reduceSub, Nat.reduceLT, Nat.reduceEqDiff, List.cons_append, List.nil_append, List.append_nil, List.getElem?_cons_succ, List.getElem?_cons_zero, List.getElem?_nil, List.set_cons_succ, List.set_cons_zero, List.filterMap_cons, List.filterMap_nil, if_true, if_false, true_and, and_true, Bool.not_true, Bool.not_false, Bool.true_eq_false, Bool.false_eq_true, decide_true, decide_false, and_self, wipeD, Nm.put, Nm.putL, Option.map_some, Option.some.injEq, exists_eq_left', ite_true, ite_false, reduceIte, Nat.reduceLeDiff, List.drop_zero, capsOf, Option.join_some, RST0, List.length_append, List.length_set, isi_tup F hp, tupD, o_eq0 hx hk, h0, wrongAt_ok F hp hf]
  simp [leave_same]
theorem wrongOne_nil {mD : D} : mf_wrong_from_one K g ap [.tup [], mD, .ref g] st = .ok (.fl [.non]) st := by
  apply Res.wp_eq
  simp only [mf_wrong_from_one, m_wrong_from_one, wp_eCh2, o_mulF, ROPS0, ROPS1, at0I, at1I, at2I, at3I, at4I, decide_eq_true_eq, Int.reduceLT, Int.reduceLE, Int.reducePow, Int.reduceToNat, Int.reduceAdd, Int.reduceMul, Int.reduceSub, Int.reduceNeg, Nat.reduceLT, Nat.reduceLeDiff, RWP0, RWP1, RWP2, RWP3, beg, begF, perm, List.map_cons, List.map_nil, List.length_cons, List.length_nil, List.replicate_succ, List.replicate_zero, Nat.reduceAdd, Nat.reduceSub, Nat.reduceLT, Nat.reduceEqDiff, List.cons_append, List.nil_append, List.append_nil, List.getElem?_cons_succ, List.getElem?_cons_zero, List.getElem?_nil, List.set_cons_succ, List.set_cons_zero, List.filterMap_cons, List.filterMap_nil, if_true, if_false, true_and, and_true, Bool.not_true, Bool.not_false, Bool.true_eq_false, Bool.false_eq_true, decide_true, decide_false, and_self, wipeD, Nm.put, Nm.putL, Option.map_some, Option.some.injEq, exists_eq_left', ite_true, ite_false, reduceIte, Nat.reduceLeDiff, List.drop_zero, capsOf, Option.join_some, RST0, List.length_append, List.length_set, isi_tup F (show Pd (.tup []) from ⟨.tuple [], rfl⟩), tupD, o_eq0 (DatL.nil (k := 0) (n := 0)) (by decide)]
  simp [leave_same]
theorem wrongOne_no {mD : D} (h : Pd d) (ht : tupD d = false) : mf_wrong_from_one K g ap [d, mD, .ref g] st = .ok (.fl [.non]) st := by
  apply Res.wp_eq
  simp only [mf_wrong_from_one, m_wrong_from_one, wp_eCh2, o_mulF, ROPS0, ROPS1, at0I, at1I, at2I, at3I, at4I, decide_eq_true_eq, Int.reduceLT, Int.reduceLE, Int.reducePow, Int.reduceToNat, Int.reduceAdd, Int.reduceMul, Int.reduceSub, Int.reduceNeg, Nat.reduceLT, Nat.reduceLeDiff, RWP0, RWP1, RWP2, RWP3, beg, begF, perm, List.map_cons, List.map_nil, List.length_cons, List.length_nil, List.replicate_succ, List.replicate_zero, Nat.reduceAdd, Nat.reduceSub, Nat.reduceLT, Nat.reduceEqDiff, List.cons_append, List.nil_append, List.append_nil, List.getElem?_cons_succ, List.getElem?_cons_zero, List.getElem?_nil, List.set_cons_succ, List.set_cons_zero, List.filterMap_cons, List.filterMap_nil, if_true, if_false, true_and, and_true, Bool.not_true, Bool.not_false, Bool.true_eq_false, Bool.false_eq_true, decide_true, decide_false, and_self, wipeD, Nm.put, Nm.putL, Option.map_some, Option.some.injEq, exists_eq_left', ite_true, ite_false, reduceIte, Nat.reduceLeDiff, List.drop_zero, capsOf, Option.join_some, RST0, List.length_append, List.length_set, isi_tup F h, ht, wrongAt_no F h ht]
  simp [leave_same]
end
end K14

/-! ### text P3 -/
namespace K14
open PySem PySem.Spec PyProof.Rows L2 L3
/-- the last one is less, by data -/
def ltLast (before : List D) (each : D) : Bool := match before.getLast? with
  | some l => PySem.W.dataLt (encD l) (encD each)
  | none => true
def leLast (before : List D) (each : D) : Bool := match before.getLast? with
  | some l => !PySem.W.dataLt (encD each) (encD l)
  | none => true
def kf (each : D) (before : List D) : Bool := nameD each && ltLast before each
def sf (ks : List Str) (each : D) (before : List D) : Bool := inB ks each && ltLast before each
/-- what wrong_kinds tells -/
def kindsR (d : D) : D := match d with
  | .tup (x :: xs) => badR (firstBad (some 4) kf (x :: xs))
  | _ => .fl [.non]
def someB (ks : List Str) (d : D) : Bool := match d with
  | .tup (x :: xs) => (firstBad none (sf ks) (x :: xs)).isNone
  | _ => false
theorem lt_strs {a b : Str} {st : Store} : dLtA (.str a) (.str b) st = .ok (.bl (PySem.W.dataLt (encD (.str a)) (encD (.str b)))) st := by
  simp only [L3.encD, toP, Option.getD, PySem.W.dataLt_str]
  rfl
theorem nameD_str {d : D} (h : nameD d = true) : ∃ x, d = .str x := by
  cases d <;> first | exact ⟨_, rfl⟩ | cases h
theorem inB_str {ks : List Str} {d : D} (h : inB ks d = true) : ∃ x, d = .str x := by
  cases d <;> first | exact ⟨_, rfl⟩ | cases h
theorem lastOf {xs : List D} {i : Nat} (h : i < xs.length) (h0 : 0 < i) : (xs.take i).getLast? = some (xs[i - 1]'(by omega)) ∧ atI (xs.take i) (-1) = some (xs[i - 1]'(by omega)) := by
  have hl : (xs.take i).length = i := by simp; omega
  have hne : xs.take i ≠ [] := by intro e; rw [e] at hl; simp at hl; omega
  have e : (xs.take i).getLast hne = xs[i - 1]'(by omega) := by
    rw [List.getLast_eq_getElem, List.getElem_take]
    simp only [hl]
  exact ⟨by rw [List.getLast?_eq_some_getLast hne, e], by rw [atLast hne, e]⟩
theorem badAt_no {most : Option Nat} {f : D → List D → Bool} {xs : List D} {i : Nat} (h : badAt most f xs i = false) (hi : i < xs.length) : f xs[i] (xs.take i) = true := by
  unfold badAt at h
  simp only [Bool.or_eq_false_iff, Bool.not_eq_false'] at h
  have e : xs[i]?.getD .non = xs[i] := by simp [hi]
  rw [e] at h
  exact h.2
theorem take_DatL {k n : Nat} {xs : List D} (h : DatL k n xs) (i : Nat) : DatL k n (xs.take i) := by
  induction xs generalizing n i with
  | nil => simpa using h
  | cons d ds ih =>
    cases i with
    | zero => exact DatL.nil.mono (Nat.le_refl _) (Nat.zero_le _)
    | succ i =>
      obtain ⟨ps, h⟩ := h
      have he := h.e
      simp only [toPs] at he
      split at he
      · rename_i p qs e1 e2
        cases he
        have hc := h.c; have ho := h.o; have hd := h.dp; have hw := h.w
        simp only [PyData.canLayAll0, Bool.and_eq_true] at hc
        simp only [pokL, Bool.and_eq_true] at ho
        simp only [PyData.depthAll] at hd
        simp only [pwL] at hw
        have r := ih (n := pwL qs) ⟨qs, e2, hc.2, ho.2, by omega, Nat.le_refl _⟩ i
        have := DatL.cons (n := pw p) ⟨p, e1, hc.1, ho.1, by omega, Nat.le_refl _⟩ r
        exact this.mono (Nat.le_refl _) (by omega)
      · cases he
section
variable {K : PySem.W.Frag} (F : Pf K) {d : D} {st : Store}
include F
theorem wrongKinds_ok {k n : Nat} (hd : Dat k n d) (hk : k ≤ 60) (hn : n ≤ 1000000) : mf_wrong_kinds K [d] st = .ok (kindsR d) st := by
  apply Res.wp_eq
  have hp : Pd d := .of hd
  simp only [mf_wrong_kinds, m_wrong_kinds, wp_eCh2, o_mulF, ROPS0, ROPS1, at0I, at1I, at2I, at3I, at4I, decide_eq_true_eq, Int.reduceLT, Int.reduceLE, Int.reducePow, Int.reduceToNat, Int.reduceAdd, Int.reduceMul, Int.reduceSub, Int.reduceNeg, Nat.reduceLT, Nat.reduceLeDiff, RWP0, RWP1, RWP2, RWP3, beg, begF, perm, List.map_cons, List.map_nil, List.length_cons, List.length_nil, List.replicate_succ, List.replicate_zero, Nat.reduceAdd, Nat.reduceSub, Nat.reduceLT, Nat.reduceEqDiff, List.cons_append, List.nil_append, List.append_nil, List.getElem?_cons_succ, List.getElem?_cons_zero, List.getElem?_nil, List.set_cons_succ, List.set_cons_zero, List.filterMap_cons, List.filterMap_nil, if_true, if_false, true_and, and_true, Bool.not_true, Bool.not_false, Bool.true_eq_false, Bool.false_eq_true, decide_true, decide_false, and_self, wipeD, Nm.put, Nm.putL, Option.map_some, Option.some.injEq, exists_eq_left', ite_true, ite_false, reduceIte, Nat.reduceLeDiff, List.drop_zero, capsOf, Option.join_some, RST0, List.length_append, List.length_set]
  have key : ∀ f : Addr, (sRet (eCallN (mf_wrong_from_one K) f leave 2 2 [] (sRet (eAndM (eCall1 (mf_is_name K) (aCons (eV 0) (aNil))) (eOrM (e2 dEq (eV 1) (eTup (aNil))) (e2 dLtA (e2 dIx (eV 1) (e1 dNeg (eC (.int 1)))) (eV 0))))) (aCons (eV 0) (aCons (eC (.int 4)) (aCons (eV 1) (aNil)))))) [some d, some (.ref f)] st = .rt (kindsR d) st := fun f => by
    apply SRes.rt_eq
    simp only [wp_eCh2, o_mulF, ROPS0, ROPS1, at0I, at1I, at2I, at3I, at4I, decide_eq_true_eq, Int.reduceLT, Int.reduceLE, Int.reducePow, Int.reduceToNat, Int.reduceAdd, Int.reduceMul, Int.reduceSub, Int.reduceNeg, Nat.reduceLT, Nat.reduceLeDiff, RWP0, RWP1, RWP2, RWP3, beg, begF, perm, List.map_cons, List.map_nil, List.length_cons, List.length_nil, List.replicate_succ, List.replicate_zero, Nat.reduceAdd, Nat.reduceSub, Nat.reduceLT, Nat.reduceEqDiff, List.cons_append, List.nil_append, List.append_nil, List.getElem?_cons_succ, List.getElem?_cons_zero, List.getElem?_nil, List.set_cons_succ, List.set_cons_zero, List.filterMap_cons, List.filterMap_nil, if_true, if_false, true_and, and_true, Bool.not_true, Bool.not_false, Bool.true_eq_false, Bool.false_eq_true, decide_true, decide_false, and_self, wipeD, Nm.put, Nm.putL, Option.map_some, Option.some.injEq, exists_eq_left', ite_true, ite_false, reduceIte, Nat.reduceLeDiff, List.drop_zero, capsOf, Option.join_some, RST0, List.length_append, List.length_set]
    by_cases ht : tupD d = true
    · cases d <;> first | (cases ht; done) | skip
      rename_i xs
      cases xs with
      | nil => rw [wrongOne_nil F]; simp [kindsR]
      | cons x xs =>
        have hx : DatL k n (x :: xs) := by
          obtain ⟨p, h⟩ := hd
          have e := h.e
          simp only [toP, Option.map_eq_some_iff] at e
          obtain ⟨ps, e1, rfl⟩ := e
          have := h.dp; have := h.w
          simp only [PyData.depth] at *
          simp only [pw] at *
          exact ⟨ps, e1, h.c, h.o, by omega, by omega⟩
        rw [show D.int 4 = mostD (some 4) from rfl, wrongOne_ok F (f := kf) hx (by omega) (by simp) (fun i hi hj _ => ?_)]
        · simp [kindsR]
        · apply Res.wp_eq
          have hdi : Dat k n (x :: xs)[i] := hx.mem (List.getElem_mem _)
          have hlen : ∀ z, (x :: xs)[i] = .str z → z.length ≤ 1000000 := fun z e => by rw [e] at hdi; have := hdi.len; omega
          simp only [wp_eCh2, o_mulF, ROPS0, ROPS1, at0I, at1I, at2I, at3I, at4I, decide_eq_true_eq, Int.reduceLT, Int.reduceLE, Int.reducePow, Int.reduceToNat, Int.reduceAdd, Int.reduceMul, Int.reduceSub, Int.reduceNeg, Nat.reduceLT, Nat.reduceLeDiff, RWP0, RWP1, RWP2, RWP3, beg, begF, perm, List.map_cons, List.map_nil, List.length_cons, List.length_nil, List.replicate_succ, List.replicate_zero, Nat.reduceAdd, Nat.reduceSub, Nat.reduceLT, Nat.reduceEqDiff, List.cons_append, List.nil_append, List.append_nil, List.getElem?_cons_succ, List.getElem?_cons_zero, List.getElem?_nil, List.set_cons_succ, List.set_cons_zero, List.filterMap_cons, List.filterMap_nil, if_true, if_false, true_and, and_true, Bool.not_true, Bool.not_false, Bool.true_eq_false, Bool.false_eq_true, decide_true, decide_false, and_self, wipeD, Nm.put, Nm.putL, Option.map_some, Option.some.injEq, exists_eq_left', ite_true, ite_false, reduceIte, Nat.reduceLeDiff, List.drop_zero, capsOf, Option.join_some, RST0, List.length_append, List.length_set, name_ok F (.of hdi) hlen, o_eq0 (take_DatL hx i) (show k ≤ 63 by omega)]
          cases e1 : nameD (x :: xs)[i] with
          | false => simp [kf, e1, leave_same]
          | true =>
            by_cases h0 : i = 0
            · subst h0
              simp [kf, ltLast, e1, leave_same] at e1 ⊢
              try simp [e1]
            · have e2 : (x :: xs).take i ≠ [] := by intro e; have := congrArg List.length e; simp at this; omega
              obtain ⟨l1, l2⟩ := lastOf hi (by omega)
              have g := badAt_no (hj (i - 1) (by omega)) (by omega)
              unfold kf at g
              rw [Bool.and_eq_true] at g
              obtain ⟨a, ea⟩ := nameD_str g.1
              obtain ⟨b, eb⟩ := nameD_str e1
              simp only [e2, wp_eCh2, o_mulF, ROPS0, ROPS1, at0I, at1I, at2I, at3I, at4I, decide_eq_true_eq, Int.reduceLT, Int.reduceLE, Int.reducePow, Int.reduceToNat, Int.reduceAdd, Int.reduceMul, Int.reduceSub, Int.reduceNeg, Nat.reduceLT, Nat.reduceLeDiff, RWP0, RWP1, RWP2, RWP3, beg, begF, perm, List.map_cons, List.map_nil, List.length_cons, List.length_nil, List.replicate_succ, List.replicate_zero, Nat.reduceAdd, Nat.reduceSub, Nat.reduceLT, Nat.reduceEqDiff, List.cons_append, List.nil_append, List.append_nil, List.getElem?_cons_succ, List.getElem?_cons_zero, List.getElem?_nil, List.set_cons_succ, List.set_cons_zero, List.filterMap_cons, List.filterMap_nil, if_true, if_false, true_and, and_true, Bool.not_true, Bool.not_false, Bool.true_eq_false, Bool.false_eq_true, decide_true, decide_false, and_self, wipeD, Nm.put, Nm.putL, Option.map_some, Option.some.injEq, exists_eq_left', ite_true, ite_false, reduceIte, Nat.reduceLeDiff, List.drop_zero, capsOf, Option.join_some, RST0, List.length_append, List.length_set, l2]
              rw [ea, eb, lt_strs]
              simp [kf, ltLast, l1, ea, eb, leave_same]
              simp [← eb, e1]
    · have ht : tupD d = false := by simpa using ht
      rw [wrongOne_no F hp ht]
      cases d <;> first | (cases ht; done) | simp [kindsR]
  rw [sDef_rt key]
  simp [leave_same]
end
end K14

/-! ### text P4 -/
namespace K14
open PySem PySem.Spec PyProof.Rows L2 L3
theorem Dat.untup {k n : Nat} {xs : List D} (h : Dat k n (.tup xs)) : DatL k n xs := by
  obtain ⟨p, h⟩ := h
  have e := h.e
  simp only [toP, Option.map_eq_some_iff] at e
  obtain ⟨ps, e1, rfl⟩ := e
  have a := h.dp; have b := h.w
  simp only [PyData.depth] at a
  simp only [pw] at b
  exact ⟨ps, e1, h.c, h.o, by omega, by omega⟩
/-- a lot -/
def lotB (e : Int) (ks : List Str) (d : D) : Bool := match d with
  | .tup [a, b, c, k] => numB a 0 e && (match a with | .int i => numB b i e | _ => false) && (numB c 1 1000000 && someB ks k)
  | _ => false
def lf (e : Int) (ks : List Str) (each : D) (before : List D) : Bool := lotB e ks each && leLast before each
def lotsR (e : Int) (ks : List Str) (d : D) : D := match d with
  | .tup xs => badR (firstBad (some 12) (lf e ks) xs)
  | _ => .fl [.non]
def lotD (a b c : Int) (ks : List Str) : D := .tup [.int a, .int b, .int c, .tup (ks.map D.str)]
def lotP (a b c : Int) (ks : List Str) : PyData := .tuple [.int a, .int b, .int c, .tuple (ks.map PyData.str)]
theorem toPs_strs : ∀ ks : List Str, toPs (ks.map D.str) = some (ks.map PyData.str)
  | [] => rfl
  | k :: ks => by simp [toPs, toP, toPs_strs ks]
theorem toP_lot (a b c : Int) (ks : List Str) : toP (lotD a b c ks) = some (lotP a b c ks) := by
  simp [lotD, lotP, toP, toPs, toPs_strs]
theorem alike_strs : ∀ as bs : List Str, PySem.W.alikeAll (as.map PyData.str) (bs.map PyData.str) = true
  | [], _ => by simp [PySem.W.alikeAll]
  | _ :: _, [] => by simp [PySem.W.alikeAll]
  | a :: as, b :: bs => by simp [PySem.W.alikeAll, PySem.W.alike, alike_strs as bs]
theorem depth_strs : ∀ as : List Str, PyData.depthAll (as.map PyData.str) = 0
  | [] => rfl
  | a :: as => by simp [PyData.depthAll, PyData.depth, depth_strs as]
theorem ord_lots {a b c a' b' c' : Int} {ks ks' : List Str} : ordOk (lotP a b c ks) (lotP a' b' c' ks') = true := by
  simp [ordOk, lotP, PySem.W.alike, PySem.W.alikeAll, alike_strs, PyData.depth, PyData.depthAll, depth_strs]
theorem le_lots {a b c a' b' c' : Int} {ks ks' : List Str} {st : Store} : dLeA (lotD a b c ks) (lotD a' b' c' ks') st = .ok (.bl (!PySem.W.dataLt (L3.encD (lotD a' b' c' ks')) (L3.encD (lotD a b c ks)))) st := by
  have e1 : L3.encD (lotD a b c ks) = lotP a b c ks := by simp [L3.encD, toP_lot]
  have e2 : L3.encD (lotD a' b' c' ks') = lotP a' b' c' ks' := by simp [L3.encD, toP_lot]
  have h1 : toPd (lotD a b c ks) st = some (lotP a b c ks) := toPd_of (toP_lot ..)
  have h2 : toPd (lotD a' b' c' ks') st = some (lotP a' b' c' ks') := toPd_of (toP_lot ..)
  show dOrd _ _ _ _ _ = _
  unfold dOrd
  rw [h1, h2, e1, e2]
  simp only [lotD, dLe, if_pos ord_lots]
theorem inB_all {ks : List Str} {xs : List D} (h : (firstBad none (sf ks) xs) = none) : ∃ zs : List Str, xs = zs.map D.str ∧ ∀ z ∈ zs, z ∈ ks := by
  have hb : ∀ i, i < xs.length → badAt none (sf ks) xs i = false := fun i hi => by
    unfold firstBad at h
    rw [List.find?_eq_none] at h
    simpa using h i (by simpa using hi)
  have hs : ∀ d ∈ xs, ∃ z, d = .str z ∧ z ∈ ks := fun d hd => by
    obtain ⟨i, hi, rfl⟩ := List.mem_iff_getElem.mp hd
    have g := badAt_no (hb i hi) hi
    unfold sf at g
    rw [Bool.and_eq_true] at g
    obtain ⟨z, ez⟩ := inB_str g.1
    refine ⟨z, ez, ?_⟩
    have := g.1
    rw [ez] at this
    simpa [inB] using this
  clear h hb
  induction xs with
  | nil => exact ⟨[], rfl, by simp⟩
  | cons d ds ih =>
    obtain ⟨z, rfl, hz⟩ := hs d List.mem_cons_self
    obtain ⟨zs, rfl, hzs⟩ := ih fun d hd => hs d (List.mem_cons_of_mem _ hd)
    exact ⟨z :: zs, rfl, by simpa using ⟨hz, hzs⟩⟩
theorem lotB_shape {e : Int} {ks : List Str} {d : D} (h : lotB e ks d = true) : ∃ a b c zs, d = lotD a b c zs ∧ (0 ≤ a ∧ a ≤ e) ∧ (a ≤ b ∧ b ≤ e) ∧ (1 ≤ c ∧ c ≤ 1000000) ∧ zs ≠ [] ∧ (∀ z ∈ zs, z ∈ ks) ∧ someB ks (.tup (zs.map D.str)) = true := by
  unfold lotB at h
  split at h
  · rename_i a b c k
    simp only [Bool.and_eq_true] at h
    obtain ⟨⟨h1, h2⟩, h3, h4⟩ := h
    cases a <;> first | (cases h1; done) | skip
    rename_i a
    cases b <;> first | (cases h2; done) | skip
    rename_i b
    cases c <;> first | (cases h3; done) | skip
    rename_i c
    have h5 := h4
    unfold someB at h4
    split at h4
    · rename_i x xs
      rw [Option.isNone_iff_eq_none] at h4
      obtain ⟨zs, ez, hz⟩ := inB_all h4
      rw [ez] at h5
      refine ⟨a, b, c, zs, by rw [ez]; rfl, by simpa [numB] using h1, by simpa [numB] using h2, by simpa [numB] using h3, ?_, hz, h5⟩
      intro e0; rw [e0] at ez; cases ez
    · cases h4
  · cases h
section
variable {K : PySem.W.Frag} (F : Pf K) {d : D} {st : Store}
include F
theorem someKinds_ok {k n : Nat} {ks : List Str} (hd : Dat k n d) (hk : k ≤ 60) : mf_are_some_kinds K [.tup (ks.map D.str), d] st = .ok (.bl (someB ks d)) st := by
  apply Res.wp_eq
  have hp : Pd d := .of hd
  have eqL : ∀ o : Option Nat, dEq (badR o) (.fl []) st = .ok (.bl o.isNone) st := fun o => by
    have hq : DatP 1 3 (.fl []) (.list []) := ⟨rfl, rfl, rfl, by decide, by decide⟩
    cases o with
    | none => exact o_eqD hq hq (by decide) (by decide)
    | some i =>
      simp only [badR, dEq, toPd, toP, toPs, Option.map_some, SeqAt.shaped, PyData.canLay0, PyData.canLayAll0, PyData.depth, PyData.depthAll]
      rfl
  have eqN : dEq (.fl [.non]) (.fl []) st = .ok (.bl false) st := by
    simp only [dEq, toPd, toP, toPs, Option.map_some, SeqAt.shaped, PyData.canLay0, PyData.canLayAll0, PyData.depth, PyData.depthAll]
    rfl
  simp only [mf_are_some_kinds, m_are_some_kinds, wp_eCh2, o_mulF, ROPS0, ROPS1, at0I, at1I, at2I, at3I, at4I, decide_eq_true_eq, Int.reduceLT, Int.reduceLE, Int.reducePow, Int.reduceToNat, Int.reduceAdd, Int.reduceMul, Int.reduceSub, Int.reduceNeg, Nat.reduceLT, Nat.reduceLeDiff, RWP0, RWP1, RWP2, RWP3, beg, begF, perm, List.map_cons, List.map_nil, List.length_cons, List.length_nil, List.replicate_succ, List.replicate_zero, Nat.reduceAdd, Nat.reduceSub, Nat.reduceLT, Nat.reduceEqDiff, List.cons_append, List.nil_append, List.append_nil, List.getElem?_cons_succ, List.getElem?_cons_zero, List.getElem?_nil, List.set_cons_succ, List.set_cons_zero, List.filterMap_cons, List.filterMap_nil, if_true, if_false, true_and, and_true, Bool.not_true, Bool.not_false, Bool.true_eq_false, Bool.false_eq_true, decide_true, decide_false, and_self, wipeD, Nm.put, Nm.putL, Option.map_some, Option.some.injEq, exists_eq_left', ite_true, ite_false, reduceIte, Nat.reduceLeDiff, List.drop_zero, capsOf, Option.join_some, RST0, List.length_append, List.length_set]
  have key : ∀ f : Addr, (sRet (e2 dEq (eCallN (mf_wrong_from_one K) f leave 3 2 [0] (sRet (eAndM (eCall1 (mf_is_one_of K) (aCons (eV 0) (aCons (eV 2) (aNil)))) (eOrM (e2 dEq (eV 1) (eTup (aNil))) (e2 dLtA (e2 dIx (eV 1) (e1 dNeg (eC (.int 1)))) (eV 0))))) (aCons (eV 1) (aCons (eC .non) (aCons (eV 2) (aNil))))) (eLst (aNil)))) [some (.tup (ks.map D.str)), some d, some (.ref f)] st = .rt (.bl (someB ks d)) st := fun f => by
    apply SRes.rt_eq
    simp only [wp_eCh2, o_mulF, ROPS0, ROPS1, at0I, at1I, at2I, at3I, at4I, decide_eq_true_eq, Int.reduceLT, Int.reduceLE, Int.reducePow, Int.reduceToNat, Int.reduceAdd, Int.reduceMul, Int.reduceSub, Int.reduceNeg, Nat.reduceLT, Nat.reduceLeDiff, RWP0, RWP1, RWP2, RWP3, beg, begF, perm, List.map_cons, List.map_nil, List.length_cons, List.length_nil, List.replicate_succ, List.replicate_zero, Nat.reduceAdd, Nat.reduceSub, Nat.reduceLT, Nat.reduceEqDiff, List.cons_append, List.nil_append, List.append_nil, List.getElem?_cons_succ, List.getElem?_cons_zero, List.getElem?_nil, List.set_cons_succ, List.set_cons_zero, List.filterMap_cons, List.filterMap_nil, if_true, if_false, true_and, and_true, Bool.not_true, Bool.not_false, Bool.true_eq_false, Bool.false_eq_true, decide_true, decide_false, and_self, wipeD, Nm.put, Nm.putL, Option.map_some, Option.some.injEq, exists_eq_left', ite_true, ite_false, reduceIte, Nat.reduceLeDiff, List.drop_zero, capsOf, Option.join_some, RST0, List.length_append, List.length_set]
    by_cases ht : tupD d = true
    · cases d <;> first | (cases ht; done) | skip
      rename_i xs
      cases xs with
      | nil => rw [wrongOne_nil F]; simp only [wp_eCh2, o_mulF, ROPS0, ROPS1, at0I, at1I, at2I, at3I, at4I, decide_eq_true_eq, Int.reduceLT, Int.reduceLE, Int.reducePow, Int.reduceToNat, Int.reduceAdd, Int.reduceMul, Int.reduceSub, Int.reduceNeg, Nat.reduceLT, Nat.reduceLeDiff, RWP0, RWP1, RWP2, RWP3, beg, begF, perm, List.map_cons, List.map_nil, List.length_cons, List.length_nil, List.replicate_succ, List.replicate_zero, Nat.reduceAdd, Nat.reduceSub, Nat.reduceLT, Nat.reduceEqDiff, List.cons_append, List.nil_append, List.append_nil, List.getElem?_cons_succ, List.getElem?_cons_zero, List.getElem?_nil, List.set_cons_succ, List.set_cons_zero, List.filterMap_cons, List.filterMap_nil, if_true, if_false, true_and, and_true, Bool.not_true, Bool.not_false, Bool.true_eq_false, Bool.false_eq_true, decide_true, decide_false, and_self, wipeD, Nm.put, Nm.putL, Option.map_some, Option.some.injEq, exists_eq_left', ite_true, ite_false, reduceIte, Nat.reduceLeDiff, List.drop_zero, capsOf, Option.join_some, RST0, List.length_append, List.length_set, eqN, someB]
      | cons x xs =>
        have hx : DatL k n (x :: xs) := Dat.untup hd
        rw [show D.non = mostD none from rfl, wrongOne_ok F (f := sf ks) hx (by omega) (by simp) (fun i hi hj _ => ?_)]
        · simp only [wp_eCh2, o_mulF, ROPS0, ROPS1, at0I, at1I, at2I, at3I, at4I, decide_eq_true_eq, Int.reduceLT, Int.reduceLE, Int.reducePow, Int.reduceToNat, Int.reduceAdd, Int.reduceMul, Int.reduceSub, Int.reduceNeg, Nat.reduceLT, Nat.reduceLeDiff, RWP0, RWP1, RWP2, RWP3, beg, begF, perm, List.map_cons, List.map_nil, List.length_cons, List.length_nil, List.replicate_succ, List.replicate_zero, Nat.reduceAdd, Nat.reduceSub, Nat.reduceLT, Nat.reduceEqDiff, List.cons_append, List.nil_append, List.append_nil, List.getElem?_cons_succ, List.getElem?_cons_zero, List.getElem?_nil, List.set_cons_succ, List.set_cons_zero, List.filterMap_cons, List.filterMap_nil, if_true, if_false, true_and, and_true, Bool.not_true, Bool.not_false, Bool.true_eq_false, Bool.false_eq_true, decide_true, decide_false, and_self, wipeD, Nm.put, Nm.putL, Option.map_some, Option.some.injEq, exists_eq_left', ite_true, ite_false, reduceIte, Nat.reduceLeDiff, List.drop_zero, capsOf, Option.join_some, RST0, List.length_append, List.length_set, eqL]
          simp [someB]
        · apply Res.wp_eq
          have hdi : Dat k n (x :: xs)[i] := hx.mem (List.getElem_mem _)
          simp only [wp_eCh2, o_mulF, ROPS0, ROPS1, at0I, at1I, at2I, at3I, at4I, decide_eq_true_eq, Int.reduceLT, Int.reduceLE, Int.reducePow, Int.reduceToNat, Int.reduceAdd, Int.reduceMul, Int.reduceSub, Int.reduceNeg, Nat.reduceLT, Nat.reduceLeDiff, RWP0, RWP1, RWP2, RWP3, beg, begF, perm, List.map_cons, List.map_nil, List.length_cons, List.length_nil, List.replicate_succ, List.replicate_zero, Nat.reduceAdd, Nat.reduceSub, Nat.reduceLT, Nat.reduceEqDiff, List.cons_append, List.nil_append, List.append_nil, List.getElem?_cons_succ, List.getElem?_cons_zero, List.getElem?_nil, List.set_cons_succ, List.set_cons_zero, List.filterMap_cons, List.filterMap_nil, if_true, if_false, true_and, and_true, Bool.not_true, Bool.not_false, Bool.true_eq_false, Bool.false_eq_true, decide_true, decide_false, and_self, wipeD, Nm.put, Nm.putL, Option.map_some, Option.some.injEq, exists_eq_left', ite_true, ite_false, reduceIte, Nat.reduceLeDiff, List.drop_zero, capsOf, Option.join_some, RST0, List.length_append, List.length_set, oneOf_ok F (.of hdi), o_eq0 (take_DatL hx i) (show k ≤ 63 by omega)]
          cases e1 : inB ks (x :: xs)[i] with
          | false => simp [sf, e1, leave_same]
          | true =>
            by_cases h0 : i = 0
            · subst h0
              simp [sf, ltLast, e1, leave_same] at e1 ⊢
              try simp [e1]
            · have e2 : (x :: xs).take i ≠ [] := by intro e; have := congrArg List.length e; simp at this; omega
              obtain ⟨l1, l2⟩ := lastOf hi (by omega)
              have g := badAt_no (hj (i - 1) (by omega)) (by omega)
              unfold sf at g
              rw [Bool.and_eq_true] at g
              obtain ⟨a, ea⟩ := inB_str g.1
              obtain ⟨b, eb⟩ := inB_str e1
              simp only [e2, wp_eCh2, o_mulF, ROPS0, ROPS1, at0I, at1I, at2I, at3I, at4I, decide_eq_true_eq, Int.reduceLT, Int.reduceLE, Int.reducePow, Int.reduceToNat, Int.reduceAdd, Int.reduceMul, Int.reduceSub, Int.reduceNeg, Nat.reduceLT, Nat.reduceLeDiff, RWP0, RWP1, RWP2, RWP3, beg, begF, perm, List.map_cons, List.map_nil, List.length_cons, List.length_nil, List.replicate_succ, List.replicate_zero, Nat.reduceAdd, Nat.reduceSub, Nat.reduceLT, Nat.reduceEqDiff, List.cons_append, List.nil_append, List.append_nil, List.getElem?_cons_succ, List.getElem?_cons_zero, List.getElem?_nil, List.set_cons_succ, List.set_cons_zero, List.filterMap_cons, List.filterMap_nil, if_true, if_false, true_and, and_true, Bool.not_true, Bool.not_false, Bool.true_eq_false, Bool.false_eq_true, decide_true, decide_false, and_self, wipeD, Nm.put, Nm.putL, Option.map_some, Option.some.injEq, exists_eq_left', ite_true, ite_false, reduceIte, Nat.reduceLeDiff, List.drop_zero, capsOf, Option.join_some, RST0, List.length_append, List.length_set, l2]
              rw [ea, eb, lt_strs]
              simp [sf, ltLast, l1, ea, eb, leave_same]
              simp [← eb, e1]
    · have ht : tupD d = false := by simpa using ht
      rw [wrongOne_no F hp ht]
      simp only [wp_eCh2, o_mulF, ROPS0, ROPS1, at0I, at1I, at2I, at3I, at4I, decide_eq_true_eq, Int.reduceLT, Int.reduceLE, Int.reducePow, Int.reduceToNat, Int.reduceAdd, Int.reduceMul, Int.reduceSub, Int.reduceNeg, Nat.reduceLT, Nat.reduceLeDiff, RWP0, RWP1, RWP2, RWP3, beg, begF, perm, List.map_cons, List.map_nil, List.length_cons, List.length_nil, List.replicate_succ, List.replicate_zero, Nat.reduceAdd, Nat.reduceSub, Nat.reduceLT, Nat.reduceEqDiff, List.cons_append, List.nil_append, List.append_nil, List.getElem?_cons_succ, List.getElem?_cons_zero, List.getElem?_nil, List.set_cons_succ, List.set_cons_zero, List.filterMap_cons, List.filterMap_nil, if_true, if_false, true_and, and_true, Bool.not_true, Bool.not_false, Bool.true_eq_false, Bool.false_eq_true, decide_true, decide_false, and_self, wipeD, Nm.put, Nm.putL, Option.map_some, Option.some.injEq, exists_eq_left', ite_true, ite_false, reduceIte, Nat.reduceLeDiff, List.drop_zero, capsOf, Option.join_some, RST0, List.length_append, List.length_set, eqN]
      cases d <;> first | (cases ht; done) | simp [someB]
  rw [sDef_rt key]
  simp [leave_same]
theorem lot_ok {k n : Nat} {e : Int} {ks : List Str} (hd : Dat k n d) (hk : k ≤ 60) : mf_is_lot K [.int e, .tup (ks.map D.str), d] st = .ok (.bl (lotB e ks d)) st := by
  apply Res.wp_eq
  simp only [mf_is_lot, m_is_lot, wp_eCh2, o_mulF, ROPS0, ROPS1, at0I, at1I, at2I, at3I, at4I, decide_eq_true_eq, Int.reduceLT, Int.reduceLE, Int.reducePow, Int.reduceToNat, Int.reduceAdd, Int.reduceMul, Int.reduceSub, Int.reduceNeg, Nat.reduceLT, Nat.reduceLeDiff, RWP0, RWP1, RWP2, RWP3, beg, begF, perm, List.map_cons, List.map_nil, List.length_cons, List.length_nil, List.replicate_succ, List.replicate_zero, Nat.reduceAdd, Nat.reduceSub, Nat.reduceLT, Nat.reduceEqDiff, List.cons_append, List.nil_append, List.append_nil, List.getElem?_cons_succ, List.getElem?_cons_zero, List.getElem?_nil, List.set_cons_succ, List.set_cons_zero, List.filterMap_cons, List.filterMap_nil, if_true, if_false, true_and, and_true, Bool.not_true, Bool.not_false, Bool.true_eq_false, Bool.false_eq_true, decide_true, decide_false, and_self, wipeD, Nm.put, Nm.putL, Option.map_some, Option.some.injEq, exists_eq_left', ite_true, ite_false, reduceIte, Nat.reduceLeDiff, List.drop_zero, capsOf, Option.join_some, RST0, List.length_append, List.length_set, show D.int 4 = D.int ((4 : Nat) : Int) from rfl, tupOf_ok F (.of hd)]
  cases d with
  | tup xs =>
    match xs with
    | [a, b, c, q] =>
      have hx := Dat.untup hd
      have ha : Dat k n a := hx.mem (by simp)
      have hb : Dat k n b := hx.mem (by simp)
      have hc : Dat k n c := hx.mem (by simp)
      have hq : Dat k n q := hx.mem (by simp)
      simp only [wp_eCh2, o_mulF, ROPS0, ROPS1, at0I, at1I, at2I, at3I, at4I, decide_eq_true_eq, Int.reduceLT, Int.reduceLE, Int.reducePow, Int.reduceToNat, Int.reduceAdd, Int.reduceMul, Int.reduceSub, Int.reduceNeg, Nat.reduceLT, Nat.reduceLeDiff, RWP0, RWP1, RWP2, RWP3, beg, begF, perm, List.map_cons, List.map_nil, List.length_cons, List.length_nil, List.replicate_succ, List.replicate_zero, Nat.reduceAdd, Nat.reduceSub, Nat.reduceLT, Nat.reduceEqDiff, List.cons_append, List.nil_append, List.append_nil, List.getElem?_cons_succ, List.getElem?_cons_zero, List.getElem?_nil, List.set_cons_succ, List.set_cons_zero, List.filterMap_cons, List.filterMap_nil, if_true, if_false, true_and, and_true, Bool.not_true, Bool.not_false, Bool.true_eq_false, Bool.false_eq_true, decide_true, decide_false, and_self, wipeD, Nm.put, Nm.putL, Option.map_some, Option.some.injEq, exists_eq_left', ite_true, ite_false, reduceIte, Nat.reduceLeDiff, List.drop_zero, capsOf, Option.join_some, RST0, List.length_append, List.length_set, number_ok F (.of ha)]
      cases a <;> first | (simp [lotB, numB, leave_same]; done) | skip
      rename_i i
      by_cases h1 : numB (.int i) 0 e = true
      · simp only [h1, wp_eCh2, o_mulF, ROPS0, ROPS1, at0I, at1I, at2I, at3I, at4I, decide_eq_true_eq, Int.reduceLT, Int.reduceLE, Int.reducePow, Int.reduceToNat, Int.reduceAdd, Int.reduceMul, Int.reduceSub, Int.reduceNeg, Nat.reduceLT, Nat.reduceLeDiff, RWP0, RWP1, RWP2, RWP3, beg, begF, perm, List.map_cons, List.map_nil, List.length_cons, List.length_nil, List.replicate_succ, List.replicate_zero, Nat.reduceAdd, Nat.reduceSub, Nat.reduceLT, Nat.reduceEqDiff, List.cons_append, List.nil_append, List.append_nil, List.getElem?_cons_succ, List.getElem?_cons_zero, List.getElem?_nil, List.set_cons_succ, List.set_cons_zero, List.filterMap_cons, List.filterMap_nil, if_true, if_false, true_and, and_true, Bool.not_true, Bool.not_false, Bool.true_eq_false, Bool.false_eq_true, decide_true, decide_false, and_self, wipeD, Nm.put, Nm.putL, Option.map_some, Option.some.injEq, exists_eq_left', ite_true, ite_false, reduceIte, Nat.reduceLeDiff, List.drop_zero, capsOf, Option.join_some, RST0, List.length_append, List.length_set, number_ok F (.of hb)]
        by_cases h2 : numB b i e = true
        · simp only [h2, wp_eCh2, o_mulF, ROPS0, ROPS1, at0I, at1I, at2I, at3I, at4I, decide_eq_true_eq, Int.reduceLT, Int.reduceLE, Int.reducePow, Int.reduceToNat, Int.reduceAdd, Int.reduceMul, Int.reduceSub, Int.reduceNeg, Nat.reduceLT, Nat.reduceLeDiff, RWP0, RWP1, RWP2, RWP3, beg, begF, perm, List.map_cons, List.map_nil, List.length_cons, List.length_nil, List.replicate_succ, List.replicate_zero, Nat.reduceAdd, Nat.reduceSub, Nat.reduceLT, Nat.reduceEqDiff, List.cons_append, List.nil_append, List.append_nil, List.getElem?_cons_succ, List.getElem?_cons_zero, List.getElem?_nil, List.set_cons_succ, List.set_cons_zero, List.filterMap_cons, List.filterMap_nil, if_true, if_false, true_and, and_true, Bool.not_true, Bool.not_false, Bool.true_eq_false, Bool.false_eq_true, decide_true, decide_false, and_self, wipeD, Nm.put, Nm.putL, Option.map_some, Option.some.injEq, exists_eq_left', ite_true, ite_false, reduceIte, Nat.reduceLeDiff, List.drop_zero, capsOf, Option.join_some, RST0, List.length_append, List.length_set, number_ok F (.of hc)]
          by_cases h3 : numB c 1 1000000 = true
          · simp only [h3, wp_eCh2, o_mulF, ROPS0, ROPS1, at0I, at1I, at2I, at3I, at4I, decide_eq_true_eq, Int.reduceLT, Int.reduceLE, Int.reducePow, Int.reduceToNat, Int.reduceAdd, Int.reduceMul, Int.reduceSub, Int.reduceNeg, Nat.reduceLT, Nat.reduceLeDiff, RWP0, RWP1, RWP2, RWP3, beg, begF, perm, List.map_cons, List.map_nil, List.length_cons, List.length_nil, List.replicate_succ, List.replicate_zero, Nat.reduceAdd, Nat.reduceSub, Nat.reduceLT, Nat.reduceEqDiff, List.cons_append, List.nil_append, List.append_nil, List.getElem?_cons_succ, List.getElem?_cons_zero, List.getElem?_nil, List.set_cons_succ, List.set_cons_zero, List.filterMap_cons, List.filterMap_nil, if_true, if_false, true_and, and_true, Bool.not_true, Bool.not_false, Bool.true_eq_false, Bool.false_eq_true, decide_true, decide_false, and_self, wipeD, Nm.put, Nm.putL, Option.map_some, Option.some.injEq, exists_eq_left', ite_true, ite_false, reduceIte, Nat.reduceLeDiff, List.drop_zero, capsOf, Option.join_some, RST0, List.length_append, List.length_set, someKinds_ok F hq hk]
            simp [tupNB, lotB, h1, h2, h3, leave_same]
          · simp [h3, lotB, h1, h2, leave_same]
        · simp [h2, lotB, h1, leave_same]
      · simp [h1, lotB, leave_same]
    | [] => simp [lotB, tupNB, leave_same]
    | [_] => simp [lotB, tupNB, leave_same]
    | [_, _] => simp [lotB, tupNB, leave_same]
    | [_, _, _] => simp [lotB, tupNB, leave_same]
    | _ :: _ :: _ :: _ :: _ :: _ => simp [lotB, tupNB, leave_same]
  | _ => simp [lotB, tupNB, leave_same]
theorem wrongLots_ok {k n : Nat} {e : Int} {ks : List Str} (hd : Dat k n d) (hk : k ≤ 60) : mf_wrong_lots K [.int e, .tup (ks.map D.str), d] st = .ok (lotsR e ks d) st := by
  apply Res.wp_eq
  have hp : Pd d := .of hd
  simp only [mf_wrong_lots, m_wrong_lots, wp_eCh2, o_mulF, ROPS0, ROPS1, at0I, at1I, at2I, at3I, at4I, decide_eq_true_eq, Int.reduceLT, Int.reduceLE, Int.reducePow, Int.reduceToNat, Int.reduceAdd, Int.reduceMul, Int.reduceSub, Int.reduceNeg, Nat.reduceLT, Nat.reduceLeDiff, RWP0, RWP1, RWP2, RWP3, beg, begF, perm, List.map_cons, List.map_nil, List.length_cons, List.length_nil, List.replicate_succ, List.replicate_zero, Nat.reduceAdd, Nat.reduceSub, Nat.reduceLT, Nat.reduceEqDiff, List.cons_append, List.nil_append, List.append_nil, List.getElem?_cons_succ, List.getElem?_cons_zero, List.getElem?_nil, List.set_cons_succ, List.set_cons_zero, List.filterMap_cons, List.filterMap_nil, if_true, if_false, true_and, and_true, Bool.not_true, Bool.not_false, Bool.true_eq_false, Bool.false_eq_true, decide_true, decide_false, and_self, wipeD, Nm.put, Nm.putL, Option.map_some, Option.some.injEq, exists_eq_left', ite_true, ite_false, reduceIte, Nat.reduceLeDiff, List.drop_zero, capsOf, Option.join_some, RST0, List.length_append, List.length_set]
  have key : ∀ f : Addr, (sRet (eCallN (mf_wrong_at K) f leave 4 2 [0, 1] (sRet (eAndM (eCall1 (mf_is_lot K) (aCons (eV 2) (aCons (eV 3) (aCons (eV 0) (aNil))))) (eOrM (e2 dEq (eV 1) (eTup (aNil))) (e2 dLeA (e2 dIx (eV 1) (e1 dNeg (eC (.int 1)))) (eV 0))))) (aCons (eV 2) (aCons (eC (.int 12)) (aCons (eV 3) (aNil)))))) [some (.int e), some (.tup (ks.map D.str)), some d, some (.ref f)] st = .rt (lotsR e ks d) st := fun f => by
    apply SRes.rt_eq
    simp only [wp_eCh2, o_mulF, ROPS0, ROPS1, at0I, at1I, at2I, at3I, at4I, decide_eq_true_eq, Int.reduceLT, Int.reduceLE, Int.reducePow, Int.reduceToNat, Int.reduceAdd, Int.reduceMul, Int.reduceSub, Int.reduceNeg, Nat.reduceLT, Nat.reduceLeDiff, RWP0, RWP1, RWP2, RWP3, beg, begF, perm, List.map_cons, List.map_nil, List.length_cons, List.length_nil, List.replicate_succ, List.replicate_zero, Nat.reduceAdd, Nat.reduceSub, Nat.reduceLT, Nat.reduceEqDiff, List.cons_append, List.nil_append, List.append_nil, List.getElem?_cons_succ, List.getElem?_cons_zero, List.getElem?_nil, List.set_cons_succ, List.set_cons_zero, List.filterMap_cons, List.filterMap_nil, if_true, if_false, true_and, and_true, Bool.not_true, Bool.not_false, Bool.true_eq_false, Bool.false_eq_true, decide_true, decide_false, and_self, wipeD, Nm.put, Nm.putL, Option.map_some, Option.some.injEq, exists_eq_left', ite_true, ite_false, reduceIte, Nat.reduceLeDiff, List.drop_zero, capsOf, Option.join_some, RST0, List.length_append, List.length_set]
    by_cases ht : tupD d = true
    · cases d <;> first | (cases ht; done) | skip
      rename_i xs
      have hx : DatL k n xs := Dat.untup hd
      rw [show D.int 12 = mostD (some 12) from rfl, wrongAt_ok F (f := lf e ks) hp (fun i hi hj _ => ?_)]
      · simp [lotsR]
      · apply Res.wp_eq
        have hdi : Dat k n xs[i] := hx.mem (List.getElem_mem _)
        simp only [wp_eCh2, o_mulF, ROPS0, ROPS1, at0I, at1I, at2I, at3I, at4I, decide_eq_true_eq, Int.reduceLT, Int.reduceLE, Int.reducePow, Int.reduceToNat, Int.reduceAdd, Int.reduceMul, Int.reduceSub, Int.reduceNeg, Nat.reduceLT, Nat.reduceLeDiff, RWP0, RWP1, RWP2, RWP3, beg, begF, perm, List.map_cons, List.map_nil, List.length_cons, List.length_nil, List.replicate_succ, List.replicate_zero, Nat.reduceAdd, Nat.reduceSub, Nat.reduceLT, Nat.reduceEqDiff, List.cons_append, List.nil_append, List.append_nil, List.getElem?_cons_succ, List.getElem?_cons_zero, List.getElem?_nil, List.set_cons_succ, List.set_cons_zero, List.filterMap_cons, List.filterMap_nil, if_true, if_false, true_and, and_true, Bool.not_true, Bool.not_false, Bool.true_eq_false, Bool.false_eq_true, decide_true, decide_false, and_self, wipeD, Nm.put, Nm.putL, Option.map_some, Option.some.injEq, exists_eq_left', ite_true, ite_false, reduceIte, Nat.reduceLeDiff, List.drop_zero, capsOf, Option.join_some, RST0, List.length_append, List.length_set, lot_ok F hdi hk, o_eq0 (take_DatL hx i) (show k ≤ 63 by omega)]
        cases e1 : lotB e ks xs[i] with
        | false => simp [lf, e1, leave_same]
        | true =>
          by_cases h0 : i = 0
          · subst h0
            simp [lf, leLast, e1, leave_same] at e1 ⊢
            try simp [e1]
          · have e2 : xs.take i ≠ [] := by intro e; have := congrArg List.length e; rw [List.length_take, List.length_nil] at this; omega
            obtain ⟨l1, l2⟩ := lastOf hi (by omega)
            have g := badAt_no (hj (i - 1) (by omega)) (by omega)
            unfold lf at g
            rw [Bool.and_eq_true] at g
            obtain ⟨a, b, c, zs, ea, _⟩ := lotB_shape g.1
            obtain ⟨a', b', c', zs', eb, _⟩ := lotB_shape e1
            simp only [e2, wp_eCh2, o_mulF, ROPS0, ROPS1, at0I, at1I, at2I, at3I, at4I, decide_eq_true_eq, Int.reduceLT, Int.reduceLE, Int.reducePow, Int.reduceToNat, Int.reduceAdd, Int.reduceMul, Int.reduceSub, Int.reduceNeg, Nat.reduceLT, Nat.reduceLeDiff, RWP0, RWP1, RWP2, RWP3, beg, begF, perm, List.map_cons, List.map_nil, List.length_cons, List.length_nil, List.replicate_succ, List.replicate_zero, Nat.reduceAdd, Nat.reduceSub, Nat.reduceLT, Nat.reduceEqDiff, List.cons_append, List.nil_append, List.append_nil, List.getElem?_cons_succ, List.getElem?_cons_zero, List.getElem?_nil, List.set_cons_succ, List.set_cons_zero, List.filterMap_cons, List.filterMap_nil, if_true, if_false, true_and, and_true, Bool.not_true, Bool.not_false, Bool.true_eq_false, Bool.false_eq_true, decide_true, decide_false, and_self, wipeD, Nm.put, Nm.putL, Option.map_some, Option.some.injEq, exists_eq_left', ite_true, ite_false, reduceIte, Nat.reduceLeDiff, List.drop_zero, capsOf, Option.join_some, RST0, List.length_append, List.length_set, l2]
            rw [ea, eb, le_lots]
            simp [lf, leLast, l1, ea, eb, leave_same]
            simp [← eb, e1]
    · have ht : tupD d = false := by simpa using ht
      rw [wrongAt_no F hp ht]
      cases d <;> first | (cases ht; done) | simp [lotsR]
  rw [sDef_rt key]
  simp [leave_same]
end
end K14

/-! ### text P5 -/
namespace K14
open PySem PySem.Spec PyProof.Rows L2 L3
/-! ### houses -/
def unitsOf (ds : List D) : Option Int := (isInts (ds.filterMap fun d => match d with | .tup [_, _, c, _] => some c | _ => none)).map List.sum
def houseD (K : PySem.W.Frag) (e ks ls u : D) : D := .obj (He.ga K "House") ["last", "names", "rows", "units"] [e, ks, ls, u]
/-- lots of ints -/
structure Lot where
  a : Int
  b : Int
  c : Int
  ks : List Str
def Lot.d (l : Lot) : D := lotD l.a l.b l.c l.ks
section
variable {K : PySem.W.Frag} (F : Pf K) {d : D} {st : Store}
include F
theorem units_ok {ls : List Lot} (hl : ls.length ≤ 1000000) : mf_units_of K [.tup (ls.map Lot.d)] st = .ok (.int (ls.map Lot.c).sum) st := by
  apply Res.wp_eq
  simp only [mf_units_of, m_units_of, wp_eCh2, o_mulF, ROPS0, ROPS1, at0I, at1I, at2I, at3I, at4I, decide_eq_true_eq, Int.reduceLT, Int.reduceLE, Int.reducePow, Int.reduceToNat, Int.reduceAdd, Int.reduceMul, Int.reduceSub, Int.reduceNeg, Nat.reduceLT, Nat.reduceLeDiff, RWP0, RWP1, RWP2, RWP3, beg, begF, perm, List.map_cons, List.map_nil, List.length_cons, List.length_nil, List.replicate_succ, List.replicate_zero, Nat.reduceAdd, Nat.reduceSub, Nat.reduceLT, Nat.reduceEqDiff, List.cons_append, List.nil_append, List.append_nil, List.getElem?_cons_succ, List.getElem?_cons_zero, List.getElem?_nil, List.set_cons_succ, List.set_cons_zero, List.filterMap_cons, List.filterMap_nil, if_true, if_false, true_and, and_true, Bool.not_true, Bool.not_false, Bool.true_eq_false, Bool.false_eq_true, decide_true, decide_false, and_self, wipeD, Nm.put, Nm.putL, Option.map_some, Option.some.injEq, exists_eq_left', ite_true, ite_false, reduceIte, Nat.reduceLeDiff, List.drop_zero, capsOf, Option.join_some, RST0, List.length_append, List.length_set]
  refine lc_pure (fun d => match d with | .tup [_, _, c, _] => some c | _ => none) (by simpa using hl) trivial (fun d hd => ?_) ?_
  · obtain ⟨l, _, rfl⟩ := List.mem_map.mp hd
    simp only [Lot.d, lotD, wp_eCh2, o_mulF, ROPS0, ROPS1, at0I, at1I, at2I, at3I, at4I, decide_eq_true_eq, Int.reduceLT, Int.reduceLE, Int.reducePow, Int.reduceToNat, Int.reduceAdd, Int.reduceMul, Int.reduceSub, Int.reduceNeg, Nat.reduceLT, Nat.reduceLeDiff, RWP0, RWP1, RWP2, RWP3, beg, begF, perm, List.map_cons, List.map_nil, List.length_cons, List.length_nil, List.replicate_succ, List.replicate_zero, Nat.reduceAdd, Nat.reduceSub, Nat.reduceLT, Nat.reduceEqDiff, List.cons_append, List.nil_append, List.append_nil, List.getElem?_cons_succ, List.getElem?_cons_zero, List.getElem?_nil, List.set_cons_succ, List.set_cons_zero, List.filterMap_cons, List.filterMap_nil, if_true, if_false, true_and, and_true, Bool.not_true, Bool.not_false, Bool.true_eq_false, Bool.false_eq_true, decide_true, decide_false, and_self, wipeD, Nm.put, Nm.putL, Option.map_some, Option.some.injEq, exists_eq_left', ite_true, ite_false, reduceIte, Nat.reduceLeDiff, List.drop_zero, capsOf, Option.join_some, RST0, List.length_append, List.length_set]
  · have e : (ls.map Lot.d).filterMap (fun d => match d with | .tup [_, _, c, _] => some c | _ => none) = (ls.map Lot.c).map D.int := by
      induction ls with
      | nil => rfl
      | cons l ls ih =>
        have := ih (by simp at hl; omega)
        simp only [List.map_cons, List.filterMap_cons, this, Lot.d, lotD]
    rw [e]
    simp only [bSum, sqOf, lsOf, isInts_map, RWP0, RWP1, RWP2, RWP3, beg, begF, perm, List.map_cons, List.map_nil, List.length_cons, List.length_nil, List.replicate_succ, List.replicate_zero, Nat.reduceAdd, Nat.reduceSub, Nat.reduceLT, Nat.reduceEqDiff, List.cons_append, List.nil_append, List.append_nil, List.getElem?_cons_succ, List.getElem?_cons_zero, List.getElem?_nil, List.set_cons_succ, List.set_cons_zero, List.filterMap_cons, List.filterMap_nil, if_true, if_false, true_and, and_true, Bool.not_true, Bool.not_false, Bool.true_eq_false, Bool.false_eq_true, decide_true, decide_false, and_self, wipeD, Nm.put, Nm.putL, Option.map_some, Option.some.injEq, exists_eq_left', ite_true, ite_false, reduceIte, Nat.reduceLeDiff, List.drop_zero, capsOf, Option.join_some, RST0, List.length_append, List.length_set, leave_same]
theorem init_ok {e k l : D} {C : Addr} {u : Int} (hC : C = He.ga K "House") (hp : Pd e) (he : numB e 0 60 = true) (hk : ∀ st, mf_wrong_kinds K [k] st = .ok (.fl []) st) (hl : ∀ st, mf_wrong_lots K [e, k, l] st = .ok (.fl []) st) (hu : ∀ st, mf_units_of K [l] st = .ok (.int u) st) :
    mf_House___init__ K [.loc st.length, e, k, l] (psh st (.obj C [] [])) = .ok .non (psh st (.obj C ["last", "names", "rows", "units"] [e, k, l, .int u])) := by
  subst hC
  have g : ∀ c : Cell, (psh st c)[st.length]? = some c := fun c => by simp [psh]
  have s1 : ∀ c c' : Cell, (psh st c).set st.length c' = psh st c' := fun c c' => by
    have := setA st [c] 0 c'
    simpa [psh] using this
  apply Res.wp_eq
  simp only [mf_House___init__, m_House___init__, wp_eCh2, o_mulF, ROPS0, ROPS1, at0I, at1I, at2I, at3I, at4I, decide_eq_true_eq, Int.reduceLT, Int.reduceLE, Int.reducePow, Int.reduceToNat, Int.reduceAdd, Int.reduceMul, Int.reduceSub, Int.reduceNeg, Nat.reduceLT, Nat.reduceLeDiff, RWP0, RWP1, RWP2, RWP3, beg, begF, perm, List.map_cons, List.map_nil, List.length_cons, List.length_nil, List.replicate_succ, List.replicate_zero, Nat.reduceAdd, Nat.reduceSub, Nat.reduceLT, Nat.reduceEqDiff, List.cons_append, List.nil_append, List.append_nil, List.getElem?_cons_succ, List.getElem?_cons_zero, List.getElem?_nil, List.set_cons_succ, List.set_cons_zero, List.filterMap_cons, List.filterMap_nil, if_true, if_false, true_and, and_true, Bool.not_true, Bool.not_false, Bool.true_eq_false, Bool.false_eq_true, decide_true, decide_false, and_self, wipeD, Nm.put, Nm.putL, Option.map_some, Option.some.injEq, exists_eq_left', ite_true, ite_false, reduceIte, Nat.reduceLeDiff, List.drop_zero, capsOf, Option.join_some, RST0, List.length_append, List.length_set, number_ok F hp, he, hk, hl, hu, loop_nil, g, s1, putN, keepOf]
  simp [loop_nil, g, s1, putN, keepOf, wp_sFldS, wp_eV, slotP, leave_same, wp_sSeq, wp_sFor, wp_iSeqT, wp_eCall1, wp_aCons, wp_aNil, hl, hu, lsOf, lit_eq]
  rw [leave_same (by simp [psh])]
  exact ⟨rfl, rfl⟩
theorem init_num {o e k l : D} (hp : Pd e) (he : numB e 0 60 = false) : mf_House___init__ K [o, e, k, l] st = .err (He.ga K "InvalidNumber") (some ("given", e)) st := by
  apply Res.wp_er
  simp only [mf_House___init__, m_House___init__, wp_eCh2, o_mulF, ROPS0, ROPS1, at0I, at1I, at2I, at3I, at4I, decide_eq_true_eq, Int.reduceLT, Int.reduceLE, Int.reducePow, Int.reduceToNat, Int.reduceAdd, Int.reduceMul, Int.reduceSub, Int.reduceNeg, Nat.reduceLT, Nat.reduceLeDiff, RWP0, RWP1, RWP2, RWP3, beg, begF, perm, List.map_cons, List.map_nil, List.length_cons, List.length_nil, List.replicate_succ, List.replicate_zero, Nat.reduceAdd, Nat.reduceSub, Nat.reduceLT, Nat.reduceEqDiff, List.cons_append, List.nil_append, List.append_nil, List.getElem?_cons_succ, List.getElem?_cons_zero, List.getElem?_nil, List.set_cons_succ, List.set_cons_zero, List.filterMap_cons, List.filterMap_nil, if_true, if_false, true_and, and_true, Bool.not_true, Bool.not_false, Bool.true_eq_false, Bool.false_eq_true, decide_true, decide_false, and_self, wipeD, Nm.put, Nm.putL, Option.map_some, Option.some.injEq, exists_eq_left', ite_true, ite_false, reduceIte, Nat.reduceLeDiff, List.drop_zero, capsOf, Option.join_some, RST0, List.length_append, List.length_set, number_ok F hp, he, leaveE_same]
theorem init_kinds {o e k l at' : D} (hp : Pd e) (he : numB e 0 60 = true) (hk : mf_wrong_kinds K [k] st = .ok (.fl [at']) st) : mf_House___init__ K [o, e, k, l] st = .err (He.ga K "InvalidKinds") (some ("index", at')) st := by
  apply Res.wp_er
  simp only [mf_House___init__, m_House___init__, wp_eCh2, o_mulF, ROPS0, ROPS1, at0I, at1I, at2I, at3I, at4I, decide_eq_true_eq, Int.reduceLT, Int.reduceLE, Int.reducePow, Int.reduceToNat, Int.reduceAdd, Int.reduceMul, Int.reduceSub, Int.reduceNeg, Nat.reduceLT, Nat.reduceLeDiff, RWP0, RWP1, RWP2, RWP3, beg, begF, perm, List.map_cons, List.map_nil, List.length_cons, List.length_nil, List.replicate_succ, List.replicate_zero, Nat.reduceAdd, Nat.reduceSub, Nat.reduceLT, Nat.reduceEqDiff, List.cons_append, List.nil_append, List.append_nil, List.getElem?_cons_succ, List.getElem?_cons_zero, List.getElem?_nil, List.set_cons_succ, List.set_cons_zero, List.filterMap_cons, List.filterMap_nil, if_true, if_false, true_and, and_true, Bool.not_true, Bool.not_false, Bool.true_eq_false, Bool.false_eq_true, decide_true, decide_false, and_self, wipeD, Nm.put, Nm.putL, Option.map_some, Option.some.injEq, exists_eq_left', ite_true, ite_false, reduceIte, Nat.reduceLeDiff, List.drop_zero, capsOf, Option.join_some, RST0, List.length_append, List.length_set, number_ok F hp, he, hk, lsOf]
  refine loop_one trivial ?_
  simp only [wp_eCh2, o_mulF, ROPS0, ROPS1, at0I, at1I, at2I, at3I, at4I, decide_eq_true_eq, Int.reduceLT, Int.reduceLE, Int.reducePow, Int.reduceToNat, Int.reduceAdd, Int.reduceMul, Int.reduceSub, Int.reduceNeg, Nat.reduceLT, Nat.reduceLeDiff, RWP0, RWP1, RWP2, RWP3, beg, begF, perm, List.map_cons, List.map_nil, List.length_cons, List.length_nil, List.replicate_succ, List.replicate_zero, Nat.reduceAdd, Nat.reduceSub, Nat.reduceLT, Nat.reduceEqDiff, List.cons_append, List.nil_append, List.append_nil, List.getElem?_cons_succ, List.getElem?_cons_zero, List.getElem?_nil, List.set_cons_succ, List.set_cons_zero, List.filterMap_cons, List.filterMap_nil, if_true, if_false, true_and, and_true, Bool.not_true, Bool.not_false, Bool.true_eq_false, Bool.false_eq_true, decide_true, decide_false, and_self, wipeD, Nm.put, Nm.putL, Option.map_some, Option.some.injEq, exists_eq_left', ite_true, ite_false, reduceIte, Nat.reduceLeDiff, List.drop_zero, capsOf, Option.join_some, RST0, List.length_append, List.length_set, leaveE_same]
theorem init_lots {o e k l at' : D} (hp : Pd e) (he : numB e 0 60 = true) (hk : mf_wrong_kinds K [k] st = .ok (.fl []) st) (hl : mf_wrong_lots K [e, k, l] st = .ok (.fl [at']) st) : mf_House___init__ K [o, e, k, l] st = .err (He.ga K "InvalidLots") (some ("index", at')) st := by
  apply Res.wp_er
  simp only [mf_House___init__, m_House___init__, wp_eCh2, o_mulF, ROPS0, ROPS1, at0I, at1I, at2I, at3I, at4I, decide_eq_true_eq, Int.reduceLT, Int.reduceLE, Int.reducePow, Int.reduceToNat, Int.reduceAdd, Int.reduceMul, Int.reduceSub, Int.reduceNeg, Nat.reduceLT, Nat.reduceLeDiff, RWP0, RWP1, RWP2, RWP3, beg, begF, perm, List.map_cons, List.map_nil, List.length_cons, List.length_nil, List.replicate_succ, List.replicate_zero, Nat.reduceAdd, Nat.reduceSub, Nat.reduceLT, Nat.reduceEqDiff, List.cons_append, List.nil_append, List.append_nil, List.getElem?_cons_succ, List.getElem?_cons_zero, List.getElem?_nil, List.set_cons_succ, List.set_cons_zero, List.filterMap_cons, List.filterMap_nil, if_true, if_false, true_and, and_true, Bool.not_true, Bool.not_false, Bool.true_eq_false, Bool.false_eq_true, decide_true, decide_false, and_self, wipeD, Nm.put, Nm.putL, Option.map_some, Option.some.injEq, exists_eq_left', ite_true, ite_false, reduceIte, Nat.reduceLeDiff, List.drop_zero, capsOf, Option.join_some, RST0, List.length_append, List.length_set, number_ok F hp, he, hk, lsOf, loop_nil, keepOf, hl]
  refine loop_one trivial ?_
  simp only [wp_eCh2, o_mulF, ROPS0, ROPS1, at0I, at1I, at2I, at3I, at4I, decide_eq_true_eq, Int.reduceLT, Int.reduceLE, Int.reducePow, Int.reduceToNat, Int.reduceAdd, Int.reduceMul, Int.reduceSub, Int.reduceNeg, Nat.reduceLT, Nat.reduceLeDiff, RWP0, RWP1, RWP2, RWP3, beg, begF, perm, List.map_cons, List.map_nil, List.length_cons, List.length_nil, List.replicate_succ, List.replicate_zero, Nat.reduceAdd, Nat.reduceSub, Nat.reduceLT, Nat.reduceEqDiff, List.cons_append, List.nil_append, List.append_nil, List.getElem?_cons_succ, List.getElem?_cons_zero, List.getElem?_nil, List.set_cons_succ, List.set_cons_zero, List.filterMap_cons, List.filterMap_nil, if_true, if_false, true_and, and_true, Bool.not_true, Bool.not_false, Bool.true_eq_false, Bool.false_eq_true, decide_true, decide_false, and_self, wipeD, Nm.put, Nm.putL, Option.map_some, Option.some.injEq, exists_eq_left', ite_true, ite_false, reduceIte, Nat.reduceLeDiff, List.drop_zero, capsOf, Option.join_some, RST0, List.length_append, List.length_set, leaveE_same]
/-- what a house is made as -/
theorem mk_ok {e k l : D} {u : Int} (hp : Pd e) (he : numB e 0 60 = true) (hk : ∀ st, mf_wrong_kinds K [k] st = .ok (.fl []) st) (hl : ∀ st, mf_wrong_lots K [e, k, l] st = .ok (.fl []) st) (hu : ∀ st, mf_units_of K [l] st = .ok (.int u) st)
    (hs : Cl st) (h1 : Pd k) (h2 : Pd l) {go : D → Store → Res D} (hgo : ∀ d st', go d st' = mf_House___init__ K [d, e, k, l] st') : mkO (He.ga K "House") go st = .ok (houseD K e k l (.int u)) st := by
  unfold mkO
  rw [hgo, show st ++ [Cell.obj (He.ga K "House") [] []] = psh st (.obj (He.ga K "House") [] []) from rfl, init_ok F rfl hp he hk hl hu]
  dsimp only
  unfold psh
  obtain ⟨p, hp⟩ := hp
  obtain ⟨p1, h1⟩ := h1
  obtain ⟨p2, h2⟩ := h2
  refine leave_app hs ?_
  simp [outD, shutL, shut_toP _ _ hp, shut_toP _ _ h1, shut_toP _ _ h2, shut, houseD]
theorem mk_er {e k l : D} {C : Addr} {f : Str} {d : D} {go : D → Store → Res D} (hgo : ∀ d st', go d st' = mf_House___init__ K [d, e, k, l] st') (h : ∀ o st, mf_House___init__ K [o, e, k, l] st = .err C (some (f, d)) st) (hs : Cl st) (hd : Pd d) : mkO (He.ga K "House") go st = .err C (some (f, d)) st := by
  unfold mkO
  rw [hgo, h]
  dsimp only
  obtain ⟨p, hp⟩ := hd
  exact leaveE_app hs (.inr (shut_toP d p hp))
theorem get_end {e k l u : D} : mf_House_end K [houseD K e k l u] st = .ok e st := by
  apply Res.wp_eq
  simp [mf_House_end, m_House_end, wp_eCh2, o_mulF, ROPS0, ROPS1, at0I, at1I, at2I, at3I, at4I, decide_eq_true_eq, Int.reduceLT, Int.reduceLE, Int.reducePow, Int.reduceToNat, Int.reduceAdd, Int.reduceMul, Int.reduceSub, Int.reduceNeg, Nat.reduceLT, Nat.reduceLeDiff, RWP0, RWP1, RWP2, RWP3, beg, begF, perm, List.map_cons, List.map_nil, List.length_cons, List.length_nil, List.replicate_succ, List.replicate_zero, Nat.reduceAdd, Nat.reduceSub, Nat.reduceLT, Nat.reduceEqDiff, List.cons_append, List.nil_append, List.append_nil, List.getElem?_cons_succ, List.getElem?_cons_zero, List.getElem?_nil, List.set_cons_succ, List.set_cons_zero, List.filterMap_cons, List.filterMap_nil, if_true, if_false, true_and, and_true, Bool.not_true, Bool.not_false, Bool.true_eq_false, Bool.false_eq_true, decide_true, decide_false, and_self, wipeD, Nm.put, Nm.putL, Option.map_some, Option.some.injEq, exists_eq_left', ite_true, ite_false, reduceIte, Nat.reduceLeDiff, List.drop_zero, capsOf, Option.join_some, RST0, List.length_append, List.length_set, houseD, objOf, leave_same, lit_beq, List.lookup]
theorem get_kinds {e k l u : D} : mf_House_kinds K [houseD K e k l u] st = .ok k st := by
  apply Res.wp_eq
  simp [mf_House_kinds, m_House_kinds, wp_eCh2, o_mulF, ROPS0, ROPS1, at0I, at1I, at2I, at3I, at4I, decide_eq_true_eq, Int.reduceLT, Int.reduceLE, Int.reducePow, Int.reduceToNat, Int.reduceAdd, Int.reduceMul, Int.reduceSub, Int.reduceNeg, Nat.reduceLT, Nat.reduceLeDiff, RWP0, RWP1, RWP2, RWP3, beg, begF, perm, List.map_cons, List.map_nil, List.length_cons, List.length_nil, List.replicate_succ, List.replicate_zero, Nat.reduceAdd, Nat.reduceSub, Nat.reduceLT, Nat.reduceEqDiff, List.cons_append, List.nil_append, List.append_nil, List.getElem?_cons_succ, List.getElem?_cons_zero, List.getElem?_nil, List.set_cons_succ, List.set_cons_zero, List.filterMap_cons, List.filterMap_nil, if_true, if_false, true_and, and_true, Bool.not_true, Bool.not_false, Bool.true_eq_false, Bool.false_eq_true, decide_true, decide_false, and_self, wipeD, Nm.put, Nm.putL, Option.map_some, Option.some.injEq, exists_eq_left', ite_true, ite_false, reduceIte, Nat.reduceLeDiff, List.drop_zero, capsOf, Option.join_some, RST0, List.length_append, List.length_set, houseD, objOf, leave_same, lit_beq, List.lookup]
theorem get_lots {e k l u : D} : mf_House_lots K [houseD K e k l u] st = .ok l st := by
  apply Res.wp_eq
  simp [mf_House_lots, m_House_lots, wp_eCh2, o_mulF, ROPS0, ROPS1, at0I, at1I, at2I, at3I, at4I, decide_eq_true_eq, Int.reduceLT, Int.reduceLE, Int.reducePow, Int.reduceToNat, Int.reduceAdd, Int.reduceMul, Int.reduceSub, Int.reduceNeg, Nat.reduceLT, Nat.reduceLeDiff, RWP0, RWP1, RWP2, RWP3, beg, begF, perm, List.map_cons, List.map_nil, List.length_cons, List.length_nil, List.replicate_succ, List.replicate_zero, Nat.reduceAdd, Nat.reduceSub, Nat.reduceLT, Nat.reduceEqDiff, List.cons_append, List.nil_append, List.append_nil, List.getElem?_cons_succ, List.getElem?_cons_zero, List.getElem?_nil, List.set_cons_succ, List.set_cons_zero, List.filterMap_cons, List.filterMap_nil, if_true, if_false, true_and, and_true, Bool.not_true, Bool.not_false, Bool.true_eq_false, Bool.false_eq_true, decide_true, decide_false, and_self, wipeD, Nm.put, Nm.putL, Option.map_some, Option.some.injEq, exists_eq_left', ite_true, ite_false, reduceIte, Nat.reduceLeDiff, List.drop_zero, capsOf, Option.join_some, RST0, List.length_append, List.length_set, houseD, objOf, leave_same, lit_beq, List.lookup]
theorem get_whole {e k l u : D} : mf_House_whole K [houseD K e k l u] st = .ok u st := by
  apply Res.wp_eq
  simp [mf_House_whole, m_House_whole, wp_eCh2, o_mulF, ROPS0, ROPS1, at0I, at1I, at2I, at3I, at4I, decide_eq_true_eq, Int.reduceLT, Int.reduceLE, Int.reducePow, Int.reduceToNat, Int.reduceAdd, Int.reduceMul, Int.reduceSub, Int.reduceNeg, Nat.reduceLT, Nat.reduceLeDiff, RWP0, RWP1, RWP2, RWP3, beg, begF, perm, List.map_cons, List.map_nil, List.length_cons, List.length_nil, List.replicate_succ, List.replicate_zero, Nat.reduceAdd, Nat.reduceSub, Nat.reduceLT, Nat.reduceEqDiff, List.cons_append, List.nil_append, List.append_nil, List.getElem?_cons_succ, List.getElem?_cons_zero, List.getElem?_nil, List.set_cons_succ, List.set_cons_zero, List.filterMap_cons, List.filterMap_nil, if_true, if_false, true_and, and_true, Bool.not_true, Bool.not_false, Bool.true_eq_false, Bool.false_eq_true, decide_true, decide_false, and_self, wipeD, Nm.put, Nm.putL, Option.map_some, Option.some.injEq, exists_eq_left', ite_true, ite_false, reduceIte, Nat.reduceLeDiff, List.drop_zero, capsOf, Option.join_some, RST0, List.length_append, List.length_set, houseD, objOf, leave_same, lit_beq, List.lookup]
theorem get_parts {e k l u : D} : mf_House_parts K [houseD K e k l u] st = .ok (.tup [e, k, l]) st := by
  apply Res.wp_eq
  simp [mf_House_parts, m_House_parts, wp_eCh2, o_mulF, ROPS0, ROPS1, at0I, at1I, at2I, at3I, at4I, decide_eq_true_eq, Int.reduceLT, Int.reduceLE, Int.reducePow, Int.reduceToNat, Int.reduceAdd, Int.reduceMul, Int.reduceSub, Int.reduceNeg, Nat.reduceLT, Nat.reduceLeDiff, RWP0, RWP1, RWP2, RWP3, beg, begF, perm, List.map_cons, List.map_nil, List.length_cons, List.length_nil, List.replicate_succ, List.replicate_zero, Nat.reduceAdd, Nat.reduceSub, Nat.reduceLT, Nat.reduceEqDiff, List.cons_append, List.nil_append, List.append_nil, List.getElem?_cons_succ, List.getElem?_cons_zero, List.getElem?_nil, List.set_cons_succ, List.set_cons_zero, List.filterMap_cons, List.filterMap_nil, if_true, if_false, true_and, and_true, Bool.not_true, Bool.not_false, Bool.true_eq_false, Bool.false_eq_true, decide_true, decide_false, and_self, wipeD, Nm.put, Nm.putL, Option.map_some, Option.some.injEq, exists_eq_left', ite_true, ite_false, reduceIte, Nat.reduceLeDiff, List.drop_zero, capsOf, Option.join_some, RST0, List.length_append, List.length_set, houseD, objOf, leave_same, lit_beq, List.lookup]
end
end K14

/-! ### text F1b -/
namespace K14
open PySem PySem.Spec PyProof.Rows L2 L3
theorem shutL_sub {n : Nat} : ∀ {xs ys : List D}, ys.Sublist xs → shutL n xs = true → shutL n ys = true := by
  intro xs ys h
  induction h with
  | slnil => exact id
  | cons a _ ih => intro z; rw [shutL, Bool.and_eq_true] at z; exact ih z.2
  | cons_cons a _ ih => intro z; rw [shutL, Bool.and_eq_true] at z ⊢; exact ⟨z.1, ih z.2⟩
section
variable {K : PySem.W.Frag}
theorem unlike_dr {n : Nat} {d : D} {m : Int} {xs : List D} (hL : ∀ (st : Store) (X : XP) (Q : D → Store → Prop), (bListA [d] st).wp X Q = Q (.loc st.length) (psh st (.lst xs))) (hlen : ∀ st, bLen [d] st = .ok (.int xs.length) st)
    (h0 : 0 ≤ m) (h1 : m ≤ xs.length) (h2 : xs.length ≤ 1000000) (h3 : shutL 0 xs = true) : Draws n (mf__law_unlike K [.loc n, d, .int m]) (fun v => ∃ ys, v = .fl ys ∧ ys.Sublist xs ∧ ys.length = m) := by
  intro s w X Q hs hn k
  simp only [mf__law_unlike, m__law_unlike, wp_eCh2, o_mulF, ROPS0, ROPS1, at0I, at1I, at2I, at3I, at4I, decide_eq_true_eq, Int.reduceLT, Int.reduceLE, Int.reducePow, Int.reduceToNat, Int.reduceAdd, Int.reduceMul, Int.reduceSub, Int.reduceNeg, Nat.reduceLT, Nat.reduceLeDiff, RWP0, RWP1, RWP2, RWP3, beg, begF, perm, List.map_cons, List.map_nil, List.length_cons, List.length_nil, List.replicate_succ, List.replicate_zero, Nat.reduceAdd, Nat.reduceSub, Nat.reduceLT, Nat.reduceEqDiff, List.cons_append, List.nil_append, List.append_nil, List.getElem?_cons_succ, List.getElem?_cons_zero, List.getElem?_nil, List.set_cons_succ, List.set_cons_zero, List.filterMap_cons, List.filterMap_nil, if_true, if_false, true_and, and_true, Bool.not_true, Bool.not_false, Bool.true_eq_false, Bool.false_eq_true, decide_true, decide_false, and_self, wipeD, Nm.put, Nm.putL, Option.map_some, Option.some.injEq, exists_eq_left', ite_true, ite_false, reduceIte, Nat.reduceLeDiff, List.drop_zero, capsOf, Option.join_some, RST0, List.length_append, List.length_set, hL, hlen]
  refine ⟨by omega, ?_⟩
  refine loop_wp (fun j δ st => ∃ w cur o4, δ = [some (.loc n), some d, some (.int m), some (.loc (s.length + 0)), o4] ∧ st = wst s n w [.lst cur] ∧ cur.Sublist xs ∧ cur.length + j = xs.length) ?_ (fun _ _ _ _ => trivial) ?_ ?_
  · exact ⟨w, xs, none, by simp, rfl, List.Sublist.refl _, rfl⟩
  · rintro j x δ st hj ⟨w, cur, o4, rfl, rfl, hsub, hl⟩
    have hjl : j < (((xs.length : Int) - m).toNat) := by
      have := (List.getElem?_eq_some_iff.mp hj).1
      simpa [rangeD] using this
    have e0 : (wst s n w [.lst cur])[s.length + 0]? = some (.lst cur) := by rw [wst_k]; rfl
    refine ⟨_, by simp only [beg, begF, perm, List.map_cons, List.map_nil, List.length_cons, List.length_nil, List.replicate_succ, List.replicate_zero, Nat.reduceAdd, Nat.reduceSub, Nat.reduceLT, Nat.reduceEqDiff, List.cons_append, List.nil_append, List.append_nil, List.getElem?_cons_succ, List.getElem?_cons_zero, List.getElem?_nil, List.set_cons_succ, List.set_cons_zero, List.filterMap_cons, List.filterMap_nil, if_true, if_false, true_and, and_true, Bool.not_true, Bool.not_false, Bool.true_eq_false, Bool.false_eq_true, decide_true, decide_false, and_self, wipeD, Nm.put, Nm.putL, Option.map_some, Option.some.injEq, exists_eq_left', ite_true, ite_false, reduceIte, Nat.reduceLeDiff, List.drop_zero, capsOf, Option.join_some]; rfl, ?_⟩
    simp only [wp_eCh2, o_mulF, ROPS0, ROPS1, at0I, at1I, at2I, at3I, at4I, decide_eq_true_eq, Int.reduceLT, Int.reduceLE, Int.reducePow, Int.reduceToNat, Int.reduceAdd, Int.reduceMul, Int.reduceSub, Int.reduceNeg, Nat.reduceLT, Nat.reduceLeDiff, RWP0, RWP1, RWP2, RWP3, beg, begF, perm, List.map_cons, List.map_nil, List.length_cons, List.length_nil, List.replicate_succ, List.replicate_zero, Nat.reduceAdd, Nat.reduceSub, Nat.reduceLT, Nat.reduceEqDiff, List.cons_append, List.nil_append, List.append_nil, List.getElem?_cons_succ, List.getElem?_cons_zero, List.getElem?_nil, List.set_cons_succ, List.set_cons_zero, List.filterMap_cons, List.filterMap_nil, if_true, if_false, true_and, and_true, Bool.not_true, Bool.not_false, Bool.true_eq_false, Bool.false_eq_true, decide_true, decide_false, and_self, wipeD, Nm.put, Nm.putL, Option.map_some, Option.some.injEq, exists_eq_left', ite_true, ite_false, reduceIte, Nat.reduceLeDiff, List.drop_zero, capsOf, Option.join_some, RST0, List.length_append, List.length_set, o_isLs e0, o_lenL e0]
    refine (draw_dr (by omega) (by omega)).use hs (t := [.lst cur]) (by simp [L3.Cl, shutC, shutL_sub hsub h3]) hn ?_
    rintro v w' ⟨i, rfl, a, b⟩
    have e1 : (wst s n w' [.lst cur])[s.length + 0]? = some (.lst cur) := by rw [wst_k]; rfl
    simp only [RWP0, RWP1, RWP2, RWP3, beg, begF, perm, List.map_cons, List.map_nil, List.length_cons, List.length_nil, List.replicate_succ, List.replicate_zero, Nat.reduceAdd, Nat.reduceSub, Nat.reduceLT, Nat.reduceEqDiff, List.cons_append, List.nil_append, List.append_nil, List.getElem?_cons_succ, List.getElem?_cons_zero, List.getElem?_nil, List.set_cons_succ, List.set_cons_zero, List.filterMap_cons, List.filterMap_nil, if_true, if_false, true_and, and_true, Bool.not_true, Bool.not_false, Bool.true_eq_false, Bool.false_eq_true, decide_true, decide_false, and_self, wipeD, Nm.put, Nm.putL, Option.map_some, Option.some.injEq, exists_eq_left', ite_true, ite_false, reduceIte, Nat.reduceLeDiff, List.drop_zero, capsOf, Option.join_some, RST0, List.length_append, List.length_set]
    rw [wp_popAt e1 (by omega) a b]
    refine tid_same (by simp only [RWP0, RWP1, RWP2, RWP3, beg, begF, perm, List.map_cons, List.map_nil, List.length_cons, List.length_nil, List.replicate_succ, List.replicate_zero, Nat.reduceAdd, Nat.reduceSub, Nat.reduceLT, Nat.reduceEqDiff, List.cons_append, List.nil_append, List.append_nil, List.getElem?_cons_succ, List.getElem?_cons_zero, List.getElem?_nil, List.set_cons_succ, List.set_cons_zero, List.filterMap_cons, List.filterMap_nil, if_true, if_false, true_and, and_true, Bool.not_true, Bool.not_false, Bool.true_eq_false, Bool.false_eq_true, decide_true, decide_false, and_self, wipeD, Nm.put, Nm.putL, Option.map_some, Option.some.injEq, exists_eq_left', ite_true, ite_false, reduceIte, Nat.reduceLeDiff, List.drop_zero, capsOf, Option.join_some, RST0, List.length_append, List.length_set]) ⟨w', cur.eraseIdx i.toNat, _, rfl, by rw [wst_setk]; rfl, (List.eraseIdx_sublist _ _).trans hsub, ?_⟩
    rw [List.length_eraseIdx, if_pos (by omega)]; omega
  · rintro δ st ⟨w', cur, o4, rfl, rfl, hsub, hl⟩
    simp only [RWP0, RWP1, RWP2, RWP3, beg, begF, perm, List.map_cons, List.map_nil, List.length_cons, List.length_nil, List.replicate_succ, List.replicate_zero, Nat.reduceAdd, Nat.reduceSub, Nat.reduceLT, Nat.reduceEqDiff, List.cons_append, List.nil_append, List.append_nil, List.getElem?_cons_succ, List.getElem?_cons_zero, List.getElem?_nil, List.set_cons_succ, List.set_cons_zero, List.filterMap_cons, List.filterMap_nil, if_true, if_false, true_and, and_true, Bool.not_true, Bool.not_false, Bool.true_eq_false, Bool.false_eq_true, decide_true, decide_false, and_self, wipeD, Nm.put, Nm.putL, Option.map_some, Option.some.injEq, exists_eq_left', ite_true, ite_false, reduceIte, Nat.reduceLeDiff, List.drop_zero, capsOf, Option.join_some, RST0, List.length_append, List.length_set]
    have hl2 : cur.length = m := by simp [rangeD] at hl; omega
    refine leave_wst (x := .fl cur) hs ?_ (k _ _ ⟨cur, rfl, hsub, hl2⟩)
    simp [outD, shutL_mono (Nat.zero_le _) _ (shutL_sub hsub h3)]
end
/-! ### names -/
theorem letB_ok {c : Nat} (h : 97 ≤ c ∧ c ≤ 122) : letB c = true := by
  have : ∀ c, c < 123 → 97 ≤ c → letB c = true := by decide +kernel
  exact this c (by omega) h.1
/-- a text of small letters that begins with c -/
structure NmC (c m : Nat) (x : Str) : Prop where
  hd : x.cps.toList.head? = some c
  al : ∀ a ∈ x.cps.toList, 97 ≤ a ∧ a ≤ 122
  le : x.length ≤ m
theorem len_cps (x : Str) : x.length = x.cps.toList.length := by rw [Array.length_toList]; rfl
theorem NmC.word {c m : Nat} {x : Str} (h : NmC c m x) : wordB x = true := by
  unfold wordB
  rw [Bool.and_eq_true, List.all_eq_true]
  refine ⟨?_, fun a ha => letB_ok (h.al a ha)⟩
  have : x ≠ Str.ofString "" := fun e => by
    have := h.hd; rw [e] at this
    have e0 : (Str.ofString "").cps.toList.head? = none := by decide +kernel
    rw [e0] at this; cases this
  simp [this]
theorem NmC.ok {c m : Nat} {x : Str} (h : NmC c m x) : StrOk x := by
  unfold StrOk PyData.strOk
  rw [← Array.all_toList, List.all_eq_true]
  exact fun a ha => decide_eq_true (by have := h.al a ha; omega)
theorem strApp_cps (a b : Str) : (a ++ b).cps.toList = a.cps.toList ++ b.cps.toList := by
  show (a.cps ++ b.cps).toList = _
  simp
theorem NmC.app {c m a : Nat} {x : Str} (h : NmC c m x) (ha : 97 ≤ a ∧ a ≤ 122) : NmC c (m + 1) (x ++ ⟨#[a]⟩) := by
  have e : (x ++ (⟨#[a]⟩ : Str)).cps.toList = x.cps.toList ++ [a] := by rw [strApp_cps]
  refine ⟨?_, fun b hb => ?_, ?_⟩
  · rw [e, List.head?_append, h.hd]; rfl
  · rw [e, List.mem_append, List.mem_singleton] at hb
    rcases hb with hb | rfl
    · exact h.al b hb
    · exact ha
  · have := h.le; rw [len_cps] at this; rw [len_cps, e, List.length_append]; simpa using this
theorem NmC.cut {c m : Nat} {x : Str} (h : NmC c m x) : NmC c 8 (cutS x none (some 7) ++ Str.ofString "q") := by
  have e : (cutS x none (some 7)).cps.toList = x.cps.toList.take 7 := by
    simp only [cutS, HT.sIx, len_cps]
    simp
  have hne : 0 < x.cps.toList.length := by
    cases q : x.cps.toList with
    | nil => have := h.hd; rw [q] at this; cases this
    | cons a l => simp
  have e2 : (cutS x none (some 7) ++ Str.ofString "q").cps.toList = x.cps.toList.take 7 ++ [113] := by
    rw [strApp_cps, e]; rfl
  refine ⟨?_, fun b hb => ?_, ?_⟩
  · rw [e2, List.head?_append, List.head?_take, if_neg (by decide), h.hd]; rfl
  · rw [e2, List.mem_append, List.mem_singleton] at hb
    rcases hb with hb | rfl
    · exact h.al b (List.mem_of_mem_take hb)
    · decide
  · rw [len_cps, e2, List.length_append, List.length_take]; simp; omega
theorem q_notWord (l : List Nat) : ∀ x : Str, x.cps.toList = l ++ [113] → x ∉ wordsL := by
  intro x h hm
  have : x.cps.toList.getLast? = some 113 := by rw [h]; simp
  have all : ∀ y ∈ wordsL, y.cps.toList.getLast? ≠ some 113 := by decide +kernel
  exact all x hm this
theorem NmC.cutName {c m : Nat} {x : Str} (h : NmC c m x) : nameB (cutS x none (some 7) ++ Str.ofString "q") = true := by
  have h2 := h.cut
  have e2 : (cutS x none (some 7) ++ Str.ofString "q").cps.toList = (cutS x none (some 7)).cps.toList ++ [113] := by rw [strApp_cps]; rfl
  simp [nameB, h2.word, h2.le, q_notWord _ _ e2]
/-- names in order -/
def NmL (xs : List Str) : Prop := (∀ x ∈ xs, nameB x = true ∧ (StrOk x ∧ x.length ≤ 8) ∧ x.cps.toList.head? ≠ some 122) ∧ xs.Pairwise fun a b => a.cps.toList < b.cps.toList
theorem lt_heads {a b : Str} {c d : Nat} (ha : a.cps.toList.head? = some c) (hb : b.cps.toList.head? = some d) (h : c < d) : a.cps.toList < b.cps.toList := by
  cases p : a.cps.toList with
  | nil => rw [p] at ha; cases ha
  | cons x l =>
    cases q : b.cps.toList with
    | nil => rw [q] at hb; cases hb
    | cons y r =>
      rw [p] at ha; rw [q] at hb
      cases ha; cases hb
      exact List.Lex.rel h
end K14

/-! ### text F1c -/
namespace K14
open PySem PySem.Spec PyProof.Rows L2 L3
def lettersS : Str := Str.ofString "abcdefghijklmnopqrstuvwxyz"
theorem letters_cps : lettersS.cps.toList = List.range' 97 26 := by decide +kernel
theorem letters_at {i : Int} (h0 : 0 ≤ i) (h1 : i < 26) : ∃ c, (97 ≤ c ∧ c ≤ 122) ∧ ∀ st : Store, dIx (.str lettersS) (.int i) st = .ok (.str ⟨#[c]⟩) st := by
  refine ⟨97 + i.toNat, by omega, fun st => ?_⟩
  have e : atI lettersS.cps.toList i = some (97 + i.toNat) := by
    rw [letters_cps, atZ h0 (by simp; omega)]
    simp
  have hl : lettersS.length ≤ 1000000 := by rw [len_cps, letters_cps]; simp
  simp only [dIx, if_pos hl, e]
theorem letters_cut : cutS lettersS none (some 25) = Str.ofString "abcdefghijklmnopqrstuvwxy" := by decide +kernel
theorem cut_cps : (Str.ofString "abcdefghijklmnopqrstuvwxy").cps.toList = List.range' 97 25 := by decide +kernel
section
variable {K : PySem.W.Frag}
theorem words_ok {st : Store} (hs : L3.Cl st) : mf__law_words K [] st = .ok (.fl (wordsL.map D.str)) st := by
  apply Res.wp_eq
  simp only [mf__law_words, m__law_words, wp_eCh2, o_mulF, ROPS0, ROPS1, at0I, at1I, at2I, at3I, at4I, decide_eq_true_eq, Int.reduceLT, Int.reduceLE, Int.reducePow, Int.reduceToNat, Int.reduceAdd, Int.reduceMul, Int.reduceSub, Int.reduceNeg, Nat.reduceLT, Nat.reduceLeDiff, RWP0, RWP1, RWP2, RWP3, beg, begF, perm, List.map_cons, List.map_nil, List.length_cons, List.length_nil, List.replicate_succ, List.replicate_zero, Nat.reduceAdd, Nat.reduceSub, Nat.reduceLT, Nat.reduceEqDiff, List.cons_append, List.nil_append, List.append_nil, List.getElem?_cons_succ, List.getElem?_cons_zero, List.getElem?_nil, List.set_cons_succ, List.set_cons_zero, List.filterMap_cons, List.filterMap_nil, if_true, if_false, true_and, and_true, Bool.not_true, Bool.not_false, Bool.true_eq_false, Bool.false_eq_true, decide_true, decide_false, and_self, wipeD, Nm.put, Nm.putL, Option.map_some, Option.some.injEq, exists_eq_left', ite_true, ite_false, reduceIte, Nat.reduceLeDiff, List.drop_zero, capsOf, Option.join_some, RST0, List.length_append, List.length_set, o_addF, leave_same]
  rfl
/-- the turns of a name -/
theorem name_turns {n : Nat} {s : Store} {t : Store} {w : W3} {k : Int} {c : Nat} {δ0 δ1 δ2 δ3 δ4 : Option D} {nx : Sl → Store → Prop} {rt : D → Store → Prop} {bk ct : Sl → Store → Prop} {er : Addr → Option (Str × D) → Sl → Store → Prop} (hs : L3.Cl s) (ht : L3.Cl t) (hn : n < s.length) (hk : 0 ≤ k ∧ k ≤ 7) (hc : 97 ≤ c ∧ c ≤ 122) {o6 : Option D} (h0 : δ0 = some (.loc n)) (h3 : δ3 = some (.str lettersS))
    (q : ∀ w' x o6, NmC c 8 x → nx [δ0, δ1, δ2, δ3, δ4, some (.str x), o6] (wst s n w' t)) :
    (loop (fun _ => True) (.one 6) (sSet 5 (e2 dAdd (eV 5) (e2 dIx (eV 3) (eCall1 (mf__law_draw K) (aCons (eV 0) (aCons (eC (.int 26)) (aNil))))))) (s.length + t.length) (rangeD 0 k.toNat) [δ0, δ1, δ2, δ3, δ4, some (.str ⟨#[c]⟩), o6] (wst s n w t)).wp ⟨nx, rt, bk, ct, er⟩ := by
  subst h0 h3
  refine loop_wp (fun j δ st => ∃ w x o6, δ = [some (.loc n), δ1, δ2, some (.str lettersS), δ4, some (.str x), o6] ∧ st = wst s n w t ∧ NmC c (j + 1) x) ⟨w, _, _, rfl, rfl, ⟨rfl, by simpa using hc, Nat.le_refl _⟩⟩ (fun _ _ _ _ => trivial) ?_ ?_
  · rintro j d δ st hj ⟨w, x, o6, rfl, rfl, hx⟩
    have hj2 := (List.getElem?_eq_some_iff.mp hj).1
    have hj3 : j < k.toNat := by simpa [rangeD] using hj2
    refine ⟨_, by simp only [beg, begF, perm, List.map_cons, List.map_nil, List.length_cons, List.length_nil, List.replicate_succ, List.replicate_zero, Nat.reduceAdd, Nat.reduceSub, Nat.reduceLT, Nat.reduceEqDiff, List.cons_append, List.nil_append, List.append_nil, List.getElem?_cons_succ, List.getElem?_cons_zero, List.getElem?_nil, List.set_cons_succ, List.set_cons_zero, List.filterMap_cons, List.filterMap_nil, if_true, if_false, true_and, and_true, Bool.not_true, Bool.not_false, Bool.true_eq_false, Bool.false_eq_true, decide_true, decide_false, and_self, wipeD, Nm.put, Nm.putL, Option.map_some, Option.some.injEq, exists_eq_left', ite_true, ite_false, reduceIte, Nat.reduceLeDiff, List.drop_zero, capsOf, Option.join_some]; rfl, ?_⟩
    simp only [wp_eCh2, o_mulF, ROPS0, ROPS1, at0I, at1I, at2I, at3I, at4I, decide_eq_true_eq, Int.reduceLT, Int.reduceLE, Int.reducePow, Int.reduceToNat, Int.reduceAdd, Int.reduceMul, Int.reduceSub, Int.reduceNeg, Nat.reduceLT, Nat.reduceLeDiff, RWP0, RWP1, RWP2, RWP3, beg, begF, perm, List.map_cons, List.map_nil, List.length_cons, List.length_nil, List.replicate_succ, List.replicate_zero, Nat.reduceAdd, Nat.reduceSub, Nat.reduceLT, Nat.reduceEqDiff, List.cons_append, List.nil_append, List.append_nil, List.getElem?_cons_succ, List.getElem?_cons_zero, List.getElem?_nil, List.set_cons_succ, List.set_cons_zero, List.filterMap_cons, List.filterMap_nil, if_true, if_false, true_and, and_true, Bool.not_true, Bool.not_false, Bool.true_eq_false, Bool.false_eq_true, decide_true, decide_false, and_self, wipeD, Nm.put, Nm.putL, Option.map_some, Option.some.injEq, exists_eq_left', ite_true, ite_false, reduceIte, Nat.reduceLeDiff, List.drop_zero, capsOf, Option.join_some, RST0, List.length_append, List.length_set]
    refine (draw_dr (by omega) (by omega)).use hs ht hn ?_
    rintro v w' ⟨i, rfl, a, b⟩
    obtain ⟨c', hc', e⟩ := letters_at a b
    have hl : x.length + (⟨#[c']⟩ : Str).length ≤ 1000000 := by have := hx.le; show x.length + 1 ≤ _; omega
    simp only [e, o_addS hl, RWP0, RWP1, RWP2, RWP3, beg, begF, perm, List.map_cons, List.map_nil, List.length_cons, List.length_nil, List.replicate_succ, List.replicate_zero, Nat.reduceAdd, Nat.reduceSub, Nat.reduceLT, Nat.reduceEqDiff, List.cons_append, List.nil_append, List.append_nil, List.getElem?_cons_succ, List.getElem?_cons_zero, List.getElem?_nil, List.set_cons_succ, List.set_cons_zero, List.filterMap_cons, List.filterMap_nil, if_true, if_false, true_and, and_true, Bool.not_true, Bool.not_false, Bool.true_eq_false, Bool.false_eq_true, decide_true, decide_false, and_self, wipeD, Nm.put, Nm.putL, Option.map_some, Option.some.injEq, exists_eq_left', ite_true, ite_false, reduceIte, Nat.reduceLeDiff, List.drop_zero, capsOf, Option.join_some, RST0, List.length_append, List.length_set]
    exact tid_same (by simp only [RST0, List.length_append, List.length_set]) ⟨w', _, _, rfl, rfl, hx.app hc'⟩
  · rintro δ st ⟨w', x, o6, rfl, rfl, hx⟩
    exact q w' x o6 ⟨hx.hd, hx.al, by have := hx.le; simp [rangeD] at this; omega⟩
theorem names_dr {n : Nat} {m : Int} (h0 : 1 ≤ m) (h1 : m ≤ 4) : Draws n (mf__law_names K [.loc n, .int m]) (fun v => ∃ xs : List Str, v = .fl (xs.map D.str) ∧ NmL xs ∧ xs.length = m) := by
  intro s w X Q hs hn k
  have hl25 : lettersS.length ≤ 1000000 := by rw [len_cps, letters_cps]; simp
  have c25 : (Str.ofString "abcdefghijklmnopqrstuvwxy").length = 25 := by rw [len_cps, cut_cps]; simp
  simp only [mf__law_names, m__law_names, show Str.ofString "abcdefghijklmnopqrstuvwxyz" = lettersS from rfl, o_cutS hl25, letters_cut, wp_eCh2, o_mulF, ROPS0, ROPS1, at0I, at1I, at2I, at3I, at4I, decide_eq_true_eq, Int.reduceLT, Int.reduceLE, Int.reducePow, Int.reduceToNat, Int.reduceAdd, Int.reduceMul, Int.reduceSub, Int.reduceNeg, Nat.reduceLT, Nat.reduceLeDiff, RWP0, RWP1, RWP2, RWP3, beg, begF, perm, List.map_cons, List.map_nil, List.length_cons, List.length_nil, List.replicate_succ, List.replicate_zero, Nat.reduceAdd, Nat.reduceSub, Nat.reduceLT, Nat.reduceEqDiff, List.cons_append, List.nil_append, List.append_nil, List.getElem?_cons_succ, List.getElem?_cons_zero, List.getElem?_nil, List.set_cons_succ, List.set_cons_zero, List.filterMap_cons, List.filterMap_nil, if_true, if_false, true_and, and_true, Bool.not_true, Bool.not_false, Bool.true_eq_false, Bool.false_eq_true, decide_true, decide_false, and_self, wipeD, Nm.put, Nm.putL, Option.map_some, Option.some.injEq, exists_eq_left', ite_true, ite_false, reduceIte, Nat.reduceLeDiff, List.drop_zero, capsOf, Option.join_some, RST0, List.length_append, List.length_set]
  refine (unlike_dr (xs := (List.range' 97 25).map fun c => .str ⟨#[c]⟩) (fun st X Q => ?_) (fun st => ?_) (by omega) (by simp; omega) (by simp) (by decide +kernel)).use hs (t := [.lst []]) (by simp [L3.Cl, shutC, shutL]) hn ?_
  · rw [wp_listS (by rw [c25]; decide), cut_cps]
  · rw [o_lenS (by rw [c25]; decide), c25]; simp
  rintro v w1 ⟨ys, rfl, hsub, hlen⟩
  obtain ⟨cs, hcs, rfl⟩ := List.sublist_map_iff.mp hsub
  have hmem : ∀ c ∈ cs, 97 ≤ c ∧ c ≤ 121 := fun c hc => by
    have := hcs.subset hc
    rw [List.mem_range'_1] at this
    omega
  have hpw : cs.Pairwise (· < ·) := List.Pairwise.sublist hcs (List.pairwise_lt_range' (s := 97) (n := 25))
  rw [List.length_map] at hlen
  simp only [lsOf, RWP0, RWP1, RWP2, RWP3, beg, begF, perm, List.map_cons, List.map_nil, List.length_cons, List.length_nil, List.replicate_succ, List.replicate_zero, Nat.reduceAdd, Nat.reduceSub, Nat.reduceLT, Nat.reduceEqDiff, List.cons_append, List.nil_append, List.append_nil, List.getElem?_cons_succ, List.getElem?_cons_zero, List.getElem?_nil, List.set_cons_succ, List.set_cons_zero, List.filterMap_cons, List.filterMap_nil, if_true, if_false, true_and, and_true, Bool.not_true, Bool.not_false, Bool.true_eq_false, Bool.false_eq_true, decide_true, decide_false, and_self, wipeD, Nm.put, Nm.putL, Option.map_some, Option.some.injEq, exists_eq_left', ite_true, ite_false, reduceIte, Nat.reduceLeDiff, List.drop_zero, capsOf, Option.join_some, RST0, List.length_append, List.length_set]
  refine loop_wp (fun j δ st => ∃ w, ∃ xs : List Str, ∃ o4 o5 o6, δ = [some (.loc n), some (.int m), some (.loc (s.length + 0)), some (.str lettersS), o4, o5, o6] ∧ st = wst s n w [.lst (xs.map D.str)] ∧ xs.length = j ∧ ∀ (i : Nat) (x : Str) (c : Nat), xs[i]? = some x → cs[i]? = some c → NmC c 8 x ∧ nameB x = true) ⟨w1, [], none, none, none, by simp, rfl, rfl, by simp⟩ (fun _ _ _ _ => trivial) ?_ ?_
  · rintro j d δ st hj ⟨w2, xs, o4, o5, o6, rfl, rfl, rfl, hx⟩
    rw [List.getElem?_map, Option.map_eq_some_iff] at hj
    obtain ⟨c, hc, rfl⟩ := hj
    have hc2 := hmem c (List.mem_of_getElem? hc)
    refine ⟨_, by simp only [beg, begF, perm, List.map_cons, List.map_nil, List.length_cons, List.length_nil, List.replicate_succ, List.replicate_zero, Nat.reduceAdd, Nat.reduceSub, Nat.reduceLT, Nat.reduceEqDiff, List.cons_append, List.nil_append, List.append_nil, List.getElem?_cons_succ, List.getElem?_cons_zero, List.getElem?_nil, List.set_cons_succ, List.set_cons_zero, List.filterMap_cons, List.filterMap_nil, if_true, if_false, true_and, and_true, Bool.not_true, Bool.not_false, Bool.true_eq_false, Bool.false_eq_true, decide_true, decide_false, and_self, wipeD, Nm.put, Nm.putL, Option.map_some, Option.some.injEq, exists_eq_left', ite_true, ite_false, reduceIte, Nat.reduceLeDiff, List.drop_zero, capsOf, Option.join_some]; rfl, ?_⟩
    simp only [wp_eCh2, o_mulF, ROPS0, ROPS1, at0I, at1I, at2I, at3I, at4I, decide_eq_true_eq, Int.reduceLT, Int.reduceLE, Int.reducePow, Int.reduceToNat, Int.reduceAdd, Int.reduceMul, Int.reduceSub, Int.reduceNeg, Nat.reduceLT, Nat.reduceLeDiff, RWP0, RWP1, RWP2, RWP3, beg, begF, perm, List.map_cons, List.map_nil, List.length_cons, List.length_nil, List.replicate_succ, List.replicate_zero, Nat.reduceAdd, Nat.reduceSub, Nat.reduceLT, Nat.reduceEqDiff, List.cons_append, List.nil_append, List.append_nil, List.getElem?_cons_succ, List.getElem?_cons_zero, List.getElem?_nil, List.set_cons_succ, List.set_cons_zero, List.filterMap_cons, List.filterMap_nil, if_true, if_false, true_and, and_true, Bool.not_true, Bool.not_false, Bool.true_eq_false, Bool.false_eq_true, decide_true, decide_false, and_self, wipeD, Nm.put, Nm.putL, Option.map_some, Option.some.injEq, exists_eq_left', ite_true, ite_false, reduceIte, Nat.reduceLeDiff, List.drop_zero, capsOf, Option.join_some, RST0, List.length_append, List.length_set]
    have shS : ∀ ys : List Str, shutL 0 (ys.map D.str) = true := fun ys => shutL_toP _ _ (toPs_strs ys)
    have clT : ∀ ys : List Str, L3.Cl [.lst (ys.map D.str)] := fun ys => by simp [L3.Cl, shutC, shS]
    refine (ofT_dr (by simp) (by simp) (by simp [shut])).use hs (t := [.lst (xs.map D.str)]) (clT _) hn ?_
    rintro v w3 hv
    obtain ⟨kk, rfl, hk1⟩ : ∃ kk : Int, v = .int kk ∧ 0 ≤ kk ∧ kk ≤ 7 := by
      simp only [List.mem_cons, List.not_mem_nil, or_false] at hv
      rcases hv with rfl | rfl | rfl | rfl | rfl | rfl <;> exact ⟨_, rfl, by omega⟩
    simp only [wp_eCh2, o_mulF, ROPS0, ROPS1, at0I, at1I, at2I, at3I, at4I, decide_eq_true_eq, Int.reduceLT, Int.reduceLE, Int.reducePow, Int.reduceToNat, Int.reduceAdd, Int.reduceMul, Int.reduceSub, Int.reduceNeg, Nat.reduceLT, Nat.reduceLeDiff, RWP0, RWP1, RWP2, RWP3, beg, begF, perm, List.map_cons, List.map_nil, List.length_cons, List.length_nil, List.replicate_succ, List.replicate_zero, Nat.reduceAdd, Nat.reduceSub, Nat.reduceLT, Nat.reduceEqDiff, List.cons_append, List.nil_append, List.append_nil, List.getElem?_cons_succ, List.getElem?_cons_zero, List.getElem?_nil, List.set_cons_succ, List.set_cons_zero, List.filterMap_cons, List.filterMap_nil, if_true, if_false, true_and, and_true, Bool.not_true, Bool.not_false, Bool.true_eq_false, Bool.false_eq_true, decide_true, decide_false, and_self, wipeD, Nm.put, Nm.putL, Option.map_some, Option.some.injEq, exists_eq_left', ite_true, ite_false, reduceIte, Nat.reduceLeDiff, List.drop_zero, capsOf, Option.join_some, RST0, List.length_append, List.length_set]
    refine ⟨by omega, name_turns hs (clT _) hn hk1 ⟨hc2.1, by omega⟩ rfl rfl fun w4 x o6 hx2 => ?_⟩
    have e0 : (wst s n w4 [.lst (xs.map D.str)])[s.length + 0]? = some (.lst (xs.map D.str)) := by rw [wst_k]; rfl
    have hl8 : x.length ≤ 1000000 := by have := hx2.le; omega
    have hl9 : (cutS x none (some 7)).length + (Str.ofString "q").length ≤ 1000000 := by
      have a := cutS_length x none (some 7)
      have b : (Str.ofString "q").length = 1 := by decide +kernel
      have := hx2.le
      omega
    have xl : xs.length ≤ 1000 := by
      have := (List.getElem?_eq_some_iff.mp hc).1
      omega
    have fin : ∀ y, NmC c 8 y → nameB y = true → tid (s.length + [Cell.lst (xs.map D.str)].length) [some (.loc n), some (.int m), some (.loc (s.length + 0)), some (.str lettersS), some (.str ⟨#[c]⟩), some (.str x), o6] (wst s n w4 [.lst (xs.map D.str ++ [.str y])]) (fun δ st => ∃ w, ∃ zs : List Str, ∃ o4 o5 o6, δ = [some (.loc n), some (.int m), some (.loc (s.length + 0)), some (.str lettersS), o4, o5, o6] ∧ st = wst s n w [.lst (zs.map D.str)] ∧ zs.length = xs.length + 1 ∧ ∀ (i : Nat) (x : Str) (c : Nat), zs[i]? = some x → cs[i]? = some c → NmC c 8 x ∧ nameB x = true) := fun y hy1 hy2 => by
      refine tid_same (by simp only [RST0, List.length_append, List.length_set, beg, begF, perm, List.map_cons, List.map_nil, List.length_cons, List.length_nil, List.replicate_succ, List.replicate_zero, Nat.reduceAdd, Nat.reduceSub, Nat.reduceLT, Nat.reduceEqDiff, List.cons_append, List.nil_append, List.append_nil, List.getElem?_cons_succ, List.getElem?_cons_zero, List.getElem?_nil, List.set_cons_succ, List.set_cons_zero, List.filterMap_cons, List.filterMap_nil, if_true, if_false, true_and, and_true, Bool.not_true, Bool.not_false, Bool.true_eq_false, Bool.false_eq_true, decide_true, decide_false, and_self, wipeD, Nm.put, Nm.putL, Option.map_some, Option.some.injEq, exists_eq_left', ite_true, ite_false, reduceIte, Nat.reduceLeDiff, List.drop_zero, capsOf, Option.join_some]) ⟨w4, xs ++ [y], _, _, _, rfl, by simp, by simp, fun i z cc hz hcc => ?_⟩
      rcases Nat.lt_or_ge i xs.length with hi | hi
      · rw [List.getElem?_append_left hi] at hz
        exact hx i z cc hz hcc
      · rw [List.getElem?_append_right hi] at hz
        have hi2 := (List.getElem?_eq_some_iff.mp hz).1
        simp at hi2
        have : i = xs.length := by omega
        subst this
        rw [hc] at hcc
        simp at hz
        cases hz; cases hcc
        exact ⟨hy1, hy2⟩
    simp only [wp_eCh2, o_mulF, ROPS0, ROPS1, at0I, at1I, at2I, at3I, at4I, decide_eq_true_eq, Int.reduceLT, Int.reduceLE, Int.reducePow, Int.reduceToNat, Int.reduceAdd, Int.reduceMul, Int.reduceSub, Int.reduceNeg, Nat.reduceLT, Nat.reduceLeDiff, RWP0, RWP1, RWP2, RWP3, beg, begF, perm, List.map_cons, List.map_nil, List.length_cons, List.length_nil, List.replicate_succ, List.replicate_zero, Nat.reduceAdd, Nat.reduceSub, Nat.reduceLT, Nat.reduceEqDiff, List.cons_append, List.nil_append, List.append_nil, List.getElem?_cons_succ, List.getElem?_cons_zero, List.getElem?_nil, List.set_cons_succ, List.set_cons_zero, List.filterMap_cons, List.filterMap_nil, if_true, if_false, true_and, and_true, Bool.not_true, Bool.not_false, Bool.true_eq_false, Bool.false_eq_true, decide_true, decide_false, and_self, wipeD, Nm.put, Nm.putL, Option.map_some, Option.some.injEq, exists_eq_left', ite_true, ite_false, reduceIte, Nat.reduceLeDiff, List.drop_zero, capsOf, Option.join_some, RST0, List.length_append, List.length_set, o_isLs e0, words_ok (wst_Cl hs (clT _)), in_strsF]
    by_cases hw : x ∈ wordsL
    · simp only [hw, wp_eCh2, o_mulF, ROPS0, ROPS1, at0I, at1I, at2I, at3I, at4I, decide_eq_true_eq, Int.reduceLT, Int.reduceLE, Int.reducePow, Int.reduceToNat, Int.reduceAdd, Int.reduceMul, Int.reduceSub, Int.reduceNeg, Nat.reduceLT, Nat.reduceLeDiff, RWP0, RWP1, RWP2, RWP3, beg, begF, perm, List.map_cons, List.map_nil, List.length_cons, List.length_nil, List.replicate_succ, List.replicate_zero, Nat.reduceAdd, Nat.reduceSub, Nat.reduceLT, Nat.reduceEqDiff, List.cons_append, List.nil_append, List.append_nil, List.getElem?_cons_succ, List.getElem?_cons_zero, List.getElem?_nil, List.set_cons_succ, List.set_cons_zero, List.filterMap_cons, List.filterMap_nil, if_true, if_false, true_and, and_true, Bool.not_true, Bool.not_false, Bool.true_eq_false, Bool.false_eq_true, decide_true, decide_false, and_self, wipeD, Nm.put, Nm.putL, Option.map_some, Option.some.injEq, exists_eq_left', ite_true, ite_false, reduceIte, Nat.reduceLeDiff, List.drop_zero, capsOf, Option.join_some, RST0, List.length_append, List.length_set, o_cutS hl8, o_addS hl9, o_append e0 (by simp; omega)]
      exact fin _ hx2.cut hx2.cutName
    · simp only [hw, wp_eCh2, o_mulF, ROPS0, ROPS1, at0I, at1I, at2I, at3I, at4I, decide_eq_true_eq, Int.reduceLT, Int.reduceLE, Int.reducePow, Int.reduceToNat, Int.reduceAdd, Int.reduceMul, Int.reduceSub, Int.reduceNeg, Nat.reduceLT, Nat.reduceLeDiff, RWP0, RWP1, RWP2, RWP3, beg, begF, perm, List.map_cons, List.map_nil, List.length_cons, List.length_nil, List.replicate_succ, List.replicate_zero, Nat.reduceAdd, Nat.reduceSub, Nat.reduceLT, Nat.reduceEqDiff, List.cons_append, List.nil_append, List.append_nil, List.getElem?_cons_succ, List.getElem?_cons_zero, List.getElem?_nil, List.set_cons_succ, List.set_cons_zero, List.filterMap_cons, List.filterMap_nil, if_true, if_false, true_and, and_true, Bool.not_true, Bool.not_false, Bool.true_eq_false, Bool.false_eq_true, decide_true, decide_false, and_self, wipeD, Nm.put, Nm.putL, Option.map_some, Option.some.injEq, exists_eq_left', ite_true, ite_false, reduceIte, Nat.reduceLeDiff, List.drop_zero, capsOf, Option.join_some, RST0, List.length_append, List.length_set, o_append e0 (by simp; omega)]
      exact fin _ hx2 (by simp [nameB, hx2.word, hx2.le, hw])
  · rintro δ st ⟨w', xs, o4, o5, o6, rfl, rfl, hl, hx⟩
    simp only [RWP0, RWP1, RWP2, RWP3, beg, begF, perm, List.map_cons, List.map_nil, List.length_cons, List.length_nil, List.replicate_succ, List.replicate_zero, Nat.reduceAdd, Nat.reduceSub, Nat.reduceLT, Nat.reduceEqDiff, List.cons_append, List.nil_append, List.append_nil, List.getElem?_cons_succ, List.getElem?_cons_zero, List.getElem?_nil, List.set_cons_succ, List.set_cons_zero, List.filterMap_cons, List.filterMap_nil, if_true, if_false, true_and, and_true, Bool.not_true, Bool.not_false, Bool.true_eq_false, Bool.false_eq_true, decide_true, decide_false, and_self, wipeD, Nm.put, Nm.putL, Option.map_some, Option.some.injEq, exists_eq_left', ite_true, ite_false, reduceIte, Nat.reduceLeDiff, List.drop_zero, capsOf, Option.join_some, RST0, List.length_append, List.length_set]
    rw [List.length_map] at hl
    have shS : ∀ (i : Nat) (ys : List Str), shutL i (ys.map D.str) = true := fun i ys => shutL_toP _ _ (toPs_strs ys)
    refine leave_wst (x := .fl (xs.map D.str)) hs (by simp [outD, shS]) (k _ _ ⟨xs, rfl, ⟨fun x hx' => ?_, ?_⟩, by omega⟩)
    · obtain ⟨i, hi, rfl⟩ := List.mem_iff_getElem.mp hx'
      obtain ⟨a, b⟩ := hx i xs[i] (cs[i]'(by omega)) (List.getElem?_eq_getElem hi) (List.getElem?_eq_getElem (by omega))
      exact ⟨b, ⟨a.ok, a.le⟩, fun e => by rw [a.hd] at e; have := hmem cs[i] (List.getElem_mem _); simp only [Option.some.injEq] at e; omega⟩
    · rw [List.pairwise_iff_getElem]
      intro i j hi hj hij
      obtain ⟨a, _⟩ := hx i xs[i] (cs[i]'(by omega)) (List.getElem?_eq_getElem hi) (List.getElem?_eq_getElem (by omega))
      obtain ⟨b, _⟩ := hx j xs[j] (cs[j]'(by omega)) (List.getElem?_eq_getElem hj) (List.getElem?_eq_getElem (by omega))
      exact lt_heads a.hd b.hd (List.pairwise_iff_getElem.mp hpw i j (by omega) (by omega) hij)
end
end K14

/-! ### text F1d -/
namespace K14
open PySem PySem.Spec PyProof.Rows L2 L3
/-- a lot of a house -/
structure LotOk (e h : Int) (ns : List Str) (l : Lot) : Prop where
  a0 : 0 ≤ l.a
  ab : l.a ≤ l.b
  be : l.b ≤ e
  c1 : 1 ≤ l.c
  ch : l.c ≤ h
  ne : l.ks ≠ []
  sub : l.ks.Sublist ns
/-- lots in rising order -/
def Rising (ls : List Lot) : Prop := (ls.map Lot.d).Pairwise fun a b => (!PySem.W.dataLt (L3.encD b) (L3.encD a)) = true
structure LotsOk (e h most : Int) (ns : List Str) (ls : List Lot) : Prop where
  ok : ∀ l ∈ ls, LotOk e h ns l
  len : ls.length ≤ most
  up : Rising ls
theorem toPs_lots : ∀ ls : List Lot, toPs (ls.map Lot.d) = some (ls.map fun l => lotP l.a l.b l.c l.ks)
  | [] => rfl
  | l :: ls => by simp [toPs, Lot.d, toP_lot, toPs_lots ls]
theorem encD_lot (l : Lot) : L3.encD l.d = lotP l.a l.b l.c l.ks := by simp [L3.encD, Lot.d, toP_lot]
theorem sortOk_lots (ls : List Lot) (h : ls.length ≤ 1000000) : sortOk (ls.map Lot.d) = true := by
  unfold sortOk
  simp only [Bool.and_eq_true, List.all_eq_true, decide_eq_true_eq, Bool.or_eq_true, List.length_map]
  refine ⟨⟨⟨fun d hd => ?_, fun d hd e he => ?_⟩, h⟩, .inl fun d hd => ?_⟩
  · obtain ⟨l, _, rfl⟩ := List.mem_map.mp hd
    rw [encD_lot, Lot.d, toP_lot]
    exact ⟨rfl, by simp [lotP, PyData.depth, PyData.depthAll, depth_strs]⟩
  · obtain ⟨l, _, rfl⟩ := List.mem_map.mp hd
    obtain ⟨l2, _, rfl⟩ := List.mem_map.mp he
    rw [encD_lot, encD_lot]
    simp [lotP, PySem.W.alike, PySem.W.alikeAll, alike_strs]
  · obtain ⟨l, _, rfl⟩ := List.mem_map.mp hd
    rw [encD_lot]
    rfl
section
variable {K : PySem.W.Frag}
theorem lots_dr {n : Nat} {e most high : Int} {ns : List Str} (he : 0 ≤ e ∧ e ≤ 60) (hm : 0 ≤ most ∧ most ≤ 100) (hh : 1 ≤ high ∧ high ≤ 1000000) (hns : 0 < ns.length ∧ ns.length ≤ 100) :
    Draws n (mf__law_lots K [.loc n, .int e, .fl (ns.map D.str), .int most, .int high]) (fun v => ∃ ls : List Lot, v = .tup (ls.map Lot.d) ∧ LotsOk e high most ns ls) := by
  intro s w X Q hs hn k
  have shS : ∀ (i : Nat) (ys : List Str), shutL i (ys.map D.str) = true := fun i ys => shutL_toP _ _ (toPs_strs ys)
  have shL : ∀ (i : Nat) (ls : List Lot), shutL i (ls.map Lot.d) = true := fun i ls => shutL_toP _ _ (toPs_lots ls)
  have clT : ∀ ls : List Lot, L3.Cl [.lst (ls.map Lot.d)] := fun ls => by simp [L3.Cl, shutC, shL]
  simp only [mf__law_lots, m__law_lots, wp_eCh2, o_mulF, ROPS0, ROPS1, at0I, at1I, at2I, at3I, at4I, decide_eq_true_eq, Int.reduceLT, Int.reduceLE, Int.reducePow, Int.reduceToNat, Int.reduceAdd, Int.reduceMul, Int.reduceSub, Int.reduceNeg, Nat.reduceLT, Nat.reduceLeDiff, RWP0, RWP1, RWP2, RWP3, beg, begF, perm, List.map_cons, List.map_nil, List.length_cons, List.length_nil, List.replicate_succ, List.replicate_zero, Nat.reduceAdd, Nat.reduceSub, Nat.reduceLT, Nat.reduceEqDiff, List.cons_append, List.nil_append, List.append_nil, List.getElem?_cons_succ, List.getElem?_cons_zero, List.getElem?_nil, List.set_cons_succ, List.set_cons_zero, List.filterMap_cons, List.filterMap_nil, if_true, if_false, true_and, and_true, Bool.not_true, Bool.not_false, Bool.true_eq_false, Bool.false_eq_true, decide_true, decide_false, and_self, wipeD, Nm.put, Nm.putL, Option.map_some, Option.some.injEq, exists_eq_left', ite_true, ite_false, reduceIte, Nat.reduceLeDiff, List.drop_zero, capsOf, Option.join_some, RST0, List.length_append, List.length_set]
  refine (draw_dr (by omega) (by omega)).use hs (t := [.lst []]) (clT []) hn ?_
  rintro v w1 ⟨q, rfl, hq0, hq1⟩
  simp only [wp_eCh2, o_mulF, ROPS0, ROPS1, at0I, at1I, at2I, at3I, at4I, decide_eq_true_eq, Int.reduceLT, Int.reduceLE, Int.reducePow, Int.reduceToNat, Int.reduceAdd, Int.reduceMul, Int.reduceSub, Int.reduceNeg, Nat.reduceLT, Nat.reduceLeDiff, RWP0, RWP1, RWP2, RWP3, beg, begF, perm, List.map_cons, List.map_nil, List.length_cons, List.length_nil, List.replicate_succ, List.replicate_zero, Nat.reduceAdd, Nat.reduceSub, Nat.reduceLT, Nat.reduceEqDiff, List.cons_append, List.nil_append, List.append_nil, List.getElem?_cons_succ, List.getElem?_cons_zero, List.getElem?_nil, List.set_cons_succ, List.set_cons_zero, List.filterMap_cons, List.filterMap_nil, if_true, if_false, true_and, and_true, Bool.not_true, Bool.not_false, Bool.true_eq_false, Bool.false_eq_true, decide_true, decide_false, and_self, wipeD, Nm.put, Nm.putL, Option.map_some, Option.some.injEq, exists_eq_left', ite_true, ite_false, reduceIte, Nat.reduceLeDiff, List.drop_zero, capsOf, Option.join_some, RST0, List.length_append, List.length_set]
  refine ⟨by omega, ?_⟩
  refine loop_wp (fun j δ st => ∃ w, ∃ ls : List Lot, ∃ o6 o7 o8 o9, δ = [some (.loc n), some (.int e), some (.fl (ns.map D.str)), some (.int most), some (.int high), some (.loc (s.length + 0)), o6, o7, o8, o9] ∧ st = wst s n w [.lst (ls.map Lot.d)] ∧ ls.length = j ∧ ∀ l ∈ ls, LotOk e high ns l) ⟨w1, [], none, none, none, none, by simp, rfl, rfl, by simp⟩ (fun _ _ _ _ => trivial) ?_ ?_
  · rintro j d δ st hj ⟨w2, ls, o6, o7, o8, o9, rfl, rfl, rfl, hls⟩
    have hj2 := (List.getElem?_eq_some_iff.mp hj).1
    have hj3 : ls.length < q.toNat := by simpa [rangeD] using hj2
    refine ⟨_, by simp only [beg, begF, perm, List.map_cons, List.map_nil, List.length_cons, List.length_nil, List.replicate_succ, List.replicate_zero, Nat.reduceAdd, Nat.reduceSub, Nat.reduceLT, Nat.reduceEqDiff, List.cons_append, List.nil_append, List.append_nil, List.getElem?_cons_succ, List.getElem?_cons_zero, List.getElem?_nil, List.set_cons_succ, List.set_cons_zero, List.filterMap_cons, List.filterMap_nil, if_true, if_false, true_and, and_true, Bool.not_true, Bool.not_false, Bool.true_eq_false, Bool.false_eq_true, decide_true, decide_false, and_self, wipeD, Nm.put, Nm.putL, Option.map_some, Option.some.injEq, exists_eq_left', ite_true, ite_false, reduceIte, Nat.reduceLeDiff, List.drop_zero, capsOf, Option.join_some]; rfl, ?_⟩
    simp only [wp_eCh2, o_mulF, ROPS0, ROPS1, at0I, at1I, at2I, at3I, at4I, decide_eq_true_eq, Int.reduceLT, Int.reduceLE, Int.reducePow, Int.reduceToNat, Int.reduceAdd, Int.reduceMul, Int.reduceSub, Int.reduceNeg, Nat.reduceLT, Nat.reduceLeDiff, RWP0, RWP1, RWP2, RWP3, beg, begF, perm, List.map_cons, List.map_nil, List.length_cons, List.length_nil, List.replicate_succ, List.replicate_zero, Nat.reduceAdd, Nat.reduceSub, Nat.reduceLT, Nat.reduceEqDiff, List.cons_append, List.nil_append, List.append_nil, List.getElem?_cons_succ, List.getElem?_cons_zero, List.getElem?_nil, List.set_cons_succ, List.set_cons_zero, List.filterMap_cons, List.filterMap_nil, if_true, if_false, true_and, and_true, Bool.not_true, Bool.not_false, Bool.true_eq_false, Bool.false_eq_true, decide_true, decide_false, and_self, wipeD, Nm.put, Nm.putL, Option.map_some, Option.some.injEq, exists_eq_left', ite_true, ite_false, reduceIte, Nat.reduceLeDiff, List.drop_zero, capsOf, Option.join_some, RST0, List.length_append, List.length_set]
    refine (draw_dr (by omega) (by omega)).use hs (clT _) hn ?_
    rintro v w3 ⟨a, rfl, ha0, ha1⟩
    simp only [wp_eCh2, o_mulF, ROPS0, ROPS1, at0I, at1I, at2I, at3I, at4I, decide_eq_true_eq, Int.reduceLT, Int.reduceLE, Int.reducePow, Int.reduceToNat, Int.reduceAdd, Int.reduceMul, Int.reduceSub, Int.reduceNeg, Nat.reduceLT, Nat.reduceLeDiff, RWP0, RWP1, RWP2, RWP3, beg, begF, perm, List.map_cons, List.map_nil, List.length_cons, List.length_nil, List.replicate_succ, List.replicate_zero, Nat.reduceAdd, Nat.reduceSub, Nat.reduceLT, Nat.reduceEqDiff, List.cons_append, List.nil_append, List.append_nil, List.getElem?_cons_succ, List.getElem?_cons_zero, List.getElem?_nil, List.set_cons_succ, List.set_cons_zero, List.filterMap_cons, List.filterMap_nil, if_true, if_false, true_and, and_true, Bool.not_true, Bool.not_false, Bool.true_eq_false, Bool.false_eq_true, decide_true, decide_false, and_self, wipeD, Nm.put, Nm.putL, Option.map_some, Option.some.injEq, exists_eq_left', ite_true, ite_false, reduceIte, Nat.reduceLeDiff, List.drop_zero, capsOf, Option.join_some, RST0, List.length_append, List.length_set]
    refine (draw_dr (by omega) (by omega)).use hs (clT _) hn ?_
    rintro v w4 ⟨b, rfl, hb0, hb1⟩
    simp only [wp_eCh2, o_mulF, ROPS0, ROPS1, at0I, at1I, at2I, at3I, at4I, decide_eq_true_eq, Int.reduceLT, Int.reduceLE, Int.reducePow, Int.reduceToNat, Int.reduceAdd, Int.reduceMul, Int.reduceSub, Int.reduceNeg, Nat.reduceLT, Nat.reduceLeDiff, RWP0, RWP1, RWP2, RWP3, beg, begF, perm, List.map_cons, List.map_nil, List.length_cons, List.length_nil, List.replicate_succ, List.replicate_zero, Nat.reduceAdd, Nat.reduceSub, Nat.reduceLT, Nat.reduceEqDiff, List.cons_append, List.nil_append, List.append_nil, List.getElem?_cons_succ, List.getElem?_cons_zero, List.getElem?_nil, List.set_cons_succ, List.set_cons_zero, List.filterMap_cons, List.filterMap_nil, if_true, if_false, true_and, and_true, Bool.not_true, Bool.not_false, Bool.true_eq_false, Bool.false_eq_true, decide_true, decide_false, and_self, wipeD, Nm.put, Nm.putL, Option.map_some, Option.some.injEq, exists_eq_left', ite_true, ite_false, reduceIte, Nat.reduceLeDiff, List.drop_zero, capsOf, Option.join_some, RST0, List.length_append, List.length_set, List.length_map]
    refine (draw_dr (by omega) (by omega)).use hs (clT _) hn ?_
    rintro v w5 ⟨c, rfl, hc0, hc1⟩
    simp only [wp_eCh2, o_mulF, ROPS0, ROPS1, at0I, at1I, at2I, at3I, at4I, decide_eq_true_eq, Int.reduceLT, Int.reduceLE, Int.reducePow, Int.reduceToNat, Int.reduceAdd, Int.reduceMul, Int.reduceSub, Int.reduceNeg, Nat.reduceLT, Nat.reduceLeDiff, RWP0, RWP1, RWP2, RWP3, beg, begF, perm, List.map_cons, List.map_nil, List.length_cons, List.length_nil, List.replicate_succ, List.replicate_zero, Nat.reduceAdd, Nat.reduceSub, Nat.reduceLT, Nat.reduceEqDiff, List.cons_append, List.nil_append, List.append_nil, List.getElem?_cons_succ, List.getElem?_cons_zero, List.getElem?_nil, List.set_cons_succ, List.set_cons_zero, List.filterMap_cons, List.filterMap_nil, if_true, if_false, true_and, and_true, Bool.not_true, Bool.not_false, Bool.true_eq_false, Bool.false_eq_true, decide_true, decide_false, and_self, wipeD, Nm.put, Nm.putL, Option.map_some, Option.some.injEq, exists_eq_left', ite_true, ite_false, reduceIte, Nat.reduceLeDiff, List.drop_zero, capsOf, Option.join_some, RST0, List.length_append, List.length_set]
    refine (unlike_dr (xs := ns.map D.str) (fun st X Q => rfl) (fun st => rfl) (by omega) (by simp; omega) (by simp; omega) (shS _ _)).use hs (clT _) hn ?_
    rintro v w6 ⟨ys, rfl, hsub, hlen⟩
    obtain ⟨zs, hzs, rfl⟩ := List.sublist_map_iff.mp hsub
    have e0 : ∀ w, (wst s n w [.lst (ls.map Lot.d)])[s.length + 0]? = some (.lst (ls.map Lot.d)) := fun w => by rw [wst_k]; rfl
    simp only [wp_eCh2, o_mulF, ROPS0, ROPS1, at0I, at1I, at2I, at3I, at4I, decide_eq_true_eq, Int.reduceLT, Int.reduceLE, Int.reducePow, Int.reduceToNat, Int.reduceAdd, Int.reduceMul, Int.reduceSub, Int.reduceNeg, Nat.reduceLT, Nat.reduceLeDiff, RWP0, RWP1, RWP2, RWP3, beg, begF, perm, List.map_cons, List.map_nil, List.length_cons, List.length_nil, List.replicate_succ, List.replicate_zero, Nat.reduceAdd, Nat.reduceSub, Nat.reduceLT, Nat.reduceEqDiff, List.cons_append, List.nil_append, List.append_nil, List.getElem?_cons_succ, List.getElem?_cons_zero, List.getElem?_nil, List.set_cons_succ, List.set_cons_zero, List.filterMap_cons, List.filterMap_nil, if_true, if_false, true_and, and_true, Bool.not_true, Bool.not_false, Bool.true_eq_false, Bool.false_eq_true, decide_true, decide_false, and_self, wipeD, Nm.put, Nm.putL, Option.map_some, Option.some.injEq, exists_eq_left', ite_true, ite_false, reduceIte, Nat.reduceLeDiff, List.drop_zero, capsOf, Option.join_some, RST0, List.length_append, List.length_set, o_isLs (e0 _)]
    refine (draw_dr (by omega) (by omega)).use hs (clT _) hn ?_
    rintro v w7 ⟨g, rfl, hg0, hg1⟩
    simp only [wp_eCh2, o_mulF, ROPS0, ROPS1, at0I, at1I, at2I, at3I, at4I, decide_eq_true_eq, Int.reduceLT, Int.reduceLE, Int.reducePow, Int.reduceToNat, Int.reduceAdd, Int.reduceMul, Int.reduceSub, Int.reduceNeg, Nat.reduceLT, Nat.reduceLeDiff, RWP0, RWP1, RWP2, RWP3, beg, begF, perm, List.map_cons, List.map_nil, List.length_cons, List.length_nil, List.replicate_succ, List.replicate_zero, Nat.reduceAdd, Nat.reduceSub, Nat.reduceLT, Nat.reduceEqDiff, List.cons_append, List.nil_append, List.append_nil, List.getElem?_cons_succ, List.getElem?_cons_zero, List.getElem?_nil, List.set_cons_succ, List.set_cons_zero, List.filterMap_cons, List.filterMap_nil, if_true, if_false, true_and, and_true, Bool.not_true, Bool.not_false, Bool.true_eq_false, Bool.false_eq_true, decide_true, decide_false, and_self, wipeD, Nm.put, Nm.putL, Option.map_some, Option.some.injEq, exists_eq_left', ite_true, ite_false, reduceIte, Nat.reduceLeDiff, List.drop_zero, capsOf, Option.join_some, RST0, List.length_append, List.length_set, o_append (e0 _) (show (ls.map Lot.d).length < 1000000 by simp; omega)]
    refine tid_same (by simp only [RST0, List.length_append, List.length_set, beg, begF, perm, List.map_cons, List.map_nil, List.length_cons, List.length_nil, List.replicate_succ, List.replicate_zero, Nat.reduceAdd, Nat.reduceSub, Nat.reduceLT, Nat.reduceEqDiff, List.cons_append, List.nil_append, List.append_nil, List.getElem?_cons_succ, List.getElem?_cons_zero, List.getElem?_nil, List.set_cons_succ, List.set_cons_zero, List.filterMap_cons, List.filterMap_nil, if_true, if_false, true_and, and_true, Bool.not_true, Bool.not_false, Bool.true_eq_false, Bool.false_eq_true, decide_true, decide_false, and_self, wipeD, Nm.put, Nm.putL, Option.map_some, Option.some.injEq, exists_eq_left', ite_true, ite_false, reduceIte, Nat.reduceLeDiff, List.drop_zero, capsOf, Option.join_some]) ⟨w7, ls ++ [⟨a, a + b, 1 + g, zs⟩], _, _, _, _, rfl, by simp [Lot.d, lotD], by simp, fun l hl => ?_⟩
    rcases List.mem_append.mp hl with hl | hl
    · exact hls l hl
    · rw [List.mem_singleton] at hl
      subst hl
      exact ⟨ha0, by show a ≤ a + b; omega, by show a + b ≤ e; omega, by show 1 ≤ 1 + g; omega, by show 1 + g ≤ high; omega, by
        intro e0; simp only at e0; subst e0; simp at hlen; omega, hzs⟩
  · rintro δ st ⟨w2, ls, o6, o7, o8, o9, rfl, rfl, hl, hls⟩
    have hl2 : ls.length = q.toNat := by simpa [rangeD] using hl
    have e0 : (wst s n w2 [.lst (ls.map Lot.d)])[s.length + 0]? = some (.lst (ls.map Lot.d)) := by rw [wst_k]; rfl
    have hb : bSorted [.loc (s.length + 0)] (wst s n w2 [.lst (ls.map Lot.d)]) = .ok (.fl ((ls.map Lot.d).mergeSort (PySem.W.dataLe false L3.encD))) (wst s n w2 [.lst (ls.map Lot.d)]) := by
      simp only [bSorted, lsOf, e0, if_pos (sortOk_lots ls (by omega))]
    obtain ⟨ls', e1, h1⟩ := map_of (f := Lot.d) (P := fun l => l ∈ ls) (zs := (ls.map Lot.d).mergeSort (PySem.W.dataLe false L3.encD)) (fun z hz => by
      rw [List.mem_mergeSort] at hz
      obtain ⟨l, hl, rfl⟩ := List.mem_map.mp hz
      exact ⟨l, hl, rfl⟩)
    have hs2 := sorted_pw (ls.map Lot.d)
    have hlen := congrArg List.length e1
    rw [List.length_mergeSort, List.length_map, List.length_map] at hlen
    rw [e1] at hb hs2
    simp only [wp_eCh2, o_mulF, ROPS0, ROPS1, at0I, at1I, at2I, at3I, at4I, decide_eq_true_eq, Int.reduceLT, Int.reduceLE, Int.reducePow, Int.reduceToNat, Int.reduceAdd, Int.reduceMul, Int.reduceSub, Int.reduceNeg, Nat.reduceLT, Nat.reduceLeDiff, RWP0, RWP1, RWP2, RWP3, beg, begF, perm, List.map_cons, List.map_nil, List.length_cons, List.length_nil, List.replicate_succ, List.replicate_zero, Nat.reduceAdd, Nat.reduceSub, Nat.reduceLT, Nat.reduceEqDiff, List.cons_append, List.nil_append, List.append_nil, List.getElem?_cons_succ, List.getElem?_cons_zero, List.getElem?_nil, List.set_cons_succ, List.set_cons_zero, List.filterMap_cons, List.filterMap_nil, if_true, if_false, true_and, and_true, Bool.not_true, Bool.not_false, Bool.true_eq_false, Bool.false_eq_true, decide_true, decide_false, and_self, wipeD, Nm.put, Nm.putL, Option.map_some, Option.some.injEq, exists_eq_left', ite_true, ite_false, reduceIte, Nat.reduceLeDiff, List.drop_zero, capsOf, Option.join_some, RST0, List.length_append, List.length_set, hb]
    exact leave_wst hs (x := .tup (ls'.map Lot.d)) (by simp [outD, shut, shL]) (k _ _ ⟨ls', rfl, fun l hl => hls l (h1 l hl), by omega, hs2⟩)
/-- the parts of a house -/
structure PartsOk (e many most high : Int) (ns : List Str) (ls : List Lot) : Prop where
  nm : NmL ns
  n1 : 1 ≤ ns.length
  n4 : ns.length ≤ many
  lo : LotsOk e high most ns ls
def partsD (e : Int) (ns : List Str) (ls : List Lot) : D := .tup [.int e, .tup (ns.map D.str), .tup (ls.map Lot.d)]
theorem parts_dr {n : Nat} {e many most high : Int} (he : 0 ≤ e ∧ e ≤ 60) (h4 : 1 ≤ many ∧ many ≤ 4) (hm : 0 ≤ most ∧ most ≤ 100) (hh : 1 ≤ high ∧ high ≤ 1000000) :
    Draws n (mf__law_parts K [.loc n, .int e, .int many, .int most, .int high]) (fun v => ∃ ns ls, v = partsD e ns ls ∧ PartsOk e many most high ns ls) := by
  intro s w X Q hs hn k
  simp only [mf__law_parts, m__law_parts, wp_eCh2, o_mulF, ROPS0, ROPS1, at0I, at1I, at2I, at3I, at4I, decide_eq_true_eq, Int.reduceLT, Int.reduceLE, Int.reducePow, Int.reduceToNat, Int.reduceAdd, Int.reduceMul, Int.reduceSub, Int.reduceNeg, Nat.reduceLT, Nat.reduceLeDiff, RWP0, RWP1, RWP2, RWP3, beg, begF, perm, List.map_cons, List.map_nil, List.length_cons, List.length_nil, List.replicate_succ, List.replicate_zero, Nat.reduceAdd, Nat.reduceSub, Nat.reduceLT, Nat.reduceEqDiff, List.cons_append, List.nil_append, List.append_nil, List.getElem?_cons_succ, List.getElem?_cons_zero, List.getElem?_nil, List.set_cons_succ, List.set_cons_zero, List.filterMap_cons, List.filterMap_nil, if_true, if_false, true_and, and_true, Bool.not_true, Bool.not_false, Bool.true_eq_false, Bool.false_eq_true, decide_true, decide_false, and_self, wipeD, Nm.put, Nm.putL, Option.map_some, Option.some.injEq, exists_eq_left', ite_true, ite_false, reduceIte, Nat.reduceLeDiff, List.drop_zero, capsOf, Option.join_some, RST0, List.length_append, List.length_set]
  refine (draw_dr (by omega) (by omega)).use hs .nil hn ?_
  rintro v w1 ⟨q, rfl, hq0, hq1⟩
  try simp only [wp_eCh2, o_mulF, ROPS0, ROPS1, at0I, at1I, at2I, at3I, at4I, decide_eq_true_eq, Int.reduceLT, Int.reduceLE, Int.reducePow, Int.reduceToNat, Int.reduceAdd, Int.reduceMul, Int.reduceSub, Int.reduceNeg, Nat.reduceLT, Nat.reduceLeDiff, RWP0, RWP1, RWP2, RWP3, beg, begF, perm, List.map_cons, List.map_nil, List.length_cons, List.length_nil, List.replicate_succ, List.replicate_zero, Nat.reduceAdd, Nat.reduceSub, Nat.reduceLT, Nat.reduceEqDiff, List.cons_append, List.nil_append, List.append_nil, List.getElem?_cons_succ, List.getElem?_cons_zero, List.getElem?_nil, List.set_cons_succ, List.set_cons_zero, List.filterMap_cons, List.filterMap_nil, if_true, if_false, true_and, and_true, Bool.not_true, Bool.not_false, Bool.true_eq_false, Bool.false_eq_true, decide_true, decide_false, and_self, wipeD, Nm.put, Nm.putL, Option.map_some, Option.some.injEq, exists_eq_left', ite_true, ite_false, reduceIte, Nat.reduceLeDiff, List.drop_zero, capsOf, Option.join_some, RST0, List.length_append, List.length_set]
  refine (names_dr (by omega) (by omega)).use hs .nil hn ?_
  rintro v w2 ⟨ns, rfl, hns, hlen⟩
  try simp only [wp_eCh2, o_mulF, ROPS0, ROPS1, at0I, at1I, at2I, at3I, at4I, decide_eq_true_eq, Int.reduceLT, Int.reduceLE, Int.reducePow, Int.reduceToNat, Int.reduceAdd, Int.reduceMul, Int.reduceSub, Int.reduceNeg, Nat.reduceLT, Nat.reduceLeDiff, RWP0, RWP1, RWP2, RWP3, beg, begF, perm, List.map_cons, List.map_nil, List.length_cons, List.length_nil, List.replicate_succ, List.replicate_zero, Nat.reduceAdd, Nat.reduceSub, Nat.reduceLT, Nat.reduceEqDiff, List.cons_append, List.nil_append, List.append_nil, List.getElem?_cons_succ, List.getElem?_cons_zero, List.getElem?_nil, List.set_cons_succ, List.set_cons_zero, List.filterMap_cons, List.filterMap_nil, if_true, if_false, true_and, and_true, Bool.not_true, Bool.not_false, Bool.true_eq_false, Bool.false_eq_true, decide_true, decide_false, and_self, wipeD, Nm.put, Nm.putL, Option.map_some, Option.some.injEq, exists_eq_left', ite_true, ite_false, reduceIte, Nat.reduceLeDiff, List.drop_zero, capsOf, Option.join_some, RST0, List.length_append, List.length_set]
  refine (lots_dr he hm hh ⟨by omega, by omega⟩).use hs .nil hn ?_
  rintro v w3 ⟨ls, rfl, hls⟩
  try simp only [wp_eCh2, o_mulF, ROPS0, ROPS1, at0I, at1I, at2I, at3I, at4I, decide_eq_true_eq, Int.reduceLT, Int.reduceLE, Int.reducePow, Int.reduceToNat, Int.reduceAdd, Int.reduceMul, Int.reduceSub, Int.reduceNeg, Nat.reduceLT, Nat.reduceLeDiff, RWP0, RWP1, RWP2, RWP3, beg, begF, perm, List.map_cons, List.map_nil, List.length_cons, List.length_nil, List.replicate_succ, List.replicate_zero, Nat.reduceAdd, Nat.reduceSub, Nat.reduceLT, Nat.reduceEqDiff, List.cons_append, List.nil_append, List.append_nil, List.getElem?_cons_succ, List.getElem?_cons_zero, List.getElem?_nil, List.set_cons_succ, List.set_cons_zero, List.filterMap_cons, List.filterMap_nil, if_true, if_false, true_and, and_true, Bool.not_true, Bool.not_false, Bool.true_eq_false, Bool.false_eq_true, decide_true, decide_false, and_self, wipeD, Nm.put, Nm.putL, Option.map_some, Option.some.injEq, exists_eq_left', ite_true, ite_false, reduceIte, Nat.reduceLeDiff, List.drop_zero, capsOf, Option.join_some, RST0, List.length_append, List.length_set]
  exact leave_wst hs (x := partsD e ns ls) rfl (k _ _ ⟨ns, ls, rfl, hns, by omega, by omega, hls⟩)
end
end K14

/-! ### text F1e -/
namespace K14
open PySem PySem.Spec PyProof.Rows L2 L3
/-! ### what is drawn is right -/
theorem firstBad_none {most : Option Nat} {f : D → List D → Bool} {xs : List D} (h : ∀ i, (hi : i < xs.length) → overB most i = false ∧ f xs[i] (xs.take i) = true) : firstBad most f xs = none := by
  unfold firstBad
  rw [List.find?_eq_none]
  intro i hi
  have hi : i < xs.length := by simpa using hi
  obtain ⟨a, b⟩ := h i hi
  have e : xs[i]?.getD .non = xs[i] := by simp [hi]
  unfold badAt
  rw [e, a, b]
  simp
theorem firstBad_at {most : Option Nat} {f : D → List D → Bool} {xs : List D} {j : Nat} (hj : j < xs.length) (h : ∀ i, i < j → (hi : i < xs.length) → overB most i = false ∧ f xs[i] (xs.take i) = true) (h2 : overB most j = true ∨ f xs[j] (xs.take j) = false) : firstBad most f xs = some j := by
  refine find_range hj (fun i hi => ?_) ?_
  · obtain ⟨a, b⟩ := h i hi (by omega)
    have e : xs[i]?.getD .non = xs[i]'(by omega) := by simp [show i < xs.length by omega]
    unfold badAt
    rw [e, a, b]
    rfl
  · have e : xs[j]?.getD .non = xs[j] := by simp [hj]
    unfold badAt
    rw [e]
    rcases h2 with a | a <;> simp [a]
theorem encD_str (a : Str) : L3.encD (.str a) = .str a := rfl
theorem ltLast_of {xs : List Str} (h : xs.Pairwise fun a b => a.cps.toList < b.cps.toList) {i : Nat} (hi : i < xs.length) : ltLast ((xs.map D.str).take i) (.str xs[i]) = true := by
  unfold ltLast
  by_cases h0 : i = 0
  · subst h0; rfl
  · rw [(lastOf (xs := xs.map D.str) (by simpa using hi) (by omega)).1]
    simp only [List.getElem_map, encD_str, PySem.W.dataLt_str, decide_eq_true_eq]
    exact List.pairwise_iff_getElem.mp h (i - 1) i (by omega) hi (by omega)
theorem kf_ok {xs : List Str} (h : NmL xs) {i : Nat} (hi : i < xs.length) : kf (.str xs[i]) ((xs.map D.str).take i) = true := by
  unfold kf
  rw [Bool.and_eq_true]
  exact ⟨(h.1 _ (List.getElem_mem _)).1, ltLast_of h.2 hi⟩
theorem kindsR_ok {xs : List Str} (h : NmL xs) (h1 : 1 ≤ xs.length) (h4 : xs.length ≤ 4) : kindsR (.tup (xs.map D.str)) = .fl [] := by
  cases xs with
  | nil => simp at h1
  | cons x xs =>
    show badR (firstBad (some 4) kf ((x :: xs).map D.str)) = _
    rw [firstBad_none fun i hi => ?_]
    · rfl
    · have hi : i < (x :: xs).length := by simpa using hi
      refine ⟨by simp [overB]; omega, ?_⟩
      rw [List.getElem_map]
      exact kf_ok h hi
theorem someB_ok {ns ks : List Str} (h : NmL ns) (hs : ks.Sublist ns) (h0 : ks ≠ []) : someB ns (.tup (ks.map D.str)) = true := by
  cases ks with
  | nil => exact absurd rfl h0
  | cons x xs =>
    show (firstBad none (sf ns) ((x :: xs).map D.str)).isNone = true
    rw [firstBad_none fun i hi => ?_]
    · rfl
    · have hi : i < (x :: xs).length := by simpa using hi
      refine ⟨rfl, ?_⟩
      rw [List.getElem_map]
      unfold sf
      rw [Bool.and_eq_true]
      refine ⟨?_, ltLast_of (List.Pairwise.sublist hs h.2) hi⟩
      simpa [inB] using hs.subset (List.getElem_mem hi)
theorem lotB_ok {e hgh : Int} {ns : List Str} {l : Lot} (h : LotOk e hgh ns l) (hn : NmL ns) (hh : hgh ≤ 1000000) : lotB e ns l.d = true := by
  have := h.a0; have := h.ab; have := h.be; have := h.c1; have := h.ch
  simp only [Lot.d, lotD, lotB, numB, someB_ok hn h.sub h.ne, Bool.and_eq_true, decide_eq_true_eq, and_true]
  omega
theorem leLast_of {ls : List Lot} (h : Rising ls) {i : Nat} (hi : i < ls.length) : leLast ((ls.map Lot.d).take i) ls[i].d = true := by
  unfold leLast
  by_cases h0 : i = 0
  · subst h0; rfl
  · rw [(lastOf (xs := ls.map Lot.d) (by simpa using hi) (by omega)).1]
    have := List.pairwise_iff_getElem.mp h (i - 1) i (by simp; omega) (by simpa using hi) (by omega)
    simpa using this
theorem lf_ok {e hgh most : Int} {ns : List Str} {ls : List Lot} (h : LotsOk e hgh most ns ls) (hn : NmL ns) (hh : hgh ≤ 1000000) {i : Nat} (hi : i < ls.length) : lf e ns ls[i].d ((ls.map Lot.d).take i) = true := by
  unfold lf
  rw [Bool.and_eq_true]
  exact ⟨lotB_ok (h.ok _ (List.getElem_mem _)) hn hh, leLast_of h.up hi⟩
theorem lotsR_ok {e hgh most : Int} {ns : List Str} {ls : List Lot} (h : LotsOk e hgh most ns ls) (hn : NmL ns) (hh : hgh ≤ 1000000) (hm : most ≤ 12) : lotsR e ns (.tup (ls.map Lot.d)) = .fl [] := by
  show badR (firstBad (some 12) (lf e ns) (ls.map Lot.d)) = _
  rw [firstBad_none fun i hi => ?_]
  · rfl
  · have hi : i < ls.length := by simpa using hi
    have := h.len
    refine ⟨by simp [overB]; omega, ?_⟩
    rw [List.getElem_map]
    exact lf_ok h hn hh hi
/-! ### .. and nice data -/
theorem Dat.name {x : Str} (h : StrOk x) (hl : x.length ≤ 8) {k : Nat} : Dat k 82 (.str x) := Dat.str h (by omega)
theorem Dat.names {xs : List Str} (h : ∀ x ∈ xs, StrOk x ∧ x.length ≤ 8) {k : Nat} : DatL k (xs.length * 84) (xs.map D.str) := by
  have := DatL.all (k := k) (n := 82) (ds := xs.map D.str) fun d hd => by
    obtain ⟨x, hx, rfl⟩ := List.mem_map.mp hd
    exact Dat.name (h x hx).1 (h x hx).2
  rwa [List.length_map] at this
theorem Dat.int' {i : Int} (h : -(10 ^ 30) ≤ i ∧ i ≤ 10 ^ 30) {k : Nat} : Dat k 101 (.int i) := Dat.int (by omega)
theorem NmL.nice {xs : List Str} (h : NmL xs) : ∀ x ∈ xs, StrOk x ∧ x.length ≤ 8 := fun x hx => (h.1 x hx).2.1
theorem LotOk.dat {e hgh : Int} {ns : List Str} {l : Lot} (h : LotOk e hgh ns l) (hn : NmL ns) (he : e ≤ 60) (hh : hgh ≤ 1000000) (h4 : ns.length ≤ 4) : Dat 2 700 l.d := by
  have := h.a0; have := h.ab; have := h.be; have := h.c1; have := h.ch
  have hk : l.ks.length ≤ ns.length := h.sub.length_le
  have d4 : Dat 1 339 (.tup (l.ks.map D.str)) := (Dat.tup (k := 0) (Dat.names fun x hx => hn.nice x (h.sub.subset hx))).mono (by omega) (by omega)
  have := DatL.cons (k := 1) (Dat.int' (i := l.a) (by omega)) (DatL.cons (Dat.int' (i := l.b) (by omega)) (DatL.cons (Dat.int' (i := l.c) (by omega)) (DatL.cons d4 (DatL.nil (n := 0)))))
  exact (Dat.tup this).mono (by omega) (by omega)
theorem LotsOk.dat {e hgh most : Int} {ns : List Str} {ls : List Lot} (h : LotsOk e hgh most ns ls) (hn : NmL ns) (he : e ≤ 60) (hh : hgh ≤ 1000000) (h4 : ns.length ≤ 4) (hm : most ≤ 12) : Dat 3 9000 (.tup (ls.map Lot.d)) := by
  have := h.len
  have := DatL.all (k := 2) (n := 700) (ds := ls.map Lot.d) fun d hd => by
    obtain ⟨l, hl, rfl⟩ := List.mem_map.mp hd
    exact (h.ok l hl).dat hn he hh h4
  rw [List.length_map] at this
  exact (Dat.tup this).mono (by omega) (by omega)
theorem NmL.dat {ns : List Str} (hn : NmL ns) (h4 : ns.length ≤ 4) : Dat 1 339 (.tup (ns.map D.str)) := (Dat.tup (k := 0) (Dat.names hn.nice)).mono (by omega) (by omega)
section
variable {K : PySem.W.Frag} (F : Pf K) {st : Store}
include F
/-- the house of right parts -/
noncomputable def hD (K : PySem.W.Frag) (e : Int) (ns : List Str) (ls : List Lot) : D := houseD K (.int e) (.tup (ns.map D.str)) (.tup (ls.map Lot.d)) (.int (ls.map Lot.c).sum)
theorem make_ok {e many most hgh : Int} {ns : List Str} {ls : List Lot} (h : PartsOk e many most hgh ns ls) (he : 0 ≤ e ∧ e ≤ 60) (h4 : many ≤ 4) (hm : most ≤ 12) (hh : hgh ≤ 1000000) (hs : L3.Cl st)
    {go : D → Store → Res D} (hgo : ∀ d st', go d st' = mf_House___init__ K [d, .int e, .tup (ns.map D.str), .tup (ls.map Lot.d)] st') : mkO (He.ga K "House") go st = .ok (hD K e ns ls) st := by
  have n4 : ns.length ≤ 4 := by have := h.n4; omega
  have dn := h.nm.dat n4
  have dl := h.lo.dat h.nm he.2 hh n4 (by omega)
  refine mk_ok F (.of (Dat.int' (k := 0) (by omega))) (by simp [numB]; omega) (fun st => ?_) (fun st => ?_) (fun st => units_ok F (by have := h.lo.len; omega)) hs (.of dn) (.of dl) hgo
  · rw [wrongKinds_ok F dn (by decide) (by decide), kindsR_ok h.nm h.n1 n4]
  · rw [wrongLots_ok F dl (by decide), lotsR_ok h.lo h.nm hh hm]
end
section
variable {K : PySem.W.Frag} {st : Store}
/-- the two are shown alike -/
theorem is_ok {a b : D} {ds : List D} {k n : Nat} (ha : lsOf a st = some ds) (hb : lsOf b st = some ds) (hd : DatL k n ds) (hk : k ≤ 39) (hn : n ≤ 999000) : mf__law_is K [a, b] st = .ok (.bl true) st := by
  obtain ⟨ps, h⟩ := hd
  have e1 := toPd_ls ha h.e
  have e2 := toPd_ls hb h.e
  have hr : reprOk (.list ps) = true := reprOk_of h.o (by have := h.w; simp only [pw]; omega) (by have := h.dp; simp only [PyData.depth]; omega)
  apply Res.wp_eq
  simp only [mf__law_is, m__law_is, wp_eCh2, o_mulF, ROPS0, ROPS1, at0I, at1I, at2I, at3I, at4I, decide_eq_true_eq, Int.reduceLT, Int.reduceLE, Int.reducePow, Int.reduceToNat, Int.reduceAdd, Int.reduceMul, Int.reduceSub, Int.reduceNeg, Nat.reduceLT, Nat.reduceLeDiff, RWP0, RWP1, RWP2, RWP3, beg, begF, perm, List.map_cons, List.map_nil, List.length_cons, List.length_nil, List.replicate_succ, List.replicate_zero, Nat.reduceAdd, Nat.reduceSub, Nat.reduceLT, Nat.reduceEqDiff, List.cons_append, List.nil_append, List.append_nil, List.getElem?_cons_succ, List.getElem?_cons_zero, List.getElem?_nil, List.set_cons_succ, List.set_cons_zero, List.filterMap_cons, List.filterMap_nil, if_true, if_false, true_and, and_true, Bool.not_true, Bool.not_false, Bool.true_eq_false, Bool.false_eq_true, decide_true, decide_false, and_self, wipeD, Nm.put, Nm.putL, Option.map_some, Option.some.injEq, exists_eq_left', ite_true, ite_false, reduceIte, Nat.reduceLeDiff, List.drop_zero, capsOf, Option.join_some, RST0, List.length_append, List.length_set, o_repr e1 hr, o_repr e2 hr, leave_same]
end
/-! ### the well, the law -/
section
variable {K : PySem.W.Frag}
theorem law_all (hw : ∀ (ns : List Int) (j : Nat) (st : Store), j < 3 → L3.Cl st → ∃ w, mf__law_well K [.rl (ns.map D.int), .int j] st = .ok (.loc st.length) (psh st (wc w)))
    (hr : ∀ n, Draws n (mf__law_right K [.loc n]) (fun v => v = .bl true)) (ns : List Int) : mf_law K [.rl (ns.map D.int)] [] = .ok (.bl true) [] := by
  apply Res.wp_eq
  simp only [mf_law, m_law, wp_eCh2, o_mulF, ROPS0, ROPS1, at0I, at1I, at2I, at3I, at4I, decide_eq_true_eq, Int.reduceLT, Int.reduceLE, Int.reducePow, Int.reduceToNat, Int.reduceAdd, Int.reduceMul, Int.reduceSub, Int.reduceNeg, Nat.reduceLT, Nat.reduceLeDiff, RWP0, RWP1, RWP2, RWP3, beg, begF, perm, List.map_cons, List.map_nil, List.length_cons, List.length_nil, List.replicate_succ, List.replicate_zero, Nat.reduceAdd, Nat.reduceSub, Nat.reduceLT, Nat.reduceEqDiff, List.cons_append, List.nil_append, List.append_nil, List.getElem?_cons_succ, List.getElem?_cons_zero, List.getElem?_nil, List.set_cons_succ, List.set_cons_zero, List.filterMap_cons, List.filterMap_nil, if_true, if_false, true_and, and_true, Bool.not_true, Bool.not_false, Bool.true_eq_false, Bool.false_eq_true, decide_true, decide_false, and_self, wipeD, Nm.put, Nm.putL, Option.map_some, Option.some.injEq, exists_eq_left', ite_true, ite_false, reduceIte, Nat.reduceLeDiff, List.drop_zero, capsOf, Option.join_some, RST0, List.length_append, List.length_set, List.length_map]
  have hb : -(2 ^ 62) ≤ (if (if (3 : Int) < (ns.length : Int) then (3 : Int) else (ns.length : Int)) > 1 then (if (3 : Int) < (ns.length : Int) then (3 : Int) else (ns.length : Int)) else 1) ∧ (if (if (3 : Int) < (ns.length : Int) then (3 : Int) else (ns.length : Int)) > 1 then (if (3 : Int) < (ns.length : Int) then (3 : Int) else (ns.length : Int)) else 1) ≤ (3 : Int) := by
    generalize (ns.length : Int) = z
    split <;> split <;> omega
  generalize (if (if (3 : Int) < (ns.length : Int) then (3 : Int) else (ns.length : Int)) > 1 then (if (3 : Int) < (ns.length : Int) then (3 : Int) else (ns.length : Int)) else 1) = m at *
  refine ⟨⟨hb.1, by omega⟩, ?_⟩
  refine lc_wp (fun j xs st => L3.Cl st ∧ ∃ l : List Bool, xs = l.map D.bl ∧ l.all id = true) (by simp [rangeD]; omega) ⟨.nil, [], rfl, rfl⟩ (fun _ _ _ _ => trivial) ?_ ?_
  · rintro j d xs st hj ⟨hs, l, rfl, hl⟩
    have hj2 := (List.getElem?_eq_some_iff.mp hj)
    obtain ⟨hj3, hj4⟩ := hj2
    have hj5 : j < m.toNat := by simpa [rangeD] using hj3
    have hd : d = .int (j : Nat) := by rw [← hj4]; simp [rangeD]
    subst hd
    refine ⟨_, by simp only [beg, begF, perm, List.map_cons, List.map_nil, List.length_cons, List.length_nil, List.replicate_succ, List.replicate_zero, Nat.reduceAdd, Nat.reduceSub, Nat.reduceLT, Nat.reduceEqDiff, List.cons_append, List.nil_append, List.append_nil, List.getElem?_cons_succ, List.getElem?_cons_zero, List.getElem?_nil, List.set_cons_succ, List.set_cons_zero, List.filterMap_cons, List.filterMap_nil, if_true, if_false, true_and, and_true, Bool.not_true, Bool.not_false, Bool.true_eq_false, Bool.false_eq_true, decide_true, decide_false, and_self, wipeD, Nm.put, Nm.putL, Option.map_some, Option.some.injEq, exists_eq_left', ite_true, ite_false, reduceIte, Nat.reduceLeDiff, List.drop_zero, capsOf, Option.join_some]; rfl, ?_⟩
    obtain ⟨w, e⟩ := hw ns j st (by omega) hs
    simp only [wp_eCh2, o_mulF, ROPS0, ROPS1, at0I, at1I, at2I, at3I, at4I, decide_eq_true_eq, Int.reduceLT, Int.reduceLE, Int.reducePow, Int.reduceToNat, Int.reduceAdd, Int.reduceMul, Int.reduceSub, Int.reduceNeg, Nat.reduceLT, Nat.reduceLeDiff, RWP0, RWP1, RWP2, RWP3, beg, begF, perm, List.map_cons, List.map_nil, List.length_cons, List.length_nil, List.replicate_succ, List.replicate_zero, Nat.reduceAdd, Nat.reduceSub, Nat.reduceLT, Nat.reduceEqDiff, List.cons_append, List.nil_append, List.append_nil, List.getElem?_cons_succ, List.getElem?_cons_zero, List.getElem?_nil, List.set_cons_succ, List.set_cons_zero, List.filterMap_cons, List.filterMap_nil, if_true, if_false, true_and, and_true, Bool.not_true, Bool.not_false, Bool.true_eq_false, Bool.false_eq_true, decide_true, decide_false, and_self, wipeD, Nm.put, Nm.putL, Option.map_some, Option.some.injEq, exists_eq_left', ite_true, ite_false, reduceIte, Nat.reduceLeDiff, List.drop_zero, capsOf, Option.join_some, RST0, List.length_append, List.length_set, e]
    have e2 : psh st (wc w) = wst (psh st (wc w)) st.length w [] := wst_of (by unfold psh; simp)
    have hs2 : L3.Cl (psh st (wc w)) := Cl_app.mpr ⟨hs, by simp [L3.Cl, wc_shut]⟩
    rw [e2]
    refine hr st.length _ _ _ _ hs2 (by simp [psh]) fun v w' hv => ?_
    subst hv
    exact ⟨wst_Cl hs2 .nil, l ++ [true], by simp, by simp [hl]⟩
  · rintro xs st ⟨hs, l, rfl, hl⟩
    have ib : isBls (l.map D.bl) = some l := by
      clear hl
      induction l with
      | nil => rfl
      | cons a l ih => simp [isBls, ih]
    simp only [bAll, lsOf, ib, RWP0, RWP1, RWP2, RWP3, beg, begF, perm, List.map_cons, List.map_nil, List.length_cons, List.length_nil, List.replicate_succ, List.replicate_zero, Nat.reduceAdd, Nat.reduceSub, Nat.reduceLT, Nat.reduceEqDiff, List.cons_append, List.nil_append, List.append_nil, List.getElem?_cons_succ, List.getElem?_cons_zero, List.getElem?_nil, List.set_cons_succ, List.set_cons_zero, List.filterMap_cons, List.filterMap_nil, if_true, if_false, true_and, and_true, Bool.not_true, Bool.not_false, Bool.true_eq_false, Bool.false_eq_true, decide_true, decide_false, and_self, wipeD, Nm.put, Nm.putL, Option.map_some, Option.some.injEq, exists_eq_left', ite_true, ite_false, reduceIte, Nat.reduceLeDiff, List.drop_zero, capsOf, Option.join_some, RST0, List.length_append, List.length_set, hl]
    have := leave_app (s := []) (t := st) (d := .bl true) (x := .bl true) .nil (by cases st <;> rfl)
    simp only [List.nil_append, List.length_nil] at this
    simp [this]
end
end K14

/-! ### text F1w -/
namespace K14
open PySem PySem.Spec PyProof.Rows L2 L3
section
variable {K : PySem.W.Frag}
theorem cutR {xs : List D} {lo hi : Option Int} {st : Store} : dCut (.rl xs) lo hi st = .ok (.fl (cutD xs lo hi)) st := rfl
theorem well_ok (ns : List Int) (j : Nat) (st : Store) (hj : j < 3) (hs : L3.Cl st) : ∃ w, mf__law_well K [.rl (ns.map D.int), .int j] st = .ok (.loc st.length) (psh st (wc w)) := by
  have h : (mf__law_well K [.rl (ns.map D.int), .int j] st).wp noX fun d st' => ∃ w, d = .loc st.length ∧ st' = psh st (wc w) := by
    simp only [mf__law_well, m__law_well, wp_eCh2, o_mulF, ROPS0, ROPS1, at0I, at1I, at2I, at3I, at4I, decide_eq_true_eq, Int.reduceLT, Int.reduceLE, Int.reducePow, Int.reduceToNat, Int.reduceAdd, Int.reduceMul, Int.reduceSub, Int.reduceNeg, Nat.reduceLT, Nat.reduceLeDiff, RWP0, RWP1, RWP2, RWP3, beg, begF, perm, List.map_cons, List.map_nil, List.length_cons, List.length_nil, List.replicate_succ, List.replicate_zero, Nat.reduceAdd, Nat.reduceSub, Nat.reduceLT, Nat.reduceEqDiff, List.cons_append, List.nil_append, List.append_nil, List.getElem?_cons_succ, List.getElem?_cons_zero, List.getElem?_nil, List.set_cons_succ, List.set_cons_zero, List.filterMap_cons, List.filterMap_nil, if_true, if_false, true_and, and_true, Bool.not_true, Bool.not_false, Bool.true_eq_false, Bool.false_eq_true, decide_true, decide_false, and_self, wipeD, Nm.put, Nm.putL, Option.map_some, Option.some.injEq, exists_eq_left', ite_true, ite_false, reduceIte, Nat.reduceLeDiff, List.drop_zero, capsOf, Option.join_some, RST0, List.length_append, List.length_set, lsOf, cutR]
    have hc : ∃ zs : List Int, L3.cutD (ns.map D.int) none (some 9) = zs.map D.int := ⟨L3.cutD ns none (some 9), by simp [L3.cutD, List.map_drop, List.map_take]⟩
    obtain ⟨zs, hz⟩ := hc
    rw [hz]
    refine loop_wp (fun i δ st' => ∃ x o3, δ = [some (.rl (ns.map D.int)), some (.int j), some (.int x), o3, none] ∧ st' = st) ⟨_, _, rfl, rfl⟩ (fun _ _ _ _ => trivial) ?_ ?_
    · rintro i d δ st' hi ⟨x, o3, rfl, rfl⟩
      rw [List.getElem?_map, Option.map_eq_some_iff] at hi
      obtain ⟨z, _, rfl⟩ := hi
      refine ⟨_, by simp only [beg, begF, perm, List.map_cons, List.map_nil, List.length_cons, List.length_nil, List.replicate_succ, List.replicate_zero, Nat.reduceAdd, Nat.reduceSub, Nat.reduceLT, Nat.reduceEqDiff, List.cons_append, List.nil_append, List.append_nil, List.getElem?_cons_succ, List.getElem?_cons_zero, List.getElem?_nil, List.set_cons_succ, List.set_cons_zero, List.filterMap_cons, List.filterMap_nil, if_true, if_false, true_and, and_true, Bool.not_true, Bool.not_false, Bool.true_eq_false, Bool.false_eq_true, decide_true, decide_false, and_self, wipeD, Nm.put, Nm.putL, Option.map_some, Option.some.injEq, exists_eq_left', ite_true, ite_false, reduceIte, Nat.reduceLeDiff, List.drop_zero, capsOf, Option.join_some]; rfl, ?_⟩
      simp only [wp_eCh2, o_mulF, ROPS0, ROPS1, at0I, at1I, at2I, at3I, at4I, decide_eq_true_eq, Int.reduceLT, Int.reduceLE, Int.reducePow, Int.reduceToNat, Int.reduceAdd, Int.reduceMul, Int.reduceSub, Int.reduceNeg, Nat.reduceLT, Nat.reduceLeDiff, RWP0, RWP1, RWP2, RWP3, beg, begF, perm, List.map_cons, List.map_nil, List.length_cons, List.length_nil, List.replicate_succ, List.replicate_zero, Nat.reduceAdd, Nat.reduceSub, Nat.reduceLT, Nat.reduceEqDiff, List.cons_append, List.nil_append, List.append_nil, List.getElem?_cons_succ, List.getElem?_cons_zero, List.getElem?_nil, List.set_cons_succ, List.set_cons_zero, List.filterMap_cons, List.filterMap_nil, if_true, if_false, true_and, and_true, Bool.not_true, Bool.not_false, Bool.true_eq_false, Bool.false_eq_true, decide_true, decide_false, and_self, wipeD, Nm.put, Nm.putL, Option.map_some, Option.some.injEq, exists_eq_left', ite_true, ite_false, reduceIte, Nat.reduceLeDiff, List.drop_zero, capsOf, Option.join_some, RST0, List.length_append, List.length_set]
      exact tid_same rfl ⟨_, _, rfl, rfl⟩
    · rintro δ st' ⟨x, o3, rfl, rfl⟩
      simp only [wp_eCh2, o_mulF, ROPS0, ROPS1, at0I, at1I, at2I, at3I, at4I, decide_eq_true_eq, Int.reduceLT, Int.reduceLE, Int.reducePow, Int.reduceToNat, Int.reduceAdd, Int.reduceMul, Int.reduceSub, Int.reduceNeg, Nat.reduceLT, Nat.reduceLeDiff, RWP0, RWP1, RWP2, RWP3, beg, begF, perm, List.map_cons, List.map_nil, List.length_cons, List.length_nil, List.replicate_succ, List.replicate_zero, Nat.reduceAdd, Nat.reduceSub, Nat.reduceLT, Nat.reduceEqDiff, List.cons_append, List.nil_append, List.append_nil, List.getElem?_cons_succ, List.getElem?_cons_zero, List.getElem?_nil, List.set_cons_succ, List.set_cons_zero, List.filterMap_cons, List.filterMap_nil, if_true, if_false, true_and, and_true, Bool.not_true, Bool.not_false, Bool.true_eq_false, Bool.false_eq_true, decide_true, decide_false, and_self, wipeD, Nm.put, Nm.putL, Option.map_some, Option.some.injEq, exists_eq_left', ite_true, ite_false, reduceIte, Nat.reduceLeDiff, List.drop_zero, capsOf, Option.join_some, RST0, List.length_append, List.length_set, List.length_map]
      have fin2 : ∀ a q : Int, (leaveN st'.length (.loc st'.length) (psh st' (.lst [.int a, .int q, .int 0]))).wp noX fun d st'' => ∃ w, d = .loc st'.length ∧ st'' = psh st' (wc w) := fun a q => by
        unfold leaveN
        dsimp only
        rw [if_pos ⟨rfl, by simp [psh]⟩]
        exact ⟨(a, q, 0), rfl, rfl⟩
      by_cases hl : (j : Int) < (ns.length : Int)
      · have e : atI (ns.map D.int) (j : Int) = some (.int (ns[j]'(by omega))) := by rw [atN (by simp; omega)]; simp
        simp only [hl, wp_eCh2, o_mulF, ROPS0, ROPS1, at0I, at1I, at2I, at3I, at4I, decide_eq_true_eq, Int.reduceLT, Int.reduceLE, Int.reducePow, Int.reduceToNat, Int.reduceAdd, Int.reduceMul, Int.reduceSub, Int.reduceNeg, Nat.reduceLT, Nat.reduceLeDiff, RWP0, RWP1, RWP2, RWP3, beg, begF, perm, List.map_cons, List.map_nil, List.length_cons, List.length_nil, List.replicate_succ, List.replicate_zero, Nat.reduceAdd, Nat.reduceSub, Nat.reduceLT, Nat.reduceEqDiff, List.cons_append, List.nil_append, List.append_nil, List.getElem?_cons_succ, List.getElem?_cons_zero, List.getElem?_nil, List.set_cons_succ, List.set_cons_zero, List.filterMap_cons, List.filterMap_nil, if_true, if_false, true_and, and_true, Bool.not_true, Bool.not_false, Bool.true_eq_false, Bool.false_eq_true, decide_true, decide_false, and_self, wipeD, Nm.put, Nm.putL, Option.map_some, Option.some.injEq, exists_eq_left', ite_true, ite_false, reduceIte, Nat.reduceLeDiff, List.drop_zero, capsOf, Option.join_some, RST0, List.length_append, List.length_set, e]
        generalize ns[j] = z
        by_cases h1 : z < 0
        · simp only [h1, wp_eCh2, o_mulF, ROPS0, ROPS1, at0I, at1I, at2I, at3I, at4I, decide_eq_true_eq, Int.reduceLT, Int.reduceLE, Int.reducePow, Int.reduceToNat, Int.reduceAdd, Int.reduceMul, Int.reduceSub, Int.reduceNeg, Nat.reduceLT, Nat.reduceLeDiff, RWP0, RWP1, RWP2, RWP3, beg, begF, perm, List.map_cons, List.map_nil, List.length_cons, List.length_nil, List.replicate_succ, List.replicate_zero, Nat.reduceAdd, Nat.reduceSub, Nat.reduceLT, Nat.reduceEqDiff, List.cons_append, List.nil_append, List.append_nil, List.getElem?_cons_succ, List.getElem?_cons_zero, List.getElem?_nil, List.set_cons_succ, List.set_cons_zero, List.filterMap_cons, List.filterMap_nil, if_true, if_false, true_and, and_true, Bool.not_true, Bool.not_false, Bool.true_eq_false, Bool.false_eq_true, decide_true, decide_false, and_self, wipeD, Nm.put, Nm.putL, Option.map_some, Option.some.injEq, exists_eq_left', ite_true, ite_false, reduceIte, Nat.reduceLeDiff, List.drop_zero, capsOf, Option.join_some, RST0, List.length_append, List.length_set]
          exact fin2 _ _
        · by_cases h2 : (1000000000000000 : Int) ≤ z
          · simp only [h1, h2, wp_eCh2, o_mulF, ROPS0, ROPS1, at0I, at1I, at2I, at3I, at4I, decide_eq_true_eq, Int.reduceLT, Int.reduceLE, Int.reducePow, Int.reduceToNat, Int.reduceAdd, Int.reduceMul, Int.reduceSub, Int.reduceNeg, Nat.reduceLT, Nat.reduceLeDiff, RWP0, RWP1, RWP2, RWP3, beg, begF, perm, List.map_cons, List.map_nil, List.length_cons, List.length_nil, List.replicate_succ, List.replicate_zero, Nat.reduceAdd, Nat.reduceSub, Nat.reduceLT, Nat.reduceEqDiff, List.cons_append, List.nil_append, List.append_nil, List.getElem?_cons_succ, List.getElem?_cons_zero, List.getElem?_nil, List.set_cons_succ, List.set_cons_zero, List.filterMap_cons, List.filterMap_nil, if_true, if_false, true_and, and_true, Bool.not_true, Bool.not_false, Bool.true_eq_false, Bool.false_eq_true, decide_true, decide_false, and_self, wipeD, Nm.put, Nm.putL, Option.map_some, Option.some.injEq, exists_eq_left', ite_true, ite_false, reduceIte, Nat.reduceLeDiff, List.drop_zero, capsOf, Option.join_some, RST0, List.length_append, List.length_set]
            exact fin2 _ _
          · simp only [h1, h2, wp_eCh2, o_mulF, ROPS0, ROPS1, at0I, at1I, at2I, at3I, at4I, decide_eq_true_eq, Int.reduceLT, Int.reduceLE, Int.reducePow, Int.reduceToNat, Int.reduceAdd, Int.reduceMul, Int.reduceSub, Int.reduceNeg, Nat.reduceLT, Nat.reduceLeDiff, RWP0, RWP1, RWP2, RWP3, beg, begF, perm, List.map_cons, List.map_nil, List.length_cons, List.length_nil, List.replicate_succ, List.replicate_zero, Nat.reduceAdd, Nat.reduceSub, Nat.reduceLT, Nat.reduceEqDiff, List.cons_append, List.nil_append, List.append_nil, List.getElem?_cons_succ, List.getElem?_cons_zero, List.getElem?_nil, List.set_cons_succ, List.set_cons_zero, List.filterMap_cons, List.filterMap_nil, if_true, if_false, true_and, and_true, Bool.not_true, Bool.not_false, Bool.true_eq_false, Bool.false_eq_true, decide_true, decide_false, and_self, wipeD, Nm.put, Nm.putL, Option.map_some, Option.some.injEq, exists_eq_left', ite_true, ite_false, reduceIte, Nat.reduceLeDiff, List.drop_zero, capsOf, Option.join_some, RST0, List.length_append, List.length_set]
            exact fin2 _ _
      · simp only [hl, wp_eCh2, o_mulF, ROPS0, ROPS1, at0I, at1I, at2I, at3I, at4I, decide_eq_true_eq, Int.reduceLT, Int.reduceLE, Int.reducePow, Int.reduceToNat, Int.reduceAdd, Int.reduceMul, Int.reduceSub, Int.reduceNeg, Nat.reduceLT, Nat.reduceLeDiff, RWP0, RWP1, RWP2, RWP3, beg, begF, perm, List.map_cons, List.map_nil, List.length_cons, List.length_nil, List.replicate_succ, List.replicate_zero, Nat.reduceAdd, Nat.reduceSub, Nat.reduceLT, Nat.reduceEqDiff, List.cons_append, List.nil_append, List.append_nil, List.getElem?_cons_succ, List.getElem?_cons_zero, List.getElem?_nil, List.set_cons_succ, List.set_cons_zero, List.filterMap_cons, List.filterMap_nil, if_true, if_false, true_and, and_true, Bool.not_true, Bool.not_false, Bool.true_eq_false, Bool.false_eq_true, decide_true, decide_false, and_self, wipeD, Nm.put, Nm.putL, Option.map_some, Option.some.injEq, exists_eq_left', ite_true, ite_false, reduceIte, Nat.reduceLeDiff, List.drop_zero, capsOf, Option.join_some, RST0, List.length_append, List.length_set]
        exact fin2 _ _
  obtain ⟨a, st', e, w, rfl, rfl⟩ := Res.of_wp h
  exact ⟨w, e⟩
end
end K14

/-! ### text F1x -/
namespace K14
open PySem PySem.Spec PyProof.Rows L2 L3
theorem nice_lit (s : String) (h : 10 * (Str.ofString s).length + 2 ≤ 101) {k : Nat} : Dat k 101 (.str s) := Dat.str (strOk_lit s) h
theorem lc_units {i : Nat} {δ : Sl} {ls : List Lot} {st : Store} {X : XP} {Q : List D → Store → Prop} (hi : i < δ.length) (hl : ls.length ≤ 1000000) (q : Q ((ls.map Lot.c).map D.int) st) : (lcL (fun _ => True) (.one i) tYesM (e2 dIx (eV i) (eC (.int 2))) δ (ls.map Lot.d) [] st).wp X Q := by
  refine lc_pure (fun d => match d with | .tup [_, _, c, _] => some c | _ => none) (by simpa using hl) trivial (fun d hd => ?_) ?_
  · obtain ⟨l, _, rfl⟩ := List.mem_map.mp hd
    refine ⟨_, rfl, ?_⟩
    simp only [wp_eCh2, o_mulF, ROPS0, ROPS1, at0I, at1I, at2I, at3I, at4I, decide_eq_true_eq, Int.reduceLT, Int.reduceLE, Int.reducePow, Int.reduceToNat, Int.reduceAdd, Int.reduceMul, Int.reduceSub, Int.reduceNeg, Nat.reduceLT, Nat.reduceLeDiff, RWP0, RWP1, RWP2, RWP3, beg, begF, perm, List.map_cons, List.map_nil, List.length_cons, List.length_nil, List.replicate_succ, List.replicate_zero, Nat.reduceAdd, Nat.reduceSub, Nat.reduceLT, Nat.reduceEqDiff, List.cons_append, List.nil_append, List.append_nil, List.getElem?_cons_succ, List.getElem?_cons_zero, List.getElem?_nil, List.set_cons_succ, List.set_cons_zero, List.filterMap_cons, List.filterMap_nil, if_true, if_false, true_and, and_true, Bool.not_true, Bool.not_false, Bool.true_eq_false, Bool.false_eq_true, decide_true, decide_false, and_self, wipeD, Nm.put, Nm.putL, Option.map_some, Option.some.injEq, exists_eq_left', ite_true, ite_false, reduceIte, Nat.reduceLeDiff, List.drop_zero, capsOf, Option.join_some, RST0, List.length_append, List.length_set, List.getElem?_set_self hi, Lot.d, lotD]
  · have e : (ls.map Lot.d).filterMap (fun d => match d with | .tup [_, _, c, _] => some c | _ => none) = (ls.map Lot.c).map D.int := by
      clear q
      induction ls with
      | nil => rfl
      | cons l ls ih =>
        have := ih (by simp at hl; omega)
        simp only [List.map_cons, List.filterMap_cons, this, Lot.d, lotD]
    rw [e]
    exact q
theorem sum_bound {e hgh most : Int} {ns : List Str} {ls : List Lot} (h : ∀ l ∈ ls, LotOk e hgh ns l) (hh : 0 ≤ hgh ∧ hgh ≤ 1000000) : 0 ≤ (ls.map Lot.c).sum ∧ (ls.map Lot.c).sum ≤ ls.length * 1000000 := by
  induction ls with
  | nil => simp
  | cons l ls ih =>
    obtain ⟨a, b⟩ := ih fun x hx => h x (List.mem_cons_of_mem _ hx)
    have c := h l List.mem_cons_self
    have := c.c1; have := c.ch
    simp only [List.map_cons, List.sum_cons, List.length_cons]
    omega
theorem parts_dat {e many most hgh : Int} {ns : List Str} {ls : List Lot} (h : PartsOk e many most hgh ns ls) (he : 0 ≤ e ∧ e ≤ 60) (h4 : many ≤ 4) (hm : most ≤ 12) (hh : hgh ≤ 1000000) : Dat 4 10000 (partsD e ns ls) := by
  have n4 : ns.length ≤ 4 := by have := h.n4; omega
  have dn := h.nm.dat n4
  have dl := h.lo.dat h.nm he.2 hh n4 (by omega)
  exact (Dat.tup (DatL.cons (k := 3) (Dat.int' (by omega)) (DatL.cons (dn.mono (by decide) (Nat.le_refl _)) (DatL.cons dl (DatL.nil (n := 0)))))).mono (by decide) (by decide)
theorem zz_not {ns : List Str} (h : NmL ns) : (Str.ofString "zz") ∉ ns := fun hm => (h.1 _ hm).2.2 (by decide +kernel)
theorem lot_not {ns : List Str} (h : NmL ns) : (Str.ofString "lot") ∉ ns := fun hm => by
  have := (h.1 _ hm).1
  have e : nameB (Str.ofString "lot") = false := by decide +kernel
  rw [e] at this
  cases this
theorem empty_not {ns : List Str} (h : NmL ns) : (Str.ofString "") ∉ ns := fun hm => by
  have := (h.1 _ hm).1
  have e : nameB (Str.ofString "") = false := by decide +kernel
  rw [e] at this
  cases this
theorem at0_names {ns : List Str} (h : 1 ≤ ns.length) : ∃ x, x ∈ ns ∧ atI (ns.map D.str) 0 = some (.str x) := by
  cases ns with
  | nil => simp at h
  | cons y ys => exact ⟨y, by simp, by rw [List.map_cons, at0I]⟩
end K14

/-! ### text P6 -/
namespace K14
open PySem PySem.Spec PyProof.Rows L2 L3
/-! ### who can pay -/
def goodB (l : Lot) (day : Int) (kind : Str) : Bool := decide (l.a ≤ day) && decide (day ≤ l.b) && decide (kind ∈ l.ks)
def payG (day : Int) (kind : Str) : Nat → List Lot → List Int
  | _, [] => []
  | k, l :: r => if goodB l day kind = true then (k : Int) :: payG day kind (k + 1) r else payG day kind (k + 1) r
theorem payG_mem {day : Int} {kind : Str} : ∀ (ls : List Lot) (k : Nat) (i : Int), i ∈ payG day kind k ls ↔ ∃ (j : Nat) (l : Lot), ls[j]? = some l ∧ i = ((k + j : Nat) : Int) ∧ goodB l day kind = true
  | [], k, i => by simp [payG]
  | l :: r, k, i => by
    have ih := payG_mem (day := day) (kind := kind) r (k + 1) i
    unfold payG
    constructor
    · intro h
      split at h
      · rename_i g
        rcases List.mem_cons.mp h with rfl | h
        · exact ⟨0, l, rfl, rfl, g⟩
        · obtain ⟨j, l', e1, e2, e3⟩ := ih.mp h
          exact ⟨j + 1, l', e1, by rw [e2]; congr 1; omega, e3⟩
      · obtain ⟨j, l', e1, e2, e3⟩ := ih.mp h
        exact ⟨j + 1, l', e1, by rw [e2]; congr 1; omega, e3⟩
    · rintro ⟨j, l', e1, e2, e3⟩
      cases j with
      | zero =>
        simp at e1; subst e1
        rw [if_pos e3]
        exact List.mem_cons.mpr (.inl e2)
      | succ j =>
        have := ih.mpr ⟨j, l', by simpa using e1, by rw [e2]; congr 1; omega, e3⟩
        split
        · exact List.mem_cons_of_mem _ this
        · exact this
theorem payG_bound {day : Int} {kind : Str} : ∀ (ls : List Lot) (k : Nat), (payG day kind k ls).length ≤ ls.length ∧ ∀ i ∈ payG day kind k ls, 0 ≤ i ∧ i < k + ls.length
  | [], k => by simp [payG]
  | l :: r, k => by
    obtain ⟨a, b⟩ := payG_bound (day := day) (kind := kind) r (k + 1)
    unfold payG
    split
    · refine ⟨by simp; omega, fun i hi => ?_⟩
      rcases List.mem_cons.mp hi with rfl | hi
      · simp; omega
      · have := b i hi; simp; omega
    · refine ⟨by simp; omega, fun i hi => ?_⟩
      have := b i hi; simp; omega
section
variable {K : PySem.W.Frag} {st : Store}
end
section
variable {K : PySem.W.Frag} (F : Pf K) {d : D} {st : Store} {e : Int} {ns : List Str} {ls : List Lot}
include F
theorem hD_obj : objOf (hD K e ns ls) st = some (He.ga K "House", (["last", "names", "rows", "units"] : List Str), [.int e, .tup (ns.map D.str), .tup (ls.map Lot.d), .int (ls.map Lot.c).sum]) := rfl
theorem checkHouse_ok : mf_check_house K [hD K e ns ls] st = .ok .non st := by
  apply Res.wp_eq
  have ty : bIsi K (isC K) [hD K e ns ls, .ref (He.ga K "House")] st = .ok (.bl true) st := by
    simp [bIsi, tyD, clsD, okTy, isC, hD, houseD, F.i_House_House]
  simp only [mf_check_house, m_check_house, wp_eCh2, o_mulF, ROPS0, ROPS1, at0I, at1I, at2I, at3I, at4I, decide_eq_true_eq, Int.reduceLT, Int.reduceLE, Int.reducePow, Int.reduceToNat, Int.reduceAdd, Int.reduceMul, Int.reduceSub, Int.reduceNeg, Nat.reduceLT, Nat.reduceLeDiff, RWP0, RWP1, RWP2, RWP3, beg, begF, perm, List.map_cons, List.map_nil, List.length_cons, List.length_nil, List.replicate_succ, List.replicate_zero, Nat.reduceAdd, Nat.reduceSub, Nat.reduceLT, Nat.reduceEqDiff, List.cons_append, List.nil_append, List.append_nil, List.getElem?_cons_succ, List.getElem?_cons_zero, List.getElem?_nil, List.set_cons_succ, List.set_cons_zero, List.filterMap_cons, List.filterMap_nil, if_true, if_false, true_and, and_true, Bool.not_true, Bool.not_false, Bool.true_eq_false, Bool.false_eq_true, decide_true, decide_false, and_self, wipeD, Nm.put, Nm.putL, Option.map_some, Option.some.injEq, exists_eq_left', ite_true, ite_false, reduceIte, Nat.reduceLeDiff, List.drop_zero, capsOf, Option.join_some, RST0, List.length_append, List.length_set, ty, leave_same]
theorem checkHouse_no (h : Pd d) : mf_check_house K [d] st = .err (He.ga K "NotAHouse") (some ("given", d)) st := by
  apply Res.wp_er
  have ty : bIsi K (isC K) [d, .ref (He.ga K "House")] st = .ok (.bl false) st := by
    obtain ⟨p, h⟩ := h
    cases d <;> first | (cases h; done) | simp [bIsi, tyD, clsD, okTy, isC, F.i_NoneType_House, F.i_bool_House, F.i_int_House, F.i_str_House, F.i_tuple_House, F.i_list_House]
  simp only [mf_check_house, m_check_house, wp_eCh2, o_mulF, ROPS0, ROPS1, at0I, at1I, at2I, at3I, at4I, decide_eq_true_eq, Int.reduceLT, Int.reduceLE, Int.reducePow, Int.reduceToNat, Int.reduceAdd, Int.reduceMul, Int.reduceSub, Int.reduceNeg, Nat.reduceLT, Nat.reduceLeDiff, RWP0, RWP1, RWP2, RWP3, beg, begF, perm, List.map_cons, List.map_nil, List.length_cons, List.length_nil, List.replicate_succ, List.replicate_zero, Nat.reduceAdd, Nat.reduceSub, Nat.reduceLT, Nat.reduceEqDiff, List.cons_append, List.nil_append, List.append_nil, List.getElem?_cons_succ, List.getElem?_cons_zero, List.getElem?_nil, List.set_cons_succ, List.set_cons_zero, List.filterMap_cons, List.filterMap_nil, if_true, if_false, true_and, and_true, Bool.not_true, Bool.not_false, Bool.true_eq_false, Bool.false_eq_true, decide_true, decide_false, and_self, wipeD, Nm.put, Nm.putL, Option.map_some, Option.some.injEq, exists_eq_left', ite_true, ite_false, reduceIte, Nat.reduceLeDiff, List.drop_zero, capsOf, Option.join_some, RST0, List.length_append, List.length_set, ty, leaveE_same]
theorem fld_rows : ((["last", "names", "rows", "units"] : List Str).zip [D.int e, .tup (ns.map D.str), .tup (ls.map Lot.d), .int (ls.map Lot.c).sum]).lookup (Str.ofString "rows") = some (D.tup (ls.map Lot.d)) := by simp [List.lookup, lit_beq]
theorem fld_last : ((["last", "names", "rows", "units"] : List Str).zip [D.int e, .tup (ns.map D.str), .tup (ls.map Lot.d), .int (ls.map Lot.c).sum]).lookup (Str.ofString "last") = some (D.int e) := by simp [List.lookup, lit_beq]
theorem fld_names : ((["last", "names", "rows", "units"] : List Str).zip [D.int e, .tup (ns.map D.str), .tup (ls.map Lot.d), .int (ls.map Lot.c).sum]).lookup (Str.ofString "names") = some (D.tup (ns.map D.str)) := by simp [List.lookup, lit_beq]
end
end K14

/-! ### text K19a -/
namespace K14
open PySem PySem.Spec PyProof.Rows L2 L3
/-! ### sums behind a part -/
def sumB (y p : Int) (w : Str) (i : Int) : Int :=
  if w = Str.ofString "down" then i * y / p else if w = Str.ofString "near" then (2 * (i * y) + p) / (2 * p) else if w = Str.ofString "up" then 0 - (0 - i * y) / p
  else if w = Str.ofString "first" ∨ i = p then i * (y / p) + y - p * (y / p) else i * (y / p)
def sumsL (y : Int) (n : Nat) (w : Str) : List Int := (List.range n).map fun (k : Nat) => sumB y n w (k + 1)
/-- 0 before all parts -/
def sumF (y : Int) (n : Nat) (w : Str) (k : Nat) : Int := if k = 0 then 0 else sumB y n w k
def partsL (y : Int) (n : Nat) (w : Str) : List Int := (List.range n).map fun (k : Nat) => sumF y n w (k + 1) - sumF y n w k
def waysL : List Str := ["down", "near", "up", "first", "last"]
section
variable {K : PySem.W.Frag} {st : Store} {y : Int} {n : Nat} {w : Str}
theorem sumBehind_ok {i : Int} (hy : 0 ≤ y ∧ y ≤ 1000000) (hn : 1 ≤ n ∧ n ≤ 24) (hi : 0 ≤ i ∧ i ≤ 24) : mf_sum_behind K [.int y, .int n, .str w, .int i] st = .ok (.int (sumB y n w i)) st := by
  apply Res.wp_eq
  simp only [mf_sum_behind, m_sum_behind, wp_eCh2, o_mulF, ROPS0, ROPS1, at0I, at1I, at2I, at3I, at4I, decide_eq_true_eq, Int.reduceLT, Int.reduceLE, Int.reducePow, Int.reduceToNat, Int.reduceAdd, Int.reduceMul, Int.reduceSub, Int.reduceNeg, Nat.reduceLT, Nat.reduceLeDiff, RWP0, RWP1, RWP2, RWP3, beg, begF, perm, List.map_cons, List.map_nil, List.length_cons, List.length_nil, List.replicate_succ, List.replicate_zero, Nat.reduceAdd, Nat.reduceSub, Nat.reduceLT, Nat.reduceEqDiff, List.cons_append, List.nil_append, List.append_nil, List.getElem?_cons_succ, List.getElem?_cons_zero, List.getElem?_nil, List.set_cons_succ, List.set_cons_zero, List.filterMap_cons, List.filterMap_nil, if_true, if_false, true_and, and_true, Bool.not_true, Bool.not_false, Bool.true_eq_false, Bool.false_eq_true, decide_true, decide_false, and_self, wipeD, Nm.put, Nm.putL, Option.map_some, Option.some.injEq, exists_eq_left', ite_true, ite_false, reduceIte, Nat.reduceLeDiff, List.drop_zero, capsOf, Option.join_some, RST0, List.length_append, List.length_set, o_mulL (i := i) (j := y) (by omega) (by omega), o_div (i := i * y) (j := n) (by omega) (by omega), o_div (j := 2 * n) (by omega) (by omega), o_div (j := n) (by omega) (by omega), o_mulL (i := i) (by omega) (by omega), o_mulL (i := (n : Int)) (by omega) (by omega)]
  by_cases h1 : w = Str.ofString "down"
  · simp [h1, sumB, leave_same]
  · by_cases h2 : w = Str.ofString "near"
    · simp [h2, sumB, leave_same, lit_eq]
    · by_cases h3 : w = Str.ofString "up"
      · simp [h3, sumB, leave_same, lit_eq]
      · by_cases h4 : w = Str.ofString "first"
        · simp [h4, sumB, leave_same, lit_eq]
        · by_cases h5 : i = (n : Int)
          · simp [h1, h2, h3, h4, h5, sumB, leave_same]
          · simp [h1, h2, h3, h4, h5, sumB, leave_same]
theorem sumsOf_ok (hy : 0 ≤ y ∧ y ≤ 1000000) (hn : 1 ≤ n ∧ n ≤ 24) : mf_sums_of K [.int y, .int n, .str w] st = .ok (.fl ((sumsL y n w).map D.int)) st := by
  apply Res.wp_eq
  simp only [mf_sums_of, m_sums_of, wp_eCh2, o_mulF, ROPS0, ROPS1, at0I, at1I, at2I, at3I, at4I, decide_eq_true_eq, Int.reduceLT, Int.reduceLE, Int.reducePow, Int.reduceToNat, Int.reduceAdd, Int.reduceMul, Int.reduceSub, Int.reduceNeg, Nat.reduceLT, Nat.reduceLeDiff, RWP0, RWP1, RWP2, RWP3, beg, begF, perm, List.map_cons, List.map_nil, List.length_cons, List.length_nil, List.replicate_succ, List.replicate_zero, Nat.reduceAdd, Nat.reduceSub, Nat.reduceLT, Nat.reduceEqDiff, List.cons_append, List.nil_append, List.append_nil, List.getElem?_cons_succ, List.getElem?_cons_zero, List.getElem?_nil, List.set_cons_succ, List.set_cons_zero, List.filterMap_cons, List.filterMap_nil, if_true, if_false, true_and, and_true, Bool.not_true, Bool.not_false, Bool.true_eq_false, Bool.false_eq_true, decide_true, decide_false, and_self, wipeD, Nm.put, Nm.putL, Option.map_some, Option.some.injEq, exists_eq_left', ite_true, ite_false, reduceIte, Nat.reduceLeDiff, List.drop_zero, capsOf, Option.join_some, RST0, List.length_append, List.length_set]
  refine ⟨by omega, ?_⟩
  refine lc_pure (fun d => match d with | .int i => some (.int (sumB y n w i)) | _ => none) (by simp [rangeD]; omega) trivial (fun d hd => ?_) ?_
  · obtain ⟨i, hi, rfl⟩ : ∃ i : Nat, i < n ∧ d = .int (1 + i) := by
      simp only [rangeD, List.mem_map, List.mem_range] at hd
      obtain ⟨i, hi, rfl⟩ := hd
      exact ⟨i, by omega, rfl⟩
    refine ⟨_, by simp only [beg, begF, perm, List.map_cons, List.map_nil, List.length_cons, List.length_nil, List.replicate_succ, List.replicate_zero, Nat.reduceAdd, Nat.reduceSub, Nat.reduceLT, Nat.reduceEqDiff, List.cons_append, List.nil_append, List.append_nil, List.getElem?_cons_succ, List.getElem?_cons_zero, List.getElem?_nil, List.set_cons_succ, List.set_cons_zero, List.filterMap_cons, List.filterMap_nil, if_true, if_false, true_and, and_true, Bool.not_true, Bool.not_false, Bool.true_eq_false, Bool.false_eq_true, decide_true, decide_false, and_self, wipeD, Nm.put, Nm.putL, Option.map_some, Option.some.injEq, exists_eq_left', ite_true, ite_false, reduceIte, Nat.reduceLeDiff, List.drop_zero, capsOf, Option.join_some]; rfl, ?_⟩
    simp only [wp_eCh2, o_mulF, ROPS0, ROPS1, at0I, at1I, at2I, at3I, at4I, decide_eq_true_eq, Int.reduceLT, Int.reduceLE, Int.reducePow, Int.reduceToNat, Int.reduceAdd, Int.reduceMul, Int.reduceSub, Int.reduceNeg, Nat.reduceLT, Nat.reduceLeDiff, RWP0, RWP1, RWP2, RWP3, beg, begF, perm, List.map_cons, List.map_nil, List.length_cons, List.length_nil, List.replicate_succ, List.replicate_zero, Nat.reduceAdd, Nat.reduceSub, Nat.reduceLT, Nat.reduceEqDiff, List.cons_append, List.nil_append, List.append_nil, List.getElem?_cons_succ, List.getElem?_cons_zero, List.getElem?_nil, List.set_cons_succ, List.set_cons_zero, List.filterMap_cons, List.filterMap_nil, if_true, if_false, true_and, and_true, Bool.not_true, Bool.not_false, Bool.true_eq_false, Bool.false_eq_true, decide_true, decide_false, and_self, wipeD, Nm.put, Nm.putL, Option.map_some, Option.some.injEq, exists_eq_left', ite_true, ite_false, reduceIte, Nat.reduceLeDiff, List.drop_zero, capsOf, Option.join_some, RST0, List.length_append, List.length_set, sumBehind_ok (K := K) (w := w) hy hn (show 0 ≤ 1 + (i : Int) ∧ 1 + (i : Int) ≤ 24 by omega)]
  · have e : (rangeD 1 ((n : Int) + 1 - 1).toNat).filterMap (fun d => match d with | .int i => some (.int (sumB y n w i)) | _ => none) = (sumsL y n w).map D.int := by
      unfold rangeD sumsL
      rw [show ((n : Int) + 1 - 1).toNat = n by omega, List.filterMap_map, List.map_map]
      rw [show ((fun d => match d with | D.int i => some (D.int (sumB y n w i)) | _ => none) ∘ fun (i : Nat) => D.int (1 + i)) = some ∘ (D.int ∘ fun (k : Nat) => sumB y n w (k + 1)) from funext fun k => by simp [Int.add_comm]]
      rw [List.filterMap_eq_map]
    rw [e]
    simp only [leave_same, RWP0, RWP1, RWP2, RWP3, beg, begF, perm, List.map_cons, List.map_nil, List.length_cons, List.length_nil, List.replicate_succ, List.replicate_zero, Nat.reduceAdd, Nat.reduceSub, Nat.reduceLT, Nat.reduceEqDiff, List.cons_append, List.nil_append, List.append_nil, List.getElem?_cons_succ, List.getElem?_cons_zero, List.getElem?_nil, List.set_cons_succ, List.set_cons_zero, List.filterMap_cons, List.filterMap_nil, if_true, if_false, true_and, and_true, Bool.not_true, Bool.not_false, Bool.true_eq_false, Bool.false_eq_true, decide_true, decide_false, and_self, wipeD, Nm.put, Nm.putL, Option.map_some, Option.some.injEq, exists_eq_left', ite_true, ite_false, reduceIte, Nat.reduceLeDiff, List.drop_zero, capsOf, Option.join_some, RST0, List.length_append, List.length_set]
theorem zip_sums : zipD (.int 0 :: (sumsL y n w).map D.int) ((sumsL y n w).map D.int) = (List.range n).map fun (k : Nat) => D.tup [.int (sumF y n w k), .int (sumF y n w (k + 1))] := by
  have key : ∀ (F : Nat → Int) (m k : Nat), zipD (.int (F k) :: (List.range' k m).map fun j => D.int (F (j + 1))) ((List.range' k m).map fun j => D.int (F (j + 1))) = (List.range' k m).map fun j => D.tup [.int (F j), .int (F (j + 1))] := by
    intro F m
    induction m with
    | zero => intro k; rfl
    | succ m ih =>
      intro k
      rw [List.range'_succ]
      simp only [List.map_cons, zipD]
      rw [ih (k + 1)]
  have := key (sumF y n w) n 0
  rw [← List.range_eq_range'] at this
  rw [← this]
  unfold sumsL
  rw [List.map_map]
  rfl
theorem partsOf_ok (hy : 0 ≤ y ∧ y ≤ 1000000) (hn : 1 ≤ n ∧ n ≤ 24) : mf_parts_of K [.int y, .int n, .str w] st = .ok (.fl ((partsL y n w).map D.int)) st := by
  apply Res.wp_eq
  have hl : (sumsL y n w).length = n := by simp [sumsL]
  simp only [mf_parts_of, m_parts_of, wp_eCh2, o_mulF, ROPS0, ROPS1, at0I, at1I, at2I, at3I, at4I, decide_eq_true_eq, Int.reduceLT, Int.reduceLE, Int.reducePow, Int.reduceToNat, Int.reduceAdd, Int.reduceMul, Int.reduceSub, Int.reduceNeg, Nat.reduceLT, Nat.reduceLeDiff, RWP0, RWP1, RWP2, RWP3, beg, begF, perm, List.map_cons, List.map_nil, List.length_cons, List.length_nil, List.replicate_succ, List.replicate_zero, Nat.reduceAdd, Nat.reduceSub, Nat.reduceLT, Nat.reduceEqDiff, List.cons_append, List.nil_append, List.append_nil, List.getElem?_cons_succ, List.getElem?_cons_zero, List.getElem?_nil, List.set_cons_succ, List.set_cons_zero, List.filterMap_cons, List.filterMap_nil, if_true, if_false, true_and, and_true, Bool.not_true, Bool.not_false, Bool.true_eq_false, Bool.false_eq_true, decide_true, decide_false, and_self, wipeD, Nm.put, Nm.putL, Option.map_some, Option.some.injEq, exists_eq_left', ite_true, ite_false, reduceIte, Nat.reduceLeDiff, List.drop_zero, capsOf, Option.join_some, RST0, List.length_append, List.length_set, sumsOf_ok (K := K) hy hn, sqOf, lsOf, List.length_map, hl]
  refine ⟨by first | omega | (simp [hl]; omega), ?_⟩
  simp only [wp_eCh2, o_mulF, ROPS0, ROPS1, at0I, at1I, at2I, at3I, at4I, decide_eq_true_eq, Int.reduceLT, Int.reduceLE, Int.reducePow, Int.reduceToNat, Int.reduceAdd, Int.reduceMul, Int.reduceSub, Int.reduceNeg, Nat.reduceLT, Nat.reduceLeDiff, RWP0, RWP1, RWP2, RWP3, beg, begF, perm, List.map_cons, List.map_nil, List.length_cons, List.length_nil, List.replicate_succ, List.replicate_zero, Nat.reduceAdd, Nat.reduceSub, Nat.reduceLT, Nat.reduceEqDiff, List.cons_append, List.nil_append, List.append_nil, List.getElem?_cons_succ, List.getElem?_cons_zero, List.getElem?_nil, List.set_cons_succ, List.set_cons_zero, List.filterMap_cons, List.filterMap_nil, if_true, if_false, true_and, and_true, Bool.not_true, Bool.not_false, Bool.true_eq_false, Bool.false_eq_true, decide_true, decide_false, and_self, wipeD, Nm.put, Nm.putL, Option.map_some, Option.some.injEq, exists_eq_left', ite_true, ite_false, reduceIte, Nat.reduceLeDiff, List.drop_zero, capsOf, Option.join_some, RST0, List.length_append, List.length_set, lsOf, zip_sums]
  refine lc_pure (fun d => match d with | .tup [.int a, .int b] => some (.int (b - a)) | _ => none) (by simp; omega) ⟨trivial, trivial⟩ (fun d hd => ?_) ?_
  · obtain ⟨k, hk, rfl⟩ := List.mem_map.mp hd
    refine ⟨_, by simp only [beg, begF, perm, List.map_cons, List.map_nil, List.length_cons, List.length_nil, List.replicate_succ, List.replicate_zero, Nat.reduceAdd, Nat.reduceSub, Nat.reduceLT, Nat.reduceEqDiff, List.cons_append, List.nil_append, List.append_nil, List.getElem?_cons_succ, List.getElem?_cons_zero, List.getElem?_nil, List.set_cons_succ, List.set_cons_zero, List.filterMap_cons, List.filterMap_nil, if_true, if_false, true_and, and_true, Bool.not_true, Bool.not_false, Bool.true_eq_false, Bool.false_eq_true, decide_true, decide_false, and_self, wipeD, Nm.put, Nm.putL, Option.map_some, Option.some.injEq, exists_eq_left', ite_true, ite_false, reduceIte, Nat.reduceLeDiff, List.drop_zero, capsOf, Option.join_some]; rfl, ?_⟩
    simp only [wp_eCh2, o_mulF, ROPS0, ROPS1, at0I, at1I, at2I, at3I, at4I, decide_eq_true_eq, Int.reduceLT, Int.reduceLE, Int.reducePow, Int.reduceToNat, Int.reduceAdd, Int.reduceMul, Int.reduceSub, Int.reduceNeg, Nat.reduceLT, Nat.reduceLeDiff, RWP0, RWP1, RWP2, RWP3, beg, begF, perm, List.map_cons, List.map_nil, List.length_cons, List.length_nil, List.replicate_succ, List.replicate_zero, Nat.reduceAdd, Nat.reduceSub, Nat.reduceLT, Nat.reduceEqDiff, List.cons_append, List.nil_append, List.append_nil, List.getElem?_cons_succ, List.getElem?_cons_zero, List.getElem?_nil, List.set_cons_succ, List.set_cons_zero, List.filterMap_cons, List.filterMap_nil, if_true, if_false, true_and, and_true, Bool.not_true, Bool.not_false, Bool.true_eq_false, Bool.false_eq_true, decide_true, decide_false, and_self, wipeD, Nm.put, Nm.putL, Option.map_some, Option.some.injEq, exists_eq_left', ite_true, ite_false, reduceIte, Nat.reduceLeDiff, List.drop_zero, capsOf, Option.join_some, RST0, List.length_append, List.length_set]
  · rw [List.filterMap_map]
    have e : ((fun d => match d with | D.tup [.int a, .int b] => some (D.int (b - a)) | _ => none) ∘ fun (k : Nat) => D.tup [.int (sumF y n w k), .int (sumF y n w (k + 1))]) = some ∘ (D.int ∘ fun (k : Nat) => sumF y n w (k + 1) - sumF y n w k) := rfl
    rw [e, List.filterMap_eq_map]
    simp only [leave_same, RWP0, RWP1, RWP2, RWP3, beg, begF, perm, List.map_cons, List.map_nil, List.length_cons, List.length_nil, List.replicate_succ, List.replicate_zero, Nat.reduceAdd, Nat.reduceSub, Nat.reduceLT, Nat.reduceEqDiff, List.cons_append, List.nil_append, List.append_nil, List.getElem?_cons_succ, List.getElem?_cons_zero, List.getElem?_nil, List.set_cons_succ, List.set_cons_zero, List.filterMap_cons, List.filterMap_nil, if_true, if_false, true_and, and_true, Bool.not_true, Bool.not_false, Bool.true_eq_false, Bool.false_eq_true, decide_true, decide_false, and_self, wipeD, Nm.put, Nm.putL, Option.map_some, Option.some.injEq, exists_eq_left', ite_true, ite_false, reduceIte, Nat.reduceLeDiff, List.drop_zero, capsOf, Option.join_some, RST0, List.length_append, List.length_set, partsL, List.map_map]
end
section
variable {K : PySem.W.Frag} (F : Pf K) {st : Store} {y : Int} {n : Nat} {w : Str}
include F
theorem ways_eq : dv_WAYS.map (dvD K) = waysL.map D.str := by simp [dv_WAYS, dvD, waysL]
end
end K14

/-! ### text K19b -/
namespace K14
open PySem PySem.Spec PyProof.Rows L2 L3
/-! ### contracts -/
def contractD (first step : Int) (n : Nat) (y life : Int) (ks : List Str) (w : Str) : D := .tup [.int first, .int step, .int n, .int y, .int life, .tup (ks.map D.str), .str w]
/-- the lot of part k -/
def partLot (first step life e : Int) (G : Nat → Int) (ks : List Str) (k : Nat) : Option Lot :=
  if 0 < G (k + 1) - G k ∧ first + (k : Int) * step ≤ e then some ⟨first + k * step, if e < first + k * step + life then e else first + k * step + life, G (k + 1) - G k, ks⟩ else none
def contractL (first step life e : Int) (G : Nat → Int) (ks : List Str) (n : Nat) : List Lot := (List.range n).filterMap (partLot first step life e G ks)
theorem contractL_len {first step life e : Int} {G : Nat → Int} {ks : List Str} {n : Nat} : (contractL first step life e G ks n).length ≤ n := by
  have := List.length_filterMap_le (partLot first step life e G ks) (List.range n)
  simpa [contractL] using this
theorem contractL_succ {first step life e : Int} {G : Nat → Int} {ks : List Str} {n : Nat} : contractL first step life e G ks (n + 1) = contractL first step life e G ks n ++ (partLot first step life e G ks n).toList := by
  unfold contractL
  rw [List.range_succ, List.filterMap_append]
  cases h : partLot first step life e G ks n <;> simp [h]
theorem lt_days {l l' : Lot} (h : l.a < l'.a) : (!PySem.W.dataLt (L3.encD l'.d) (L3.encD l.d)) = true := by
  rw [encD_lot, encD_lot]
  unfold lotP
  rw [PySem.W.dataLt_tuple, PySem.W.dataLt_all_no (by simp [PySem.W.alike]) (by simp [PyData.eqv]; omega), PySem.W.dataLt_int]
  simp
  omega
theorem contractL_rising {first step life e : Int} {G : Nat → Int} {ks : List Str} {n : Nat} (h : 0 < step) : Rising (contractL first step life e G ks n) := by
  unfold Rising contractL
  rw [List.pairwise_map, List.pairwise_filterMap]
  refine List.Pairwise.imp (fun {i j} hij a ha b hb => ?_) List.pairwise_lt_range
  have da : a.a = first + i * step := by
    unfold partLot at ha; split at ha
    · cases ha; rfl
    · cases ha
  have db : b.a = first + j * step := by
    unfold partLot at hb; split at hb
    · cases hb; rfl
    · cases hb
  refine lt_days ?_
  rw [da, db]
  have : (i : Int) * step < (j : Int) * step := Int.mul_lt_mul_of_pos_right (by omega) h
  omega
section
variable {K : PySem.W.Frag} (F : Pf K) {s st : Store} {e first step y life : Int} {ns ks : List Str} {ls : List Lot} {n : Nat} {w : Str}
include F
theorem isContract_ok (hn : NmL ks) (h4 : ks.length ≤ 4) (h1 : 0 ≤ first ∧ first ≤ e) (h2 : 1 ≤ step ∧ step ≤ 60) (h3 : 1 ≤ n ∧ n ≤ 24) (hy : 0 ≤ y ∧ y ≤ 1000000) (h5 : 1 ≤ life ∧ life ≤ 60) (hk : someB ns (.tup (ks.map D.str)) = true) (hw : w ∈ waysL) :
    mf_is_contract K [hD K e ns ls, contractD first step n y life ks w] st = .ok (.bl true) st := by
  apply Res.wp_eq
  have num : ∀ {i a b : Int} (st : Store), a ≤ i ∧ i ≤ b → mf_is_number K [.int i, .int a, .int b] st = .ok (.bl true) st := fun {i a b} st h => by
    rw [number_ok F (d := .int i) ⟨_, rfl⟩]; simp [numB, h]
  have dk := hn.dat h4
  have dt : Pd (contractD first step n y life ks w) := by
    exact ⟨.tuple [.int first, .int step, .int n, .int y, .int life, .tuple (ks.map PyData.str), .str w], by simp [contractD, toP, toPs, toPs_strs]⟩
  have t7 : mf_is_tuple_of K [contractD first step n y life ks w, .int 7] st = .ok (.bl true) st := by
    rw [show D.int 7 = D.int ((7 : Nat) : Int) from rfl, tupOf_ok F dt]
    simp [tupNB, contractD]
  simp only [mf_is_contract, m_is_contract, wp_eCh2, o_mulF, ROPS0, ROPS1, at0I, at1I, at2I, at3I, at4I, decide_eq_true_eq, Int.reduceLT, Int.reduceLE, Int.reducePow, Int.reduceToNat, Int.reduceAdd, Int.reduceMul, Int.reduceSub, Int.reduceNeg, Nat.reduceLT, Nat.reduceLeDiff, RWP0, RWP1, RWP2, RWP3, beg, begF, perm, List.map_cons, List.map_nil, List.length_cons, List.length_nil, List.replicate_succ, List.replicate_zero, Nat.reduceAdd, Nat.reduceSub, Nat.reduceLT, Nat.reduceEqDiff, List.cons_append, List.nil_append, List.append_nil, List.getElem?_cons_succ, List.getElem?_cons_zero, List.getElem?_nil, List.set_cons_succ, List.set_cons_zero, List.filterMap_cons, List.filterMap_nil, if_true, if_false, true_and, and_true, Bool.not_true, Bool.not_false, Bool.true_eq_false, Bool.false_eq_true, decide_true, decide_false, and_self, wipeD, Nm.put, Nm.putL, Option.map_some, Option.some.injEq, exists_eq_left', ite_true, ite_false, reduceIte, Nat.reduceLeDiff, List.drop_zero, capsOf, Option.join_some, RST0, List.length_append, List.length_set, t7]
  simp only [contractD, wp_eCh2, o_mulF, ROPS0, ROPS1, at0I, at1I, at2I, at3I, at4I, decide_eq_true_eq, Int.reduceLT, Int.reduceLE, Int.reducePow, Int.reduceToNat, Int.reduceAdd, Int.reduceMul, Int.reduceSub, Int.reduceNeg, Nat.reduceLT, Nat.reduceLeDiff, RWP0, RWP1, RWP2, RWP3, beg, begF, perm, List.map_cons, List.map_nil, List.length_cons, List.length_nil, List.replicate_succ, List.replicate_zero, Nat.reduceAdd, Nat.reduceSub, Nat.reduceLT, Nat.reduceEqDiff, List.cons_append, List.nil_append, List.append_nil, List.getElem?_cons_succ, List.getElem?_cons_zero, List.getElem?_nil, List.set_cons_succ, List.set_cons_zero, List.filterMap_cons, List.filterMap_nil, if_true, if_false, true_and, and_true, Bool.not_true, Bool.not_false, Bool.true_eq_false, Bool.false_eq_true, decide_true, decide_false, and_self, wipeD, Nm.put, Nm.putL, Option.map_some, Option.some.injEq, exists_eq_left', ite_true, ite_false, reduceIte, Nat.reduceLeDiff, List.drop_zero, capsOf, Option.join_some, RST0, List.length_append, List.length_set, hD_obj F, fld_last F, fld_names F, num _ h1, num _ h2, num _ (show 1 ≤ (n : Int) ∧ (n : Int) ≤ 24 by omega), num _ hy, num _ h5, someKinds_ok F dk (show (1 : Nat) ≤ 60 by decide), hk, ways_eq F, oneOf_ok F (d := .str w) ⟨_, rfl⟩, show inB waysL (.str w) = true by simpa [inB] using hw,
    show atI [D.int first, D.int step, D.int n, D.int y, D.int life, D.tup (ks.map D.str), D.str w] 5 = some (D.tup (ks.map D.str)) from rfl, show atI [D.int first, D.int step, D.int n, D.int y, D.int life, D.tup (ks.map D.str), D.str w] 6 = some (D.str w) from rfl, leave_same]
theorem checkContract_ok (h : ∀ st, mf_is_contract K [hD K e ns ls, contractD first step n y life ks w] st = .ok (.bl true) st) :
    mf_check_contract K [hD K e ns ls, contractD first step n y life ks w] st = .ok .non st := by
  apply Res.wp_eq
  simp only [mf_check_contract, m_check_contract, wp_eCh2, o_mulF, ROPS0, ROPS1, at0I, at1I, at2I, at3I, at4I, decide_eq_true_eq, Int.reduceLT, Int.reduceLE, Int.reducePow, Int.reduceToNat, Int.reduceAdd, Int.reduceMul, Int.reduceSub, Int.reduceNeg, Nat.reduceLT, Nat.reduceLeDiff, RWP0, RWP1, RWP2, RWP3, beg, begF, perm, List.map_cons, List.map_nil, List.length_cons, List.length_nil, List.replicate_succ, List.replicate_zero, Nat.reduceAdd, Nat.reduceSub, Nat.reduceLT, Nat.reduceEqDiff, List.cons_append, List.nil_append, List.append_nil, List.getElem?_cons_succ, List.getElem?_cons_zero, List.getElem?_nil, List.set_cons_succ, List.set_cons_zero, List.filterMap_cons, List.filterMap_nil, if_true, if_false, true_and, and_true, Bool.not_true, Bool.not_false, Bool.true_eq_false, Bool.false_eq_true, decide_true, decide_false, and_self, wipeD, Nm.put, Nm.putL, Option.map_some, Option.some.injEq, exists_eq_left', ite_true, ite_false, reduceIte, Nat.reduceLeDiff, List.drop_zero, capsOf, Option.join_some, RST0, List.length_append, List.length_set, checkHouse_ok F, h, leave_same]
theorem lotsBy_ok (hs : L3.Cl s) (h2 : 0 < step ∧ step ≤ 60) (h3 : 1 ≤ n ∧ n ≤ 24) (hy : 0 ≤ y ∧ y ≤ 1000000) :
    mf_lots_by K [hD K e ns ls, contractD first step n y life ks w] s = .ok (.fl ((contractL first step life e (sumF y n w) ks n).map Lot.d)) s := by
  have main : mf_lots_by K [hD K e ns ls, contractD first step n y life ks w] (lst s []) = .ok (.fl ((contractL first step life e (sumF y n w) ks n).map Lot.d)) (lst s []) := by
    apply Res.wp_eq
    have hl : (partsL y n w).length = n := by simp [partsL]
    have sh : ∀ (i : Nat) (ls : List Lot), shutL i (ls.map Lot.d) = true := fun i ls => shutL_toP _ _ (toPs_lots ls)
    simp only [mf_lots_by, m_lots_by, wp_eCh2, o_mulF, ROPS0, ROPS1, at0I, at1I, at2I, at3I, at4I, decide_eq_true_eq, Int.reduceLT, Int.reduceLE, Int.reducePow, Int.reduceToNat, Int.reduceAdd, Int.reduceMul, Int.reduceSub, Int.reduceNeg, Nat.reduceLT, Nat.reduceLeDiff, RWP0, RWP1, RWP2, RWP3, beg, begF, perm, List.map_cons, List.map_nil, List.length_cons, List.length_nil, List.replicate_succ, List.replicate_zero, Nat.reduceAdd, Nat.reduceSub, Nat.reduceLT, Nat.reduceEqDiff, List.cons_append, List.nil_append, List.append_nil, List.getElem?_cons_succ, List.getElem?_cons_zero, List.getElem?_nil, List.set_cons_succ, List.set_cons_zero, List.filterMap_cons, List.filterMap_nil, if_true, if_false, true_and, and_true, Bool.not_true, Bool.not_false, Bool.true_eq_false, Bool.false_eq_true, decide_true, decide_false, and_self, wipeD, Nm.put, Nm.putL, Option.map_some, Option.some.injEq, exists_eq_left', ite_true, ite_false, reduceIte, Nat.reduceLeDiff, List.drop_zero, capsOf, Option.join_some, RST0, List.length_append, List.length_set, contractD, partsOf_ok (K := K) hy h3, lsOf]
    refine loop_wp (fun j δ st => ∃ o10 o11 o12, δ = [some (hD K e ns ls), some (contractD first step n y life ks w), some (.int first), some (.int step), some (.int n), some (.int y), some (.int life), some (.tup (ks.map D.str)), some (.str w), some (.loc (s.length + 0)), o10, o11, o12] ∧ st = lst s [.lst ((contractL first step life e (sumF y n w) ks j).map Lot.d)]) ⟨_, _, _, rfl, rfl⟩ (fun _ _ _ _ => trivial) ?_ ?_
    · rintro j d δ st hj ⟨o10, o11, o12, rfl, rfl⟩
      obtain ⟨x, hx, rfl⟩ := enumD_get _ _ _ _ hj
      rw [List.getElem?_map, Option.map_eq_some_iff] at hx
      obtain ⟨z, hz, rfl⟩ := hx
      have hjn : j < n := by have := (List.getElem?_eq_some_iff.mp hz).1; omega
      have ez : z = sumF y n w (j + 1) - sumF y n w j := by
        simp only [partsL, List.getElem?_map, Option.map_eq_some_iff] at hz
        obtain ⟨a, ha, e⟩ := hz
        rw [List.getElem?_range hjn] at ha
        cases ha
        exact e.symm
      have e0 : (lst s [.lst ((contractL first step life e (sumF y n w) ks j).map Lot.d)])[s.length + 0]? = some (.lst ((contractL first step life e (sumF y n w) ks j).map Lot.d)) := by rw [lst_k]; rfl
      have e1 : ((contractL first step life e (sumF y n w) ks j).map Lot.d).length < 1000000 := by
        have := contractL_len (first := first) (step := step) (life := life) (e := e) (G := sumF y n w) (ks := ks) (n := j)
        rw [List.length_map]; omega
      refine ⟨_, by simp only [beg, begF, perm, List.map_cons, List.map_nil, List.length_cons, List.length_nil, List.replicate_succ, List.replicate_zero, Nat.reduceAdd, Nat.reduceSub, Nat.reduceLT, Nat.reduceEqDiff, List.cons_append, List.nil_append, List.append_nil, List.getElem?_cons_succ, List.getElem?_cons_zero, List.getElem?_nil, List.set_cons_succ, List.set_cons_zero, List.filterMap_cons, List.filterMap_nil, if_true, if_false, true_and, and_true, Bool.not_true, Bool.not_false, Bool.true_eq_false, Bool.false_eq_true, decide_true, decide_false, and_self, wipeD, Nm.put, Nm.putL, Option.map_some, Option.some.injEq, exists_eq_left', ite_true, ite_false, reduceIte, Nat.reduceLeDiff, List.drop_zero, capsOf, Option.join_some]; rfl, ?_⟩
      simp only [wp_eCh2, o_mulF, ROPS0, ROPS1, at0I, at1I, at2I, at3I, at4I, decide_eq_true_eq, Int.reduceLT, Int.reduceLE, Int.reducePow, Int.reduceToNat, Int.reduceAdd, Int.reduceMul, Int.reduceSub, Int.reduceNeg, Nat.reduceLT, Nat.reduceLeDiff, RWP0, RWP1, RWP2, RWP3, beg, begF, perm, List.map_cons, List.map_nil, List.length_cons, List.length_nil, List.replicate_succ, List.replicate_zero, Nat.reduceAdd, Nat.reduceSub, Nat.reduceLT, Nat.reduceEqDiff, List.cons_append, List.nil_append, List.append_nil, List.getElem?_cons_succ, List.getElem?_cons_zero, List.getElem?_nil, List.set_cons_succ, List.set_cons_zero, List.filterMap_cons, List.filterMap_nil, if_true, if_false, true_and, and_true, Bool.not_true, Bool.not_false, Bool.true_eq_false, Bool.false_eq_true, decide_true, decide_false, and_self, wipeD, Nm.put, Nm.putL, Option.map_some, Option.some.injEq, exists_eq_left', ite_true, ite_false, reduceIte, Nat.reduceLeDiff, List.drop_zero, capsOf, Option.join_some, RST0, List.length_append, List.length_set, hD_obj F, fld_last F, o_mulR (j := step) (by omega) (by omega)]
      by_cases c1 : 0 < z
      · by_cases c2 : first + ((0 + j : Nat) : Int) * step ≤ e
        · simp only [c1, c2, wp_eCh2, o_mulF, ROPS0, ROPS1, at0I, at1I, at2I, at3I, at4I, decide_eq_true_eq, Int.reduceLT, Int.reduceLE, Int.reducePow, Int.reduceToNat, Int.reduceAdd, Int.reduceMul, Int.reduceSub, Int.reduceNeg, Nat.reduceLT, Nat.reduceLeDiff, RWP0, RWP1, RWP2, RWP3, beg, begF, perm, List.map_cons, List.map_nil, List.length_cons, List.length_nil, List.replicate_succ, List.replicate_zero, Nat.reduceAdd, Nat.reduceSub, Nat.reduceLT, Nat.reduceEqDiff, List.cons_append, List.nil_append, List.append_nil, List.getElem?_cons_succ, List.getElem?_cons_zero, List.getElem?_nil, List.set_cons_succ, List.set_cons_zero, List.filterMap_cons, List.filterMap_nil, if_true, if_false, true_and, and_true, Bool.not_true, Bool.not_false, Bool.true_eq_false, Bool.false_eq_true, decide_true, decide_false, and_self, wipeD, Nm.put, Nm.putL, Option.map_some, Option.some.injEq, exists_eq_left', ite_true, ite_false, reduceIte, Nat.reduceLeDiff, List.drop_zero, capsOf, Option.join_some, RST0, List.length_append, List.length_set, hD_obj F, fld_last F, o_isLs e0, o_append e0 e1]
          refine tid_same (by simp only [RST0, List.length_append, List.length_set, beg, begF, perm, List.map_cons, List.map_nil, List.length_cons, List.length_nil, List.replicate_succ, List.replicate_zero, Nat.reduceAdd, Nat.reduceSub, Nat.reduceLT, Nat.reduceEqDiff, List.cons_append, List.nil_append, List.append_nil, List.getElem?_cons_succ, List.getElem?_cons_zero, List.getElem?_nil, List.set_cons_succ, List.set_cons_zero, List.filterMap_cons, List.filterMap_nil, if_true, if_false, true_and, and_true, Bool.not_true, Bool.not_false, Bool.true_eq_false, Bool.false_eq_true, decide_true, decide_false, and_self, wipeD, Nm.put, Nm.putL, Option.map_some, Option.some.injEq, exists_eq_left', ite_true, ite_false, reduceIte, Nat.reduceLeDiff, List.drop_zero, capsOf, Option.join_some]) ⟨_, _, _, rfl, ?_⟩
          rw [contractL_succ]
          have : partLot first step life e (sumF y n w) ks j = some ⟨first + j * step, if e < first + j * step + life then e else first + j * step + life, z, ks⟩ := by
            unfold partLot; rw [← ez, if_pos ⟨c1, by simpa using c2⟩]
          rw [this, List.map_append]
          simp [Lot.d, lotD]
        · simp only [c1, c2, wp_eCh2, o_mulF, ROPS0, ROPS1, at0I, at1I, at2I, at3I, at4I, decide_eq_true_eq, Int.reduceLT, Int.reduceLE, Int.reducePow, Int.reduceToNat, Int.reduceAdd, Int.reduceMul, Int.reduceSub, Int.reduceNeg, Nat.reduceLT, Nat.reduceLeDiff, RWP0, RWP1, RWP2, RWP3, beg, begF, perm, List.map_cons, List.map_nil, List.length_cons, List.length_nil, List.replicate_succ, List.replicate_zero, Nat.reduceAdd, Nat.reduceSub, Nat.reduceLT, Nat.reduceEqDiff, List.cons_append, List.nil_append, List.append_nil, List.getElem?_cons_succ, List.getElem?_cons_zero, List.getElem?_nil, List.set_cons_succ, List.set_cons_zero, List.filterMap_cons, List.filterMap_nil, if_true, if_false, true_and, and_true, Bool.not_true, Bool.not_false, Bool.true_eq_false, Bool.false_eq_true, decide_true, decide_false, and_self, wipeD, Nm.put, Nm.putL, Option.map_some, Option.some.injEq, exists_eq_left', ite_true, ite_false, reduceIte, Nat.reduceLeDiff, List.drop_zero, capsOf, Option.join_some, RST0, List.length_append, List.length_set, hD_obj F, fld_last F]
          refine tid_same (by simp only [RST0, List.length_append, List.length_set, beg, begF, perm, List.map_cons, List.map_nil, List.length_cons, List.length_nil, List.replicate_succ, List.replicate_zero, Nat.reduceAdd, Nat.reduceSub, Nat.reduceLT, Nat.reduceEqDiff, List.cons_append, List.nil_append, List.append_nil, List.getElem?_cons_succ, List.getElem?_cons_zero, List.getElem?_nil, List.set_cons_succ, List.set_cons_zero, List.filterMap_cons, List.filterMap_nil, if_true, if_false, true_and, and_true, Bool.not_true, Bool.not_false, Bool.true_eq_false, Bool.false_eq_true, decide_true, decide_false, and_self, wipeD, Nm.put, Nm.putL, Option.map_some, Option.some.injEq, exists_eq_left', ite_true, ite_false, reduceIte, Nat.reduceLeDiff, List.drop_zero, capsOf, Option.join_some]) ⟨_, _, _, rfl, ?_⟩
          rw [contractL_succ]
          have : partLot first step life e (sumF y n w) ks j = none := by
            unfold partLot; rw [← ez, if_neg fun h => c2 (by simpa using h.2)]
          rw [this]; simp
      · simp only [c1, wp_eCh2, o_mulF, ROPS0, ROPS1, at0I, at1I, at2I, at3I, at4I, decide_eq_true_eq, Int.reduceLT, Int.reduceLE, Int.reducePow, Int.reduceToNat, Int.reduceAdd, Int.reduceMul, Int.reduceSub, Int.reduceNeg, Nat.reduceLT, Nat.reduceLeDiff, RWP0, RWP1, RWP2, RWP3, beg, begF, perm, List.map_cons, List.map_nil, List.length_cons, List.length_nil, List.replicate_succ, List.replicate_zero, Nat.reduceAdd, Nat.reduceSub, Nat.reduceLT, Nat.reduceEqDiff, List.cons_append, List.nil_append, List.append_nil, List.getElem?_cons_succ, List.getElem?_cons_zero, List.getElem?_nil, List.set_cons_succ, List.set_cons_zero, List.filterMap_cons, List.filterMap_nil, if_true, if_false, true_and, and_true, Bool.not_true, Bool.not_false, Bool.true_eq_false, Bool.false_eq_true, decide_true, decide_false, and_self, wipeD, Nm.put, Nm.putL, Option.map_some, Option.some.injEq, exists_eq_left', ite_true, ite_false, reduceIte, Nat.reduceLeDiff, List.drop_zero, capsOf, Option.join_some, RST0, List.length_append, List.length_set]
        refine tid_same (by simp only [RST0, List.length_append, List.length_set, beg, begF, perm, List.map_cons, List.map_nil, List.length_cons, List.length_nil, List.replicate_succ, List.replicate_zero, Nat.reduceAdd, Nat.reduceSub, Nat.reduceLT, Nat.reduceEqDiff, List.cons_append, List.nil_append, List.append_nil, List.getElem?_cons_succ, List.getElem?_cons_zero, List.getElem?_nil, List.set_cons_succ, List.set_cons_zero, List.filterMap_cons, List.filterMap_nil, if_true, if_false, true_and, and_true, Bool.not_true, Bool.not_false, Bool.true_eq_false, Bool.false_eq_true, decide_true, decide_false, and_self, wipeD, Nm.put, Nm.putL, Option.map_some, Option.some.injEq, exists_eq_left', ite_true, ite_false, reduceIte, Nat.reduceLeDiff, List.drop_zero, capsOf, Option.join_some]) ⟨_, _, _, rfl, ?_⟩
        rw [contractL_succ]
        have : partLot first step life e (sumF y n w) ks j = none := by
          unfold partLot; rw [← ez, if_neg fun h => c1 h.1]
        rw [this]; simp
    · rintro δ st ⟨o10, o11, o12, rfl, rfl⟩
      have e2 : (L3.enumD 0 ((partsL y n w).map D.int)).length = n := by rw [enumD_len]; simp [hl]
      rw [e2]
      generalize hc : contractL first step life e (sumF y n w) ks n = cur
      have e0 : (lst s [.lst (cur.map Lot.d)])[s.length + 0]? = some (.lst (cur.map Lot.d)) := by rw [lst_k]; rfl
      have hlen : cur.length ≤ n := by rw [← hc]; exact contractL_len
      have hb : bSorted [.loc (s.length + 0)] (lst s [.lst (cur.map Lot.d)]) = .ok (.fl (cur.map Lot.d)) (lst s [.lst (cur.map Lot.d)]) := by
        simp only [bSorted, lsOf, e0, if_pos (sortOk_lots cur (by omega))]
        rw [List.mergeSort_of_pairwise]
        have := contractL_rising (first := first) (step := step) (life := life) (e := e) (G := sumF y n w) (ks := ks) (n := n) h2.1
        rw [hc] at this
        exact this
      simp only [wp_eCh2, o_mulF, ROPS0, ROPS1, at0I, at1I, at2I, at3I, at4I, decide_eq_true_eq, Int.reduceLT, Int.reduceLE, Int.reducePow, Int.reduceToNat, Int.reduceAdd, Int.reduceMul, Int.reduceSub, Int.reduceNeg, Nat.reduceLT, Nat.reduceLeDiff, RWP0, RWP1, RWP2, RWP3, beg, begF, perm, List.map_cons, List.map_nil, List.length_cons, List.length_nil, List.replicate_succ, List.replicate_zero, Nat.reduceAdd, Nat.reduceSub, Nat.reduceLT, Nat.reduceEqDiff, List.cons_append, List.nil_append, List.append_nil, List.getElem?_cons_succ, List.getElem?_cons_zero, List.getElem?_nil, List.set_cons_succ, List.set_cons_zero, List.filterMap_cons, List.filterMap_nil, if_true, if_false, true_and, and_true, Bool.not_true, Bool.not_false, Bool.true_eq_false, Bool.false_eq_true, decide_true, decide_false, and_self, wipeD, Nm.put, Nm.putL, Option.map_some, Option.some.injEq, exists_eq_left', ite_true, ite_false, reduceIte, Nat.reduceLeDiff, List.drop_zero, capsOf, Option.join_some, RST0, List.length_append, List.length_set, hb]
      exact leave_lst hs (x := .fl (cur.map Lot.d)) (by simp [outD, shut, sh]) ⟨rfl, rfl⟩
  rwa [lst_nil] at main
theorem contractLots_ok (hs : L3.Cl st) (hn : NmL ks) (h4 : ks.length ≤ 4) (h1 : 0 ≤ first ∧ first ≤ e) (h2 : 1 ≤ step ∧ step ≤ 60) (h3 : 1 ≤ n ∧ n ≤ 24) (hy : 0 ≤ y ∧ y ≤ 1000000) (h5 : 1 ≤ life ∧ life ≤ 60) (hk : someB ns (.tup (ks.map D.str)) = true) (hw : w ∈ waysL) :
    mf_contract_lots K [hD K e ns ls, contractD first step n y life ks w] st = .ok (.tup ((contractL first step life e (sumF y n w) ks n).map Lot.d)) st := by
  apply Res.wp_eq
  simp only [mf_contract_lots, m_contract_lots, wp_eCh2, o_mulF, ROPS0, ROPS1, at0I, at1I, at2I, at3I, at4I, decide_eq_true_eq, Int.reduceLT, Int.reduceLE, Int.reducePow, Int.reduceToNat, Int.reduceAdd, Int.reduceMul, Int.reduceSub, Int.reduceNeg, Nat.reduceLT, Nat.reduceLeDiff, RWP0, RWP1, RWP2, RWP3, beg, begF, perm, List.map_cons, List.map_nil, List.length_cons, List.length_nil, List.replicate_succ, List.replicate_zero, Nat.reduceAdd, Nat.reduceSub, Nat.reduceLT, Nat.reduceEqDiff, List.cons_append, List.nil_append, List.append_nil, List.getElem?_cons_succ, List.getElem?_cons_zero, List.getElem?_nil, List.set_cons_succ, List.set_cons_zero, List.filterMap_cons, List.filterMap_nil, if_true, if_false, true_and, and_true, Bool.not_true, Bool.not_false, Bool.true_eq_false, Bool.false_eq_true, decide_true, decide_false, and_self, wipeD, Nm.put, Nm.putL, Option.map_some, Option.some.injEq, exists_eq_left', ite_true, ite_false, reduceIte, Nat.reduceLeDiff, List.drop_zero, capsOf, Option.join_some, RST0, List.length_append, List.length_set, checkContract_ok F (fun st => isContract_ok F hn h4 h1 h2 h3 hy h5 hk hw), lotsBy_ok F hs (show 0 < step ∧ step ≤ 60 by omega) h3 hy, leave_same]
end
section
variable {K : PySem.W.Frag} {st : Store}
end
end K14

/-! ### text K19c -/
namespace K14
open PySem PySem.Spec PyProof.Rows L2 L3
/-! ### what the sums obey -/
def ways3 : List Str := ["down", "near", "up"]
theorem ways3_cases {w : Str} (h : w ∈ ways3) : w = Str.ofString "down" ∨ w = Str.ofString "near" ∨ w = Str.ofString "up" := by simpa [ways3] using h
theorem ways3_ways {w : Str} (h : w ∈ ways3) : w ∈ waysL := by
  rcases ways3_cases h with rfl | rfl | rfl <;> simp [waysL]
theorem sumB_down (y p i : Int) : sumB y p (Str.ofString "down") i = i * y / p := by simp [sumB]
theorem sumB_near (y p i : Int) : sumB y p (Str.ofString "near") i = (2 * (i * y) + p) / (2 * p) := by simp [sumB, lit_eq]
theorem sumB_up (y p i : Int) : sumB y p (Str.ofString "up") i = 0 - (0 - i * y) / p := by simp [sumB, lit_eq]
theorem sumB_scale {y n t i : Int} {w : Str} (hw : w ∈ ways3) (ht : 0 < t) : sumB y (n * t) w (i * t) = sumB y n w i := by
  rcases ways3_cases hw with rfl | rfl | rfl
  · rw [sumB_down, sumB_down, show i * t * y = (i * y) * t by rw [Int.mul_right_comm], Int.mul_ediv_mul_of_pos_left _ _ ht]
  · rw [sumB_near, sumB_near, show 2 * (i * t * y) + n * t = (2 * (i * y) + n) * t by rw [Int.mul_right_comm i t y, Int.add_mul, Int.mul_assoc 2], show 2 * (n * t) = (2 * n) * t by rw [Int.mul_assoc], Int.mul_ediv_mul_of_pos_left _ _ ht]
  · rw [sumB_up, sumB_up, show 0 - i * t * y = (0 - i * y) * t by rw [Int.mul_right_comm, Int.sub_mul, Int.zero_mul], Int.mul_ediv_mul_of_pos_left _ _ ht]
theorem far_down {y p i : Int} (hp : 0 < p) : -p < sumB y p (Str.ofString "down") i * p - i * y ∧ sumB y p (Str.ofString "down") i * p - i * y ≤ 0 := by
  rw [sumB_down]
  generalize i * y = a
  have h1 := Int.mul_ediv_add_emod a p
  have h2 := Int.emod_nonneg a (show p ≠ 0 by omega)
  have h3 := Int.emod_lt_of_pos a hp
  rw [Int.mul_comm] at h1
  generalize a / p * p = z at *
  omega
theorem far_near {y p i : Int} (hp : 0 < p) : -p ≤ 2 * (sumB y p (Str.ofString "near") i * p - i * y) ∧ 2 * (sumB y p (Str.ofString "near") i * p - i * y) ≤ p := by
  rw [sumB_near]
  generalize i * y = a
  have h1 := Int.mul_ediv_add_emod (2 * a + p) (2 * p)
  have h2 := Int.emod_nonneg (2 * a + p) (show 2 * p ≠ 0 by omega)
  have h3 := Int.emod_lt_of_pos (2 * a + p) (show 0 < 2 * p by omega)
  rw [Int.mul_assoc, Int.mul_comm p] at h1
  generalize (2 * a + p) / (2 * p) * p = z at *
  omega
theorem far_up {y p i : Int} (hp : 0 < p) : 0 ≤ sumB y p (Str.ofString "up") i * p - i * y ∧ sumB y p (Str.ofString "up") i * p - i * y < p := by
  rw [sumB_up, Int.sub_mul, Int.zero_mul]
  generalize i * y = a
  have h1 := Int.mul_ediv_add_emod (0 - a) p
  have h2 := Int.emod_nonneg (0 - a) (show p ≠ 0 by omega)
  have h3 := Int.emod_lt_of_pos (0 - a) hp
  rw [Int.mul_comm] at h1
  generalize (0 - a) / p * p = z at *
  omega
theorem sumB_whole {c n i : Int} {w : Str} (hw : w ∈ waysL) (hn : 0 < n) : sumB (c * n) n w i = i * c := by
  have e : i * (c * n) = (i * c) * n := by rw [Int.mul_assoc]
  have n0 : n ≠ 0 := by omega
  have hw : w = Str.ofString "down" ∨ w = Str.ofString "near" ∨ w = Str.ofString "up" ∨ w = Str.ofString "first" ∨ w = Str.ofString "last" := by simpa [waysL] using hw
  have q : c * n / n = c := Int.mul_ediv_cancel _ n0
  rcases hw with rfl | rfl | rfl | rfl | rfl
  · rw [sumB_down, e, Int.mul_ediv_cancel _ n0]
  · rw [sumB_near, e, show 2 * (i * c * n) + n = n + (i * c) * (2 * n) by rw [Int.mul_left_comm 2, Int.add_comm], Int.add_mul_ediv_right _ _ (by omega), Int.ediv_eq_zero_of_lt (by omega) (by omega), Int.zero_add]
  · rw [sumB_up, e, show 0 - i * c * n = (0 - i * c) * n by rw [Int.sub_mul, Int.zero_mul], Int.mul_ediv_cancel _ n0]; omega
  · simp only [sumB, lit_eq]
    simp [q, Int.mul_comm n c]
  · simp only [sumB, lit_eq]
    simp [q]
    intro h; subst h; simp [Int.mul_comm]
theorem sumF_eq {y : Int} {n : Nat} {w : Str} (hw : w ∈ ways3) (hn : 0 < n) (k : Nat) : sumF y n w k = sumB y n w k := by
  unfold sumF
  split
  · rename_i h
    subst h
    rcases ways3_cases hw with rfl | rfl | rfl
    · rw [sumB_down]; simp
    · rw [sumB_near, show 2 * (((0 : Nat) : Int) * y) + (n : Int) = n by simp, Int.ediv_eq_zero_of_lt (by omega) (by omega)]
    · rw [sumB_up]; simp
  · rfl
theorem sumF_mono {y : Int} {n : Nat} {w : Str} (hw : w ∈ ways3) (hn : 0 < n) (hy : 0 ≤ y) (k : Nat) : sumF y n w k ≤ sumF y n w (k + 1) := by
  rw [sumF_eq hw hn, sumF_eq hw hn]
  have h : (k : Int) * y ≤ ((k + 1 : Nat) : Int) * y := Int.mul_le_mul_of_nonneg_right (by omega) hy
  rcases ways3_cases hw with rfl | rfl | rfl
  · rw [sumB_down, sumB_down]; exact Int.ediv_le_ediv (by omega) h
  · rw [sumB_near, sumB_near]; exact Int.ediv_le_ediv (by omega) (by omega)
  · rw [sumB_up, sumB_up]
    have := Int.ediv_le_ediv (c := (n : Int)) (by omega) (show 0 - ((k + 1 : Nat) : Int) * y ≤ 0 - (k : Int) * y by omega)
    omega
theorem parts_whole {c : Int} {n : Nat} {w : Str} (hw : w ∈ waysL) (hn : 0 < n) : partsL (c * n) n w = List.replicate n c := by
  unfold partsL
  apply List.ext_getElem
  · simp
  · intro k h1 h2
    simp only [List.getElem_map, List.getElem_range, List.getElem_replicate]
    have f : ∀ k : Nat, sumF (c * n) n w k = k * c := fun k => by
      unfold sumF
      split
      · rename_i h; subst h; simp
      · exact sumB_whole hw (by omega)
    rw [f, f, Int.natCast_add, Int.add_mul]
    simp
    omega
theorem sumI_append (a b : List Int) : (a ++ b).sum = a.sum + b.sum := by
  induction a with
  | nil => simp
  | cons x a ih => simp only [List.cons_append, List.sum_cons, ih]; omega
theorem units_upto {first step life e day : Int} {G : Nat → Int} {ks : List Str} (h0 : G 0 = 0) (hm : ∀ k, G k ≤ G (k + 1)) (hd : day ≤ e) : ∀ n m : Nat, m ≤ n → (∀ k : Nat, k < n → (first + (k : Int) * step ≤ day ↔ k < m)) →
    (((contractL first step life e G ks n).filter fun l => decide (l.a ≤ day)).map Lot.c).sum = G m
  | 0, m, h, _ => by
    obtain rfl : m = 0 := by omega
    rw [h0]; rfl
  | n + 1, m, h, hk => by
    rw [contractL_succ, List.filter_append, List.map_append, sumI_append]
    have hn := hk n (by omega)
    by_cases q : m = n + 1
    · subst q
      rw [units_upto h0 hm hd n n (Nat.le_refl _) fun k hk' => by have := hk k (by omega); rw [this]; omega]
      have l : first + (n : Int) * step ≤ day := hn.mpr (by omega)
      have := hm n
      unfold partLot
      by_cases p : 0 < G (n + 1) - G n
      · rw [if_pos ⟨p, by omega⟩]
        simp [l]; omega
      · rw [if_neg fun z => p z.1]
        simp; omega
    · rw [units_upto h0 hm hd n m (by omega) fun k hk' => hk k (by omega)]
      have l : ¬ first + (n : Int) * step ≤ day := fun z => by have := hn.mp z; omega
      unfold partLot
      split
      · simp [l]
      · simp
theorem o_mulT {xs : List D} {k : Nat} {st : Store} (h0 : 1 ≤ k) (h1 : k ≤ 1000) (h2 : xs.length ≤ 1000) (h3 : xs ≠ []) : dMul (.tup xs) (.int k) st = .ok (.tup (List.replicate k xs).flatten) st := by
  simp only [dMul]
  by_cases h : (k : Int) = 1
  · rw [if_pos h]
    obtain rfl : k = 1 := by omega
    simp
  · rw [if_neg h, if_pos ⟨h3, by omega, by omega, h2⟩]
    simp
theorem ne_self {k n : Nat} {d : D} (h : Dat k n d) (hk : k ≤ 64) (st : Store) : dNe d d st = .ok (.bl false) st := by
  obtain ⟨p, hp⟩ := h
  rw [o_neD hp hp hk hk, SeqAt.eqv_refl p hp.c]
  rfl
end K14

/-! ### text K14a -/
namespace K14
open PySem PySem.Spec PyProof.Rows L2 L3
/-! ### what is a contract -/
def contractB (e : Int) (ns : List Str) (d : D) : Bool := match d with
  | .tup [a, b, c, y, l, q, w] => numB a 0 e && numB b 1 60 && numB c 1 24 && numB y 0 1000000 && numB l 1 60 && someB ns q && inB waysL w
  | _ => false
section
variable {K : PySem.W.Frag} (F : Pf K) {st : Store} {e : Int} {ns : List Str} {ls : List Lot} {d h : D}
include F
theorem isContract_eq {k n : Nat} (hd : Dat k n d) (hk : k ≤ 60) : mf_is_contract K [hD K e ns ls, d] st = .ok (.bl (contractB e ns d)) st := by
  apply Res.wp_eq
  simp only [mf_is_contract, m_is_contract, wp_eCh2, o_mulF, ROPS0, ROPS1, at0I, at1I, at2I, at3I, at4I, decide_eq_true_eq, Int.reduceLT, Int.reduceLE, Int.reducePow, Int.reduceToNat, Int.reduceAdd, Int.reduceMul, Int.reduceSub, Int.reduceNeg, Nat.reduceLT, Nat.reduceLeDiff, RWP0, RWP1, RWP2, RWP3, beg, begF, perm, List.map_cons, List.map_nil, List.length_cons, List.length_nil, List.replicate_succ, List.replicate_zero, Nat.reduceAdd, Nat.reduceSub, Nat.reduceLT, Nat.reduceEqDiff, List.cons_append, List.nil_append, List.append_nil, List.getElem?_cons_succ, List.getElem?_cons_zero, List.getElem?_nil, List.set_cons_succ, List.set_cons_zero, List.filterMap_cons, List.filterMap_nil, if_true, if_false, true_and, and_true, Bool.not_true, Bool.not_false, Bool.true_eq_false, Bool.false_eq_true, decide_true, decide_false, and_self, wipeD, Nm.put, Nm.putL, Option.map_some, Option.some.injEq, exists_eq_left', ite_true, ite_false, reduceIte, Nat.reduceLeDiff, List.drop_zero, capsOf, Option.join_some, RST0, List.length_append, List.length_set, show D.int 7 = D.int ((7 : Nat) : Int) from rfl, tupOf_ok F (.of hd)]
  cases d with
  | tup xs =>
    match xs with
    | [a, b, c, y, l, q, w] =>
      have hx := Dat.untup hd
      have ha : Dat k n a := hx.mem (by simp)
      have hb : Dat k n b := hx.mem (by simp)
      have hc : Dat k n c := hx.mem (by simp)
      have hy : Dat k n y := hx.mem (by simp)
      have hl : Dat k n l := hx.mem (by simp)
      have hq : Dat k n q := hx.mem (by simp)
      have hw : Dat k n w := hx.mem (by simp)
      have a5 : atI [a, b, c, y, l, q, w] 5 = some q := rfl
      have a6 : atI [a, b, c, y, l, q, w] 6 = some w := rfl
      have t7 : tupNB (.tup [a, b, c, y, l, q, w]) 7 = true := rfl
      simp only [t7, a5, a6, wp_eCh2, o_mulF, ROPS0, ROPS1, at0I, at1I, at2I, at3I, at4I, decide_eq_true_eq, Int.reduceLT, Int.reduceLE, Int.reducePow, Int.reduceToNat, Int.reduceAdd, Int.reduceMul, Int.reduceSub, Int.reduceNeg, Nat.reduceLT, Nat.reduceLeDiff, RWP0, RWP1, RWP2, RWP3, beg, begF, perm, List.map_cons, List.map_nil, List.length_cons, List.length_nil, List.replicate_succ, List.replicate_zero, Nat.reduceAdd, Nat.reduceSub, Nat.reduceLT, Nat.reduceEqDiff, List.cons_append, List.nil_append, List.append_nil, List.getElem?_cons_succ, List.getElem?_cons_zero, List.getElem?_nil, List.set_cons_succ, List.set_cons_zero, List.filterMap_cons, List.filterMap_nil, if_true, if_false, true_and, and_true, Bool.not_true, Bool.not_false, Bool.true_eq_false, Bool.false_eq_true, decide_true, decide_false, and_self, wipeD, Nm.put, Nm.putL, Option.map_some, Option.some.injEq, exists_eq_left', ite_true, ite_false, reduceIte, Nat.reduceLeDiff, List.drop_zero, capsOf, Option.join_some, RST0, List.length_append, List.length_set, hD_obj F, fld_last F, fld_names F, number_ok F (.of ha)]
      by_cases h1 : numB a 0 e = true
      · simp only [h1, wp_eCh2, o_mulF, ROPS0, ROPS1, at0I, at1I, at2I, at3I, at4I, decide_eq_true_eq, Int.reduceLT, Int.reduceLE, Int.reducePow, Int.reduceToNat, Int.reduceAdd, Int.reduceMul, Int.reduceSub, Int.reduceNeg, Nat.reduceLT, Nat.reduceLeDiff, RWP0, RWP1, RWP2, RWP3, beg, begF, perm, List.map_cons, List.map_nil, List.length_cons, List.length_nil, List.replicate_succ, List.replicate_zero, Nat.reduceAdd, Nat.reduceSub, Nat.reduceLT, Nat.reduceEqDiff, List.cons_append, List.nil_append, List.append_nil, List.getElem?_cons_succ, List.getElem?_cons_zero, List.getElem?_nil, List.set_cons_succ, List.set_cons_zero, List.filterMap_cons, List.filterMap_nil, if_true, if_false, true_and, and_true, Bool.not_true, Bool.not_false, Bool.true_eq_false, Bool.false_eq_true, decide_true, decide_false, and_self, wipeD, Nm.put, Nm.putL, Option.map_some, Option.some.injEq, exists_eq_left', ite_true, ite_false, reduceIte, Nat.reduceLeDiff, List.drop_zero, capsOf, Option.join_some, RST0, List.length_append, List.length_set, number_ok F (.of hb)]
        by_cases h2 : numB b 1 60 = true
        · simp only [h2, wp_eCh2, o_mulF, ROPS0, ROPS1, at0I, at1I, at2I, at3I, at4I, decide_eq_true_eq, Int.reduceLT, Int.reduceLE, Int.reducePow, Int.reduceToNat, Int.reduceAdd, Int.reduceMul, Int.reduceSub, Int.reduceNeg, Nat.reduceLT, Nat.reduceLeDiff, RWP0, RWP1, RWP2, RWP3, beg, begF, perm, List.map_cons, List.map_nil, List.length_cons, List.length_nil, List.replicate_succ, List.replicate_zero, Nat.reduceAdd, Nat.reduceSub, Nat.reduceLT, Nat.reduceEqDiff, List.cons_append, List.nil_append, List.append_nil, List.getElem?_cons_succ, List.getElem?_cons_zero, List.getElem?_nil, List.set_cons_succ, List.set_cons_zero, List.filterMap_cons, List.filterMap_nil, if_true, if_false, true_and, and_true, Bool.not_true, Bool.not_false, Bool.true_eq_false, Bool.false_eq_true, decide_true, decide_false, and_self, wipeD, Nm.put, Nm.putL, Option.map_some, Option.some.injEq, exists_eq_left', ite_true, ite_false, reduceIte, Nat.reduceLeDiff, List.drop_zero, capsOf, Option.join_some, RST0, List.length_append, List.length_set, number_ok F (.of hc)]
          by_cases h3 : numB c 1 24 = true
          · simp only [h3, wp_eCh2, o_mulF, ROPS0, ROPS1, at0I, at1I, at2I, at3I, at4I, decide_eq_true_eq, Int.reduceLT, Int.reduceLE, Int.reducePow, Int.reduceToNat, Int.reduceAdd, Int.reduceMul, Int.reduceSub, Int.reduceNeg, Nat.reduceLT, Nat.reduceLeDiff, RWP0, RWP1, RWP2, RWP3, beg, begF, perm, List.map_cons, List.map_nil, List.length_cons, List.length_nil, List.replicate_succ, List.replicate_zero, Nat.reduceAdd, Nat.reduceSub, Nat.reduceLT, Nat.reduceEqDiff, List.cons_append, List.nil_append, List.append_nil, List.getElem?_cons_succ, List.getElem?_cons_zero, List.getElem?_nil, List.set_cons_succ, List.set_cons_zero, List.filterMap_cons, List.filterMap_nil, if_true, if_false, true_and, and_true, Bool.not_true, Bool.not_false, Bool.true_eq_false, Bool.false_eq_true, decide_true, decide_false, and_self, wipeD, Nm.put, Nm.putL, Option.map_some, Option.some.injEq, exists_eq_left', ite_true, ite_false, reduceIte, Nat.reduceLeDiff, List.drop_zero, capsOf, Option.join_some, RST0, List.length_append, List.length_set, number_ok F (.of hy)]
            by_cases h4 : numB y 0 1000000 = true
            · simp only [h4, wp_eCh2, o_mulF, ROPS0, ROPS1, at0I, at1I, at2I, at3I, at4I, decide_eq_true_eq, Int.reduceLT, Int.reduceLE, Int.reducePow, Int.reduceToNat, Int.reduceAdd, Int.reduceMul, Int.reduceSub, Int.reduceNeg, Nat.reduceLT, Nat.reduceLeDiff, RWP0, RWP1, RWP2, RWP3, beg, begF, perm, List.map_cons, List.map_nil, List.length_cons, List.length_nil, List.replicate_succ, List.replicate_zero, Nat.reduceAdd, Nat.reduceSub, Nat.reduceLT, Nat.reduceEqDiff, List.cons_append, List.nil_append, List.append_nil, List.getElem?_cons_succ, List.getElem?_cons_zero, List.getElem?_nil, List.set_cons_succ, List.set_cons_zero, List.filterMap_cons, List.filterMap_nil, if_true, if_false, true_and, and_true, Bool.not_true, Bool.not_false, Bool.true_eq_false, Bool.false_eq_true, decide_true, decide_false, and_self, wipeD, Nm.put, Nm.putL, Option.map_some, Option.some.injEq, exists_eq_left', ite_true, ite_false, reduceIte, Nat.reduceLeDiff, List.drop_zero, capsOf, Option.join_some, RST0, List.length_append, List.length_set, number_ok F (.of hl)]
              by_cases h5 : numB l 1 60 = true
              · simp only [h5, wp_eCh2, o_mulF, ROPS0, ROPS1, at0I, at1I, at2I, at3I, at4I, decide_eq_true_eq, Int.reduceLT, Int.reduceLE, Int.reducePow, Int.reduceToNat, Int.reduceAdd, Int.reduceMul, Int.reduceSub, Int.reduceNeg, Nat.reduceLT, Nat.reduceLeDiff, RWP0, RWP1, RWP2, RWP3, beg, begF, perm, List.map_cons, List.map_nil, List.length_cons, List.length_nil, List.replicate_succ, List.replicate_zero, Nat.reduceAdd, Nat.reduceSub, Nat.reduceLT, Nat.reduceEqDiff, List.cons_append, List.nil_append, List.append_nil, List.getElem?_cons_succ, List.getElem?_cons_zero, List.getElem?_nil, List.set_cons_succ, List.set_cons_zero, List.filterMap_cons, List.filterMap_nil, if_true, if_false, true_and, and_true, Bool.not_true, Bool.not_false, Bool.true_eq_false, Bool.false_eq_true, decide_true, decide_false, and_self, wipeD, Nm.put, Nm.putL, Option.map_some, Option.some.injEq, exists_eq_left', ite_true, ite_false, reduceIte, Nat.reduceLeDiff, List.drop_zero, capsOf, Option.join_some, RST0, List.length_append, List.length_set, a5, hD_obj F, fld_names F, someKinds_ok F hq hk]
                by_cases h6 : someB ns q = true
                · simp only [h6, wp_eCh2, o_mulF, ROPS0, ROPS1, at0I, at1I, at2I, at3I, at4I, decide_eq_true_eq, Int.reduceLT, Int.reduceLE, Int.reducePow, Int.reduceToNat, Int.reduceAdd, Int.reduceMul, Int.reduceSub, Int.reduceNeg, Nat.reduceLT, Nat.reduceLeDiff, RWP0, RWP1, RWP2, RWP3, beg, begF, perm, List.map_cons, List.map_nil, List.length_cons, List.length_nil, List.replicate_succ, List.replicate_zero, Nat.reduceAdd, Nat.reduceSub, Nat.reduceLT, Nat.reduceEqDiff, List.cons_append, List.nil_append, List.append_nil, List.getElem?_cons_succ, List.getElem?_cons_zero, List.getElem?_nil, List.set_cons_succ, List.set_cons_zero, List.filterMap_cons, List.filterMap_nil, if_true, if_false, true_and, and_true, Bool.not_true, Bool.not_false, Bool.true_eq_false, Bool.false_eq_true, decide_true, decide_false, and_self, wipeD, Nm.put, Nm.putL, Option.map_some, Option.some.injEq, exists_eq_left', ite_true, ite_false, reduceIte, Nat.reduceLeDiff, List.drop_zero, capsOf, Option.join_some, RST0, List.length_append, List.length_set, a6, ways_eq F, oneOf_ok F (.of hw), leave_same]
                  simp [contractB, h1, h2, h3, h4, h5, h6]
                · simp only [h6, wp_eCh2, o_mulF, ROPS0, ROPS1, at0I, at1I, at2I, at3I, at4I, decide_eq_true_eq, Int.reduceLT, Int.reduceLE, Int.reducePow, Int.reduceToNat, Int.reduceAdd, Int.reduceMul, Int.reduceSub, Int.reduceNeg, Nat.reduceLT, Nat.reduceLeDiff, RWP0, RWP1, RWP2, RWP3, beg, begF, perm, List.map_cons, List.map_nil, List.length_cons, List.length_nil, List.replicate_succ, List.replicate_zero, Nat.reduceAdd, Nat.reduceSub, Nat.reduceLT, Nat.reduceEqDiff, List.cons_append, List.nil_append, List.append_nil, List.getElem?_cons_succ, List.getElem?_cons_zero, List.getElem?_nil, List.set_cons_succ, List.set_cons_zero, List.filterMap_cons, List.filterMap_nil, if_true, if_false, true_and, and_true, Bool.not_true, Bool.not_false, Bool.true_eq_false, Bool.false_eq_true, decide_true, decide_false, and_self, wipeD, Nm.put, Nm.putL, Option.map_some, Option.some.injEq, exists_eq_left', ite_true, ite_false, reduceIte, Nat.reduceLeDiff, List.drop_zero, capsOf, Option.join_some, RST0, List.length_append, List.length_set, leave_same]
                  simp [contractB, h6]
              · simp only [h5, wp_eCh2, o_mulF, ROPS0, ROPS1, at0I, at1I, at2I, at3I, at4I, decide_eq_true_eq, Int.reduceLT, Int.reduceLE, Int.reducePow, Int.reduceToNat, Int.reduceAdd, Int.reduceMul, Int.reduceSub, Int.reduceNeg, Nat.reduceLT, Nat.reduceLeDiff, RWP0, RWP1, RWP2, RWP3, beg, begF, perm, List.map_cons, List.map_nil, List.length_cons, List.length_nil, List.replicate_succ, List.replicate_zero, Nat.reduceAdd, Nat.reduceSub, Nat.reduceLT, Nat.reduceEqDiff, List.cons_append, List.nil_append, List.append_nil, List.getElem?_cons_succ, List.getElem?_cons_zero, List.getElem?_nil, List.set_cons_succ, List.set_cons_zero, List.filterMap_cons, List.filterMap_nil, if_true, if_false, true_and, and_true, Bool.not_true, Bool.not_false, Bool.true_eq_false, Bool.false_eq_true, decide_true, decide_false, and_self, wipeD, Nm.put, Nm.putL, Option.map_some, Option.some.injEq, exists_eq_left', ite_true, ite_false, reduceIte, Nat.reduceLeDiff, List.drop_zero, capsOf, Option.join_some, RST0, List.length_append, List.length_set, leave_same]
                simp [contractB, h5]
            · simp only [h4, wp_eCh2, o_mulF, ROPS0, ROPS1, at0I, at1I, at2I, at3I, at4I, decide_eq_true_eq, Int.reduceLT, Int.reduceLE, Int.reducePow, Int.reduceToNat, Int.reduceAdd, Int.reduceMul, Int.reduceSub, Int.reduceNeg, Nat.reduceLT, Nat.reduceLeDiff, RWP0, RWP1, RWP2, RWP3, beg, begF, perm, List.map_cons, List.map_nil, List.length_cons, List.length_nil, List.replicate_succ, List.replicate_zero, Nat.reduceAdd, Nat.reduceSub, Nat.reduceLT, Nat.reduceEqDiff, List.cons_append, List.nil_append, List.append_nil, List.getElem?_cons_succ, List.getElem?_cons_zero, List.getElem?_nil, List.set_cons_succ, List.set_cons_zero, List.filterMap_cons, List.filterMap_nil, if_true, if_false, true_and, and_true, Bool.not_true, Bool.not_false, Bool.true_eq_false, Bool.false_eq_true, decide_true, decide_false, and_self, wipeD, Nm.put, Nm.putL, Option.map_some, Option.some.injEq, exists_eq_left', ite_true, ite_false, reduceIte, Nat.reduceLeDiff, List.drop_zero, capsOf, Option.join_some, RST0, List.length_append, List.length_set, leave_same]
              simp [contractB, h4]
          · simp only [h3, wp_eCh2, o_mulF, ROPS0, ROPS1, at0I, at1I, at2I, at3I, at4I, decide_eq_true_eq, Int.reduceLT, Int.reduceLE, Int.reducePow, Int.reduceToNat, Int.reduceAdd, Int.reduceMul, Int.reduceSub, Int.reduceNeg, Nat.reduceLT, Nat.reduceLeDiff, RWP0, RWP1, RWP2, RWP3, beg, begF, perm, List.map_cons, List.map_nil, List.length_cons, List.length_nil, List.replicate_succ, List.replicate_zero, Nat.reduceAdd, Nat.reduceSub, Nat.reduceLT, Nat.reduceEqDiff, List.cons_append, List.nil_append, List.append_nil, List.getElem?_cons_succ, List.getElem?_cons_zero, List.getElem?_nil, List.set_cons_succ, List.set_cons_zero, List.filterMap_cons, List.filterMap_nil, if_true, if_false, true_and, and_true, Bool.not_true, Bool.not_false, Bool.true_eq_false, Bool.false_eq_true, decide_true, decide_false, and_self, wipeD, Nm.put, Nm.putL, Option.map_some, Option.some.injEq, exists_eq_left', ite_true, ite_false, reduceIte, Nat.reduceLeDiff, List.drop_zero, capsOf, Option.join_some, RST0, List.length_append, List.length_set, leave_same]
            simp [contractB, h3]
        · simp only [h2, wp_eCh2, o_mulF, ROPS0, ROPS1, at0I, at1I, at2I, at3I, at4I, decide_eq_true_eq, Int.reduceLT, Int.reduceLE, Int.reducePow, Int.reduceToNat, Int.reduceAdd, Int.reduceMul, Int.reduceSub, Int.reduceNeg, Nat.reduceLT, Nat.reduceLeDiff, RWP0, RWP1, RWP2, RWP3, beg, begF, perm, List.map_cons, List.map_nil, List.length_cons, List.length_nil, List.replicate_succ, List.replicate_zero, Nat.reduceAdd, Nat.reduceSub, Nat.reduceLT, Nat.reduceEqDiff, List.cons_append, List.nil_append, List.append_nil, List.getElem?_cons_succ, List.getElem?_cons_zero, List.getElem?_nil, List.set_cons_succ, List.set_cons_zero, List.filterMap_cons, List.filterMap_nil, if_true, if_false, true_and, and_true, Bool.not_true, Bool.not_false, Bool.true_eq_false, Bool.false_eq_true, decide_true, decide_false, and_self, wipeD, Nm.put, Nm.putL, Option.map_some, Option.some.injEq, exists_eq_left', ite_true, ite_false, reduceIte, Nat.reduceLeDiff, List.drop_zero, capsOf, Option.join_some, RST0, List.length_append, List.length_set, leave_same]
          simp [contractB, h2]
      · simp only [h1, wp_eCh2, o_mulF, ROPS0, ROPS1, at0I, at1I, at2I, at3I, at4I, decide_eq_true_eq, Int.reduceLT, Int.reduceLE, Int.reducePow, Int.reduceToNat, Int.reduceAdd, Int.reduceMul, Int.reduceSub, Int.reduceNeg, Nat.reduceLT, Nat.reduceLeDiff, RWP0, RWP1, RWP2, RWP3, beg, begF, perm, List.map_cons, List.map_nil, List.length_cons, List.length_nil, List.replicate_succ, List.replicate_zero, Nat.reduceAdd, Nat.reduceSub, Nat.reduceLT, Nat.reduceEqDiff, List.cons_append, List.nil_append, List.append_nil, List.getElem?_cons_succ, List.getElem?_cons_zero, List.getElem?_nil, List.set_cons_succ, List.set_cons_zero, List.filterMap_cons, List.filterMap_nil, if_true, if_false, true_and, and_true, Bool.not_true, Bool.not_false, Bool.true_eq_false, Bool.false_eq_true, decide_true, decide_false, and_self, wipeD, Nm.put, Nm.putL, Option.map_some, Option.some.injEq, exists_eq_left', ite_true, ite_false, reduceIte, Nat.reduceLeDiff, List.drop_zero, capsOf, Option.join_some, RST0, List.length_append, List.length_set, leave_same]
        simp [contractB, h1]
    | [] => simp [contractB, tupNB, leave_same]
    | [_] => simp [contractB, tupNB, leave_same]
    | [_, _] => simp [contractB, tupNB, leave_same]
    | [_, _, _] => simp [contractB, tupNB, leave_same]
    | [_, _, _, _] => simp [contractB, tupNB, leave_same]
    | [_, _, _, _, _] => simp [contractB, tupNB, leave_same]
    | [_, _, _, _, _, _] => simp [contractB, tupNB, leave_same]
    | _ :: _ :: _ :: _ :: _ :: _ :: _ :: _ :: _ => simp [contractB, tupNB, leave_same]
  | _ => simp [contractB, tupNB, leave_same]
theorem checkContract_no {k n : Nat} (hd : Dat k n d) (hk : k ≤ 60) (hf : contractB e ns d = false) : mf_check_contract K [hD K e ns ls, d] st = .err (He.ga K "InvalidContract") (some ("given", d)) st := by
  apply Res.wp_er
  simp only [mf_check_contract, m_check_contract, wp_eCh2, o_mulF, ROPS0, ROPS1, at0I, at1I, at2I, at3I, at4I, decide_eq_true_eq, Int.reduceLT, Int.reduceLE, Int.reducePow, Int.reduceToNat, Int.reduceAdd, Int.reduceMul, Int.reduceSub, Int.reduceNeg, Nat.reduceLT, Nat.reduceLeDiff, RWP0, RWP1, RWP2, RWP3, beg, begF, perm, List.map_cons, List.map_nil, List.length_cons, List.length_nil, List.replicate_succ, List.replicate_zero, Nat.reduceAdd, Nat.reduceSub, Nat.reduceLT, Nat.reduceEqDiff, List.cons_append, List.nil_append, List.append_nil, List.getElem?_cons_succ, List.getElem?_cons_zero, List.getElem?_nil, List.set_cons_succ, List.set_cons_zero, List.filterMap_cons, List.filterMap_nil, if_true, if_false, true_and, and_true, Bool.not_true, Bool.not_false, Bool.true_eq_false, Bool.false_eq_true, decide_true, decide_false, and_self, wipeD, Nm.put, Nm.putL, Option.map_some, Option.some.injEq, exists_eq_left', ite_true, ite_false, reduceIte, Nat.reduceLeDiff, List.drop_zero, capsOf, Option.join_some, RST0, List.length_append, List.length_set, checkHouse_ok F, isContract_eq F hd hk, hf, leaveE_same]
theorem checkContract_h (hh : Pd h) : mf_check_contract K [h, d] st = .err (He.ga K "NotAHouse") (some ("given", h)) st := by
  apply Res.wp_er
  simp only [mf_check_contract, m_check_contract, wp_eCh2, o_mulF, ROPS0, ROPS1, at0I, at1I, at2I, at3I, at4I, decide_eq_true_eq, Int.reduceLT, Int.reduceLE, Int.reducePow, Int.reduceToNat, Int.reduceAdd, Int.reduceMul, Int.reduceSub, Int.reduceNeg, Nat.reduceLT, Nat.reduceLeDiff, RWP0, RWP1, RWP2, RWP3, beg, begF, perm, List.map_cons, List.map_nil, List.length_cons, List.length_nil, List.replicate_succ, List.replicate_zero, Nat.reduceAdd, Nat.reduceSub, Nat.reduceLT, Nat.reduceEqDiff, List.cons_append, List.nil_append, List.append_nil, List.getElem?_cons_succ, List.getElem?_cons_zero, List.getElem?_nil, List.set_cons_succ, List.set_cons_zero, List.filterMap_cons, List.filterMap_nil, if_true, if_false, true_and, and_true, Bool.not_true, Bool.not_false, Bool.true_eq_false, Bool.false_eq_true, decide_true, decide_false, and_self, wipeD, Nm.put, Nm.putL, Option.map_some, Option.some.injEq, exists_eq_left', ite_true, ite_false, reduceIte, Nat.reduceLeDiff, List.drop_zero, capsOf, Option.join_some, RST0, List.length_append, List.length_set, checkHouse_no F hh, leaveE_same]
theorem contractLots_no {k n : Nat} (hd : Dat k n d) (hk : k ≤ 60) (hf : contractB e ns d = false) : mf_contract_lots K [hD K e ns ls, d] st = .err (He.ga K "InvalidContract") (some ("given", d)) st := by
  apply Res.wp_er
  simp only [mf_contract_lots, m_contract_lots, wp_eCh2, o_mulF, ROPS0, ROPS1, at0I, at1I, at2I, at3I, at4I, decide_eq_true_eq, Int.reduceLT, Int.reduceLE, Int.reducePow, Int.reduceToNat, Int.reduceAdd, Int.reduceMul, Int.reduceSub, Int.reduceNeg, Nat.reduceLT, Nat.reduceLeDiff, RWP0, RWP1, RWP2, RWP3, beg, begF, perm, List.map_cons, List.map_nil, List.length_cons, List.length_nil, List.replicate_succ, List.replicate_zero, Nat.reduceAdd, Nat.reduceSub, Nat.reduceLT, Nat.reduceEqDiff, List.cons_append, List.nil_append, List.append_nil, List.getElem?_cons_succ, List.getElem?_cons_zero, List.getElem?_nil, List.set_cons_succ, List.set_cons_zero, List.filterMap_cons, List.filterMap_nil, if_true, if_false, true_and, and_true, Bool.not_true, Bool.not_false, Bool.true_eq_false, Bool.false_eq_true, decide_true, decide_false, and_self, wipeD, Nm.put, Nm.putL, Option.map_some, Option.some.injEq, exists_eq_left', ite_true, ite_false, reduceIte, Nat.reduceLeDiff, List.drop_zero, capsOf, Option.join_some, RST0, List.length_append, List.length_set, checkContract_no F hd hk hf, leaveE_same]
theorem contractLots_h (hh : Pd h) : mf_contract_lots K [h, d] st = .err (He.ga K "NotAHouse") (some ("given", h)) st := by
  apply Res.wp_er
  simp only [mf_contract_lots, m_contract_lots, wp_eCh2, o_mulF, ROPS0, ROPS1, at0I, at1I, at2I, at3I, at4I, decide_eq_true_eq, Int.reduceLT, Int.reduceLE, Int.reducePow, Int.reduceToNat, Int.reduceAdd, Int.reduceMul, Int.reduceSub, Int.reduceNeg, Nat.reduceLT, Nat.reduceLeDiff, RWP0, RWP1, RWP2, RWP3, beg, begF, perm, List.map_cons, List.map_nil, List.length_cons, List.length_nil, List.replicate_succ, List.replicate_zero, Nat.reduceAdd, Nat.reduceSub, Nat.reduceLT, Nat.reduceEqDiff, List.cons_append, List.nil_append, List.append_nil, List.getElem?_cons_succ, List.getElem?_cons_zero, List.getElem?_nil, List.set_cons_succ, List.set_cons_zero, List.filterMap_cons, List.filterMap_nil, if_true, if_false, true_and, and_true, Bool.not_true, Bool.not_false, Bool.true_eq_false, Bool.false_eq_true, decide_true, decide_false, and_self, wipeD, Nm.put, Nm.putL, Option.map_some, Option.some.injEq, exists_eq_left', ite_true, ite_false, reduceIte, Nat.reduceLeDiff, List.drop_zero, capsOf, Option.join_some, RST0, List.length_append, List.length_set, checkContract_h F hh, leaveE_same]
theorem withContract_no {k n : Nat} (hd : Dat k n d) (hk : k ≤ 60) (hf : contractB e ns d = false) : mf_with_contract K [hD K e ns ls, d] st = .err (He.ga K "InvalidContract") (some ("given", d)) st := by
  apply Res.wp_er
  simp only [mf_with_contract, m_with_contract, wp_eCh2, o_mulF, ROPS0, ROPS1, at0I, at1I, at2I, at3I, at4I, decide_eq_true_eq, Int.reduceLT, Int.reduceLE, Int.reducePow, Int.reduceToNat, Int.reduceAdd, Int.reduceMul, Int.reduceSub, Int.reduceNeg, Nat.reduceLT, Nat.reduceLeDiff, RWP0, RWP1, RWP2, RWP3, beg, begF, perm, List.map_cons, List.map_nil, List.length_cons, List.length_nil, List.replicate_succ, List.replicate_zero, Nat.reduceAdd, Nat.reduceSub, Nat.reduceLT, Nat.reduceEqDiff, List.cons_append, List.nil_append, List.append_nil, List.getElem?_cons_succ, List.getElem?_cons_zero, List.getElem?_nil, List.set_cons_succ, List.set_cons_zero, List.filterMap_cons, List.filterMap_nil, if_true, if_false, true_and, and_true, Bool.not_true, Bool.not_false, Bool.true_eq_false, Bool.false_eq_true, decide_true, decide_false, and_self, wipeD, Nm.put, Nm.putL, Option.map_some, Option.some.injEq, exists_eq_left', ite_true, ite_false, reduceIte, Nat.reduceLeDiff, List.drop_zero, capsOf, Option.join_some, RST0, List.length_append, List.length_set, checkContract_no F hd hk hf, leaveE_same]
theorem withContract_h (hh : Pd h) : mf_with_contract K [h, d] st = .err (He.ga K "NotAHouse") (some ("given", h)) st := by
  apply Res.wp_er
  simp only [mf_with_contract, m_with_contract, wp_eCh2, o_mulF, ROPS0, ROPS1, at0I, at1I, at2I, at3I, at4I, decide_eq_true_eq, Int.reduceLT, Int.reduceLE, Int.reducePow, Int.reduceToNat, Int.reduceAdd, Int.reduceMul, Int.reduceSub, Int.reduceNeg, Nat.reduceLT, Nat.reduceLeDiff, RWP0, RWP1, RWP2, RWP3, beg, begF, perm, List.map_cons, List.map_nil, List.length_cons, List.length_nil, List.replicate_succ, List.replicate_zero, Nat.reduceAdd, Nat.reduceSub, Nat.reduceLT, Nat.reduceEqDiff, List.cons_append, List.nil_append, List.append_nil, List.getElem?_cons_succ, List.getElem?_cons_zero, List.getElem?_nil, List.set_cons_succ, List.set_cons_zero, List.filterMap_cons, List.filterMap_nil, if_true, if_false, true_and, and_true, Bool.not_true, Bool.not_false, Bool.true_eq_false, Bool.false_eq_true, decide_true, decide_false, and_self, wipeD, Nm.put, Nm.putL, Option.map_some, Option.some.injEq, exists_eq_left', ite_true, ite_false, reduceIte, Nat.reduceLeDiff, List.drop_zero, capsOf, Option.join_some, RST0, List.length_append, List.length_set, checkContract_h F hh, leaveE_same]
end
/-! ### the lots of a contract are lots -/
theorem sumF_bounds {y : Int} {n : Nat} {w : Str} (hy : 0 ≤ y) (hn : 1 ≤ n) {k : Nat} (hk : k ≤ n) : 0 ≤ sumF y n w k ∧ sumF y n w k ≤ y := by
  unfold sumF
  split
  · exact ⟨Int.le_refl _, hy⟩
  have k0 : (0 : Int) ≤ (k : Int) := by omega
  have kn : (k : Int) ≤ (n : Int) := by omega
  have n0 : (0 : Int) < (n : Int) := by omega
  have z0 : 0 ≤ (k : Int) * y := Int.mul_nonneg k0 hy
  have z1 : (k : Int) * y ≤ (n : Int) * y := Int.mul_le_mul_of_nonneg_right kn hy
  have q0 : 0 ≤ y / (n : Int) := Int.ediv_nonneg hy (by omega)
  have q1 : (n : Int) * (y / (n : Int)) ≤ y := Int.mul_ediv_self_le (by omega)
  have q2 : 0 ≤ (k : Int) * (y / (n : Int)) := Int.mul_nonneg k0 q0
  have q3 : (k : Int) * (y / (n : Int)) ≤ (n : Int) * (y / (n : Int)) := Int.mul_le_mul_of_nonneg_right kn q0
  unfold sumB
  split
  · exact ⟨Int.ediv_nonneg z0 (by omega), Int.ediv_le_of_le_mul n0 (by rw [Int.mul_comm y]; exact z1)⟩
  split
  · refine ⟨Int.ediv_nonneg (by omega) (by omega), Int.le_of_lt_add_one (Int.ediv_lt_of_lt_mul (by omega) ?_)⟩
    have : (y + 1) * (2 * (n : Int)) = 2 * ((n : Int) * y) + 2 * n := by
      rw [Int.add_mul, Int.one_mul, Int.mul_comm y, Int.mul_assoc]
    omega
  split
  · have a1 : (0 - (k : Int) * y) / (n : Int) ≤ 0 := Int.ediv_le_of_le_mul n0 (by omega)
    have a2 : -y ≤ (0 - (k : Int) * y) / (n : Int) := Int.le_ediv_of_mul_le n0 (by rw [Int.neg_mul, Int.mul_comm y]; omega)
    omega
  split
  · omega
  · omega
theorem contractL_lot {first step life e y : Int} {n : Nat} {w : Str} {ns : List Str} (h1 : 0 ≤ first) (h2 : 0 ≤ step) (h5 : 0 ≤ life) (hy : 0 ≤ y ∧ y ≤ 1000000) (hne : ns ≠ []) : ∀ l ∈ contractL first step life e (sumF y n w) ns n, LotOk e 1000000 ns l := by
  intro l hl
  unfold contractL at hl
  obtain ⟨k, hk, e1⟩ := List.mem_filterMap.mp hl
  have hkn : k < n := by simpa using hk
  have b0 := sumF_bounds (w := w) hy.1 (show 1 ≤ n by omega) (show k ≤ n by omega)
  have b1 := sumF_bounds (w := w) hy.1 (show 1 ≤ n by omega) (show k + 1 ≤ n by omega)
  have z : 0 ≤ (k : Int) * step := Int.mul_nonneg (by omega) h2
  unfold partLot at e1
  split at e1
  · rename_i q
    cases e1
    refine ⟨?_, ?_, ?_, ?_, ?_, hne, List.Sublist.refl _⟩
    · show 0 ≤ first + (k : Int) * step
      omega
    · show first + (k : Int) * step ≤ if e < first + (k : Int) * step + life then e else first + (k : Int) * step + life
      split <;> omega
    · show (if e < first + (k : Int) * step + life then e else first + (k : Int) * step + life) ≤ e
      split <;> omega
    · show 1 ≤ sumF y n w (k + 1) - sumF y n w k
      omega
    · show sumF y n w (k + 1) - sumF y n w k ≤ 1000000
      omega
  · cases e1
section
variable {K : PySem.W.Frag} (F : Pf K) {st : Store} {e first step y life : Int} {ns : List Str} {ls : List Lot} {n : Nat} {w : Str}
include F
theorem withContract_ok {many most hgh : Int} (hp : PartsOk e many most hgh ns ls) (he : 0 ≤ e ∧ e ≤ 60) (h4 : many ≤ 4) (hm : most ≤ 12) (hh : hgh ≤ 1000000) (hs : L3.Cl st) (h1 : 0 ≤ first ∧ first ≤ e) (h2 : 1 ≤ step ∧ step ≤ 60) (h3 : 1 ≤ n ∧ n ≤ 24) (hy : 0 ≤ y ∧ y ≤ 1000000) (h5 : 1 ≤ life ∧ life ≤ 60) (hw : w ∈ waysL) :
    (∃ i, mf_with_contract K [hD K e ns ls, contractD first step n y life ns w] st = .err (He.ga K "TooMany") (some ("given", .int i)) st) ∨ ∃ ls', PartsOk e many 12 1000000 ns ls' ∧ mf_with_contract K [hD K e ns ls, contractD first step n y life ns w] st = .ok (hD K e ns ls') st := by
  have n4 : ns.length ≤ 4 := by have := hp.n4; omega
  have hne : ns ≠ [] := by intro z; have := hp.n1; rw [z] at this; simp at this
  have lmax : ls.length ≤ 12 := by have := hp.lo.len; omega
  have sk : someB ns (.tup (ns.map D.str)) = true := someB_ok hp.nm (List.Sublist.refl _) hne
  have cl := contractL_lot (e := e) (n := n) (w := w) h1.1 (show 0 ≤ step by omega) (show 0 ≤ life by omega) hy hne
  have cn := contractL_len (first := first) (step := step) (life := life) (e := e) (G := sumF y n w) (ks := ns) (n := n)
  obtain ⟨cs, hcs⟩ : ∃ cs, contractL first step life e (sumF y n w) ns n = cs := ⟨_, rfl⟩
  have al : ∀ l ∈ ls ++ cs, LotOk e 1000000 ns l := fun l hl => by
    rcases List.mem_append.mp hl with hl | hl
    · have q := hp.lo.ok l hl
      exact ⟨q.a0, q.ab, q.be, q.c1, by have := q.ch; omega, q.ne, q.sub⟩
    · rw [← hcs] at hl; exact cl l hl
  have lcn : (ls ++ cs).length ≤ 36 := by rw [← hcs, List.length_append]; omega
  have hb : ∀ st, bSorted [.fl ((ls ++ cs).map Lot.d)] st = .ok (.fl (((ls ++ cs).map Lot.d).mergeSort (PySem.W.dataLe false L3.encD))) st := fun st => by
    simp only [bSorted, lsOf, if_pos (sortOk_lots (ls ++ cs) (by omega))]
  obtain ⟨ls', e1, hl1⟩ := map_of (f := Lot.d) (P := fun l => l ∈ ls ++ cs) (zs := ((ls ++ cs).map Lot.d).mergeSort (PySem.W.dataLe false L3.encD)) (fun z hz => by
    rw [List.mem_mergeSort] at hz
    obtain ⟨l, hl, rfl⟩ := List.mem_map.mp hz
    exact ⟨l, hl, rfl⟩)
  have up : Rising ls' := by
    have := sorted_pw ((ls ++ cs).map Lot.d)
    rw [e1] at this
    exact this
  rw [e1] at hb
  have hcl := lotsBy_ok F (e := e) (first := first) (life := life) (ns := ns) (ks := ns) (ls := ls) (w := w) hs (show 0 < step ∧ step ≤ 60 by omega) h3 hy
  rw [hcs] at hcl
  have hck := checkContract_ok F (st := st) (ls := ls) (fun st => isContract_ok F (st := st) hp.nm n4 h1 h2 h3 hy h5 sk hw)
  have ok : ls'.length ≤ 12 → PartsOk e many 12 1000000 ns ls' := fun hl => ⟨hp.nm, hp.n1, hp.n4, ⟨fun l h => al l (hl1 l h), by omega, up⟩⟩
  by_cases hc : (12 : Int) < (ls'.length : Int)
  · refine .inl ⟨ls'.length, ?_⟩
    apply Res.wp_er
    simp only [mf_with_contract, m_with_contract, wp_eCh2, o_mulF, ROPS0, ROPS1, at0I, at1I, at2I, at3I, at4I, decide_eq_true_eq, Int.reduceLT, Int.reduceLE, Int.reducePow, Int.reduceToNat, Int.reduceAdd, Int.reduceMul, Int.reduceSub, Int.reduceNeg, Nat.reduceLT, Nat.reduceLeDiff, RWP0, RWP1, RWP2, RWP3, beg, begF, perm, List.map_cons, List.map_nil, List.length_cons, List.length_nil, List.replicate_succ, List.replicate_zero, Nat.reduceAdd, Nat.reduceSub, Nat.reduceLT, Nat.reduceEqDiff, List.cons_append, List.nil_append, List.append_nil, List.getElem?_cons_succ, List.getElem?_cons_zero, List.getElem?_nil, List.set_cons_succ, List.set_cons_zero, List.filterMap_cons, List.filterMap_nil, if_true, if_false, true_and, and_true, Bool.not_true, Bool.not_false, Bool.true_eq_false, Bool.false_eq_true, decide_true, decide_false, and_self, wipeD, Nm.put, Nm.putL, Option.map_some, Option.some.injEq, exists_eq_left', ite_true, ite_false, reduceIte, Nat.reduceLeDiff, List.drop_zero, capsOf, Option.join_some, RST0, List.length_append, List.length_set, hck, hD_obj F, fld_rows F, hcl, sqOf, lsOf]
    refine ⟨by simp only [List.length_map, List.length_append] at *; omega, ?_⟩
    simp only [← List.map_append, hb, wp_eCh2, o_mulF, ROPS0, ROPS1, at0I, at1I, at2I, at3I, at4I, decide_eq_true_eq, Int.reduceLT, Int.reduceLE, Int.reducePow, Int.reduceToNat, Int.reduceAdd, Int.reduceMul, Int.reduceSub, Int.reduceNeg, Nat.reduceLT, Nat.reduceLeDiff, RWP0, RWP1, RWP2, RWP3, beg, begF, perm, List.map_cons, List.map_nil, List.length_cons, List.length_nil, List.replicate_succ, List.replicate_zero, Nat.reduceAdd, Nat.reduceSub, Nat.reduceLT, Nat.reduceEqDiff, List.cons_append, List.nil_append, List.append_nil, List.getElem?_cons_succ, List.getElem?_cons_zero, List.getElem?_nil, List.set_cons_succ, List.set_cons_zero, List.filterMap_cons, List.filterMap_nil, if_true, if_false, true_and, and_true, Bool.not_true, Bool.not_false, Bool.true_eq_false, Bool.false_eq_true, decide_true, decide_false, and_self, wipeD, Nm.put, Nm.putL, Option.map_some, Option.some.injEq, exists_eq_left', ite_true, ite_false, reduceIte, Nat.reduceLeDiff, List.drop_zero, capsOf, Option.join_some, RST0, List.length_append, List.length_set, List.length_map, hc, leaveE_same]
  · refine .inr ⟨ls', ok (by omega), ?_⟩
    have mk := make_ok F (ok (by omega)) he h4 (by decide) (by decide) hs (go := fun d st' => mf_House___init__ K [d, .int e, .tup (ns.map D.str), .tup (ls'.map Lot.d)] st') (fun _ _ => rfl)
    apply Res.wp_eq
    simp only [mf_with_contract, m_with_contract, wp_eCh2, o_mulF, ROPS0, ROPS1, at0I, at1I, at2I, at3I, at4I, decide_eq_true_eq, Int.reduceLT, Int.reduceLE, Int.reducePow, Int.reduceToNat, Int.reduceAdd, Int.reduceMul, Int.reduceSub, Int.reduceNeg, Nat.reduceLT, Nat.reduceLeDiff, RWP0, RWP1, RWP2, RWP3, beg, begF, perm, List.map_cons, List.map_nil, List.length_cons, List.length_nil, List.replicate_succ, List.replicate_zero, Nat.reduceAdd, Nat.reduceSub, Nat.reduceLT, Nat.reduceEqDiff, List.cons_append, List.nil_append, List.append_nil, List.getElem?_cons_succ, List.getElem?_cons_zero, List.getElem?_nil, List.set_cons_succ, List.set_cons_zero, List.filterMap_cons, List.filterMap_nil, if_true, if_false, true_and, and_true, Bool.not_true, Bool.not_false, Bool.true_eq_false, Bool.false_eq_true, decide_true, decide_false, and_self, wipeD, Nm.put, Nm.putL, Option.map_some, Option.some.injEq, exists_eq_left', ite_true, ite_false, reduceIte, Nat.reduceLeDiff, List.drop_zero, capsOf, Option.join_some, RST0, List.length_append, List.length_set, hck, hD_obj F, fld_rows F, fld_last F, fld_names F, hcl, sqOf, lsOf]
    refine ⟨by simp only [List.length_map, List.length_append] at *; omega, ?_⟩
    simp only [← List.map_append, hb, hD_obj F, fld_last F, fld_names F, wp_eCh2, o_mulF, ROPS0, ROPS1, at0I, at1I, at2I, at3I, at4I, decide_eq_true_eq, Int.reduceLT, Int.reduceLE, Int.reducePow, Int.reduceToNat, Int.reduceAdd, Int.reduceMul, Int.reduceSub, Int.reduceNeg, Nat.reduceLT, Nat.reduceLeDiff, RWP0, RWP1, RWP2, RWP3, beg, begF, perm, List.map_cons, List.map_nil, List.length_cons, List.length_nil, List.replicate_succ, List.replicate_zero, Nat.reduceAdd, Nat.reduceSub, Nat.reduceLT, Nat.reduceEqDiff, List.cons_append, List.nil_append, List.append_nil, List.getElem?_cons_succ, List.getElem?_cons_zero, List.getElem?_nil, List.set_cons_succ, List.set_cons_zero, List.filterMap_cons, List.filterMap_nil, if_true, if_false, true_and, and_true, Bool.not_true, Bool.not_false, Bool.true_eq_false, Bool.false_eq_true, decide_true, decide_false, and_self, wipeD, Nm.put, Nm.putL, Option.map_some, Option.some.injEq, exists_eq_left', ite_true, ite_false, reduceIte, Nat.reduceLeDiff, List.drop_zero, capsOf, Option.join_some, RST0, List.length_append, List.length_set, List.length_map, hc, mk, leave_same]
end
end K14

/-! ### text K14b -/
namespace K14
open PySem PySem.Spec PyProof.Rows L2 L3
/-! ### what may not stand in a contract -/
def oddSizes : List D := [.int 61, .int 0, .int (-1), .bl true, .non, .str (Str.ofString "5"), .int (10 ^ 30)]
def oddSome (x : Str) (ns : List Str) : List D := [.tup [], .tup [.str "zz"], .tup [.str x, .str x], .str x, .non, .fl (ns.map D.str), .tup (ns.map D.str ++ [.str "zz"])]
def oddsL (e : Int) (x : Str) (ns : List Str) : List (List D) :=
  [[.int (e + 1), .int (-1), .bl true, .non, .str "0"], oddSizes, [.int 25, .int 0, .int (-1), .bl true, .non], [.int (1000000 + 1), .int (-1), .bl true, .non, .str "5"], oddSizes, oddSome x ns,
    [.str "Down", .str "", .non, .int 0, .tup [.str "down"], .str "most"]]
theorem someB_bad {ns : List Str} {xs : List D} {i : Nat} (hi : i < xs.length) (h : sf ns xs[i] (xs.take i) = false) : someB ns (.tup xs) = false := by
  cases xs with
  | nil => simp at hi
  | cons x xs =>
    show (firstBad none (sf ns) (x :: xs)).isNone = false
    cases q : firstBad none (sf ns) (x :: xs) with
    | some j => rfl
    | none =>
      exfalso
      unfold firstBad at q
      rw [List.find?_eq_none] at q
      have := q i (by simpa using hi)
      have e : ((x :: xs)[i]?.getD .non) = (x :: xs)[i] := by rw [List.getElem?_eq_getElem hi]; rfl
      unfold badAt at this
      rw [e, h] at this
      simp at this
theorem lt_self (x : Str) : PySem.W.dataLt (L3.encD (.str x)) (L3.encD (.str x)) = false := by
  simp only [encD_str, PySem.W.dataLt_str, decide_eq_false_iff_not]
  exact List.lt_irrefl _
theorem oddSome_bad {x : Str} {ns : List Str} (hx : x ∈ ns) (hn : NmL ns) (h4 : ns.length ≤ 4) : ∀ v ∈ oddSome x ns, someB ns v = false ∧ Dat 2 700 v := by
  have nx := (hn.1 x hx).2.1
  have dx : ∀ k, Dat k 82 (.str x) := fun k => Dat.name nx.1 nx.2
  have zz : ∀ k, Dat k 101 (.str (Str.ofString "zz")) := fun k => nice_lit _ (by decide +kernel)
  have dn := hn.nice
  intro v hv
  simp only [oddSome, List.mem_cons, List.not_mem_nil, or_false] at hv
  rcases hv with rfl | rfl | rfl | rfl | rfl | rfl | rfl
  · exact ⟨rfl, (Dat.tup (DatL.nil (k := 0) (n := 0))).mono (by decide) (by decide)⟩
  · refine ⟨someB_bad (i := 0) (by simp) ?_, (Dat.tup (DatL.cons (k := 0) (zz 0) (DatL.nil (n := 0)))).mono (by decide) (by decide)⟩
    simp only [sf, List.getElem_cons_zero, inB, zz_not hn, decide_false, Bool.false_and]
  · refine ⟨someB_bad (i := 1) (by simp) ?_, (Dat.tup (DatL.cons (k := 0) (dx 0) (DatL.cons (dx 0) (DatL.nil (n := 0))))).mono (by decide) (by decide)⟩
    have : ltLast ([D.str x, D.str x].take 1) (.str x) = false := lt_self x
    simp only [sf, List.getElem_cons_succ, List.getElem_cons_zero, this, Bool.and_false]
  · exact ⟨rfl, (dx 0).mono (by decide) (by decide)⟩
  · exact ⟨rfl, (Dat.non (k := 0)).mono (by decide) (by decide)⟩
  · exact ⟨rfl, (Dat.fl (k := 0) (Dat.names dn)).mono (by decide) (by omega)⟩
  · refine ⟨someB_bad (i := ns.length) (by simp) ?_, ?_⟩
    · have : (ns.map D.str ++ [D.str (Str.ofString "zz")])[ns.length]'(by simp) = .str (Str.ofString "zz") := by simp
      simp only [sf, this, inB, zz_not hn, decide_false, Bool.false_and]
    · have q := (Dat.names (k := 0) (xs := ns ++ [Str.ofString "zz"]) fun y hy => by
        rcases List.mem_append.mp hy with hy | hy
        · exact dn y hy
        · rw [List.mem_singleton] at hy; subst hy; exact ⟨strOk_lit "zz", by decide +kernel⟩)
      rw [List.map_append] at q
      exact (Dat.tup q).mono (by decide) (by simp only [List.length_append, List.length_cons, List.length_nil]; omega)
/-- the parts of a right contract -/
def rightL (a b c y l : Int) (ns : List Str) (w : Str) : List D := [.int a, .int b, .int c, .int y, .int l, .tup (ns.map D.str), .str w]
theorem bad_ok {e a b c y l : Int} {x : Str} {ns : List Str} {w : Str} (he : 0 ≤ e ∧ e ≤ 60) (hx : x ∈ ns) (hn : NmL ns) (h4 : ns.length ≤ 4) {j : Nat} {os : List D} (hj : (oddsL e x ns)[j]? = some os) : ∀ v ∈ os,
    contractB e ns (.tup ((rightL a b c y l ns w).take j ++ [v] ++ (rightL a b c y l ns w).drop (j + 1))) = false ∧ Dat 2 700 v := by
  have N1 : Dat 2 700 .non := (Dat.non (k := 0)).mono (by decide) (by decide)
  have B1 : Dat 2 700 (.bl true) := (Dat.bl (k := 0)).mono (by decide) (by decide)
  have I1 : ∀ i : Int, -(10 ^ 30) ≤ i ∧ i ≤ 10 ^ 30 → Dat 2 700 (.int i) := fun i h => (Dat.int' (k := 0) h).mono (by decide) (by decide)
  have S1 : ∀ s : String, 10 * (Str.ofString s).length + 2 ≤ 101 → Dat 2 700 (.str (Str.ofString s)) := fun s h => (nice_lit s h (k := 0)).mono (by decide) (by decide)
  have sz : ∀ v ∈ oddSizes, numB v 1 60 = false ∧ Dat 2 700 v := by
    intro v hv
    simp only [oddSizes, List.mem_cons, List.not_mem_nil, or_false] at hv
    rcases hv with rfl | rfl | rfl | rfl | rfl | rfl | rfl
    · exact ⟨rfl, I1 _ (by omega)⟩
    · exact ⟨rfl, I1 _ (by omega)⟩
    · exact ⟨rfl, I1 _ (by omega)⟩
    · exact ⟨rfl, B1⟩
    · exact ⟨rfl, N1⟩
    · exact ⟨rfl, S1 _ (by decide +kernel)⟩
    · exact ⟨by simp [numB], I1 _ (by omega)⟩
  intro v hv
  match j, hj with
  | 0, hj =>
    cases hj
    simp only [List.mem_cons, List.not_mem_nil, or_false] at hv
    have z : numB v 0 e = false ∧ Dat 2 700 v := by
      rcases hv with rfl | rfl | rfl | rfl | rfl
      · exact ⟨by simp [numB]; omega, I1 _ (by omega)⟩
      · exact ⟨by simp [numB], I1 _ (by omega)⟩
      · exact ⟨rfl, B1⟩
      · exact ⟨rfl, N1⟩
      · exact ⟨rfl, S1 _ (by decide +kernel)⟩
    exact ⟨by simp [rightL, contractB, z.1], z.2⟩
  | 1, hj =>
    cases hj
    exact ⟨by simp [rightL, contractB, (sz v hv).1], (sz v hv).2⟩
  | 2, hj =>
    cases hj
    simp only [List.mem_cons, List.not_mem_nil, or_false] at hv
    have z : numB v 1 24 = false ∧ Dat 2 700 v := by
      rcases hv with rfl | rfl | rfl | rfl | rfl
      · exact ⟨by simp [numB], I1 _ (by omega)⟩
      · exact ⟨by simp [numB], I1 _ (by omega)⟩
      · exact ⟨by simp [numB], I1 _ (by omega)⟩
      · exact ⟨rfl, B1⟩
      · exact ⟨rfl, N1⟩
    exact ⟨by simp [rightL, contractB, z.1], z.2⟩
  | 3, hj =>
    cases hj
    simp only [List.mem_cons, List.not_mem_nil, or_false] at hv
    have z : numB v 0 1000000 = false ∧ Dat 2 700 v := by
      rcases hv with rfl | rfl | rfl | rfl | rfl
      · exact ⟨by simp [numB], I1 _ (by omega)⟩
      · exact ⟨by simp [numB], I1 _ (by omega)⟩
      · exact ⟨rfl, B1⟩
      · exact ⟨rfl, N1⟩
      · exact ⟨rfl, S1 _ (by decide +kernel)⟩
    exact ⟨by simp [rightL, contractB, z.1], z.2⟩
  | 4, hj =>
    cases hj
    exact ⟨by simp [rightL, contractB, (sz v hv).1], (sz v hv).2⟩
  | 5, hj =>
    cases hj
    have z := oddSome_bad hx hn h4 v hv
    exact ⟨by simp [rightL, contractB, z.1], z.2⟩
  | 6, hj =>
    cases hj
    simp only [List.mem_cons, List.not_mem_nil, or_false] at hv
    have z : inB waysL v = false ∧ Dat 2 700 v := by
      rcases hv with rfl | rfl | rfl | rfl | rfl | rfl
      · exact ⟨by simp [inB, waysL, lit_eq], S1 _ (by decide +kernel)⟩
      · exact ⟨by simp [inB, waysL, lit_eq], S1 _ (by decide +kernel)⟩
      · exact ⟨rfl, N1⟩
      · exact ⟨rfl, I1 _ (by omega)⟩
      · exact ⟨rfl, ((Dat.tup (DatL.cons (k := 0) (nice_lit "down" (by decide +kernel)) (DatL.nil (n := 0)))).mono (by decide) (by decide))⟩
      · exact ⟨by simp [inB, waysL, lit_eq], S1 _ (by decide +kernel)⟩
    exact ⟨by simp [rightL, contractB, z.1], z.2⟩
  | j + 7, hj => simp [oddsL] at hj
theorem rightL_dat {a b c y l : Int} {ns : List Str} {w : Str} (ha : -(10 ^ 30) ≤ a ∧ a ≤ 10 ^ 30) (hb : -(10 ^ 30) ≤ b ∧ b ≤ 10 ^ 30) (hc : -(10 ^ 30) ≤ c ∧ c ≤ 10 ^ 30) (hy : -(10 ^ 30) ≤ y ∧ y ≤ 10 ^ 30) (hl : -(10 ^ 30) ≤ l ∧ l ≤ 10 ^ 30) (hn : NmL ns) (h4 : ns.length ≤ 4) (hw : w ∈ waysL) : ∀ v ∈ rightL a b c y l ns w, Dat 2 700 v := by
  have I1 : ∀ i : Int, -(10 ^ 30) ≤ i ∧ i ≤ 10 ^ 30 → Dat 2 700 (.int i) := fun i h => (Dat.int' (k := 0) h).mono (by decide) (by decide)
  intro v hv
  simp only [rightL, List.mem_cons, List.not_mem_nil, or_false] at hv
  rcases hv with rfl | rfl | rfl | rfl | rfl | rfl | rfl
  · exact I1 _ ha
  · exact I1 _ hb
  · exact I1 _ hc
  · exact I1 _ hy
  · exact I1 _ hl
  · exact (hn.dat h4).mono (by decide) (by decide)
  · simp only [waysL, List.mem_cons, List.not_mem_nil, or_false] at hw
    rcases hw with rfl | rfl | rfl | rfl | rfl <;> exact (nice_lit _ (by decide +kernel) (k := 0)).mono (by decide) (by decide)
section
variable {K : PySem.W.Frag} {st : Store}
theorem odds_ok {e : Int} {x : Str} {ns : List Str} {ls : List Lot} (he : 0 ≤ e ∧ e ≤ 60) (h4 : ns.length ≤ 4) (at0 : atI (ns.map D.str) 0 = some (.str x)) (cut1 : cutD (ns.map D.str) none (some 1) = [.str x]) : mf__law_odds K [partsD e ns ls] st = .ok (.tup ((oddsL e x ns).map D.tup)) st := by
  apply Res.wp_eq
  have rep : ∀ st : Store, dMul (.tup [.str x]) (.int 2) st = .ok (.tup [.str x, .str x]) st := fun st => by
    have := o_mulT (xs := [D.str x]) (k := 2) (st := st) (by decide) (by decide) (by simp) (by simp)
    simpa using this
  have ad : ∀ st : Store, dAdd (.tup (ns.map D.str)) (.tup [.str "zz"]) st = .ok (.tup (ns.map D.str ++ [.str "zz"])) st := fun st => o_addT (by simp; omega)
  simp only [mf__law_odds, m__law_odds, partsD, wp_eCh2, o_mulF, ROPS0, ROPS1, at0I, at1I, at2I, at3I, at4I, decide_eq_true_eq, Int.reduceLT, Int.reduceLE, Int.reducePow, Int.reduceToNat, Int.reduceAdd, Int.reduceMul, Int.reduceSub, Int.reduceNeg, Nat.reduceLT, Nat.reduceLeDiff, RWP0, RWP1, RWP2, RWP3, beg, begF, perm, List.map_cons, List.map_nil, List.length_cons, List.length_nil, List.replicate_succ, List.replicate_zero, Nat.reduceAdd, Nat.reduceSub, Nat.reduceLT, Nat.reduceEqDiff, List.cons_append, List.nil_append, List.append_nil, List.getElem?_cons_succ, List.getElem?_cons_zero, List.getElem?_nil, List.set_cons_succ, List.set_cons_zero, List.filterMap_cons, List.filterMap_nil, if_true, if_false, true_and, and_true, Bool.not_true, Bool.not_false, Bool.true_eq_false, Bool.false_eq_true, decide_true, decide_false, and_self, wipeD, Nm.put, Nm.putL, Option.map_some, Option.some.injEq, exists_eq_left', ite_true, ite_false, reduceIte, Nat.reduceLeDiff, List.drop_zero, capsOf, Option.join_some, RST0, List.length_append, List.length_set, cut1, rep, at0, ad, leave_same]
  simp only [oddsL, oddSizes, oddSome, List.map_cons, List.map_nil]
  trivial
theorem first_names {ns : List Str} (h : 1 ≤ ns.length) : ∃ x, x ∈ ns ∧ atI (ns.map D.str) 0 = some (.str x) ∧ cutD (ns.map D.str) none (some 1) = [.str x] := by
  cases ns with
  | nil => simp at h
  | cons y ys =>
    refine ⟨y, by simp, by rw [List.map_cons, at0I], ?_⟩
    have := cut_to (xs := (y :: ys).map D.str) (j := 1)
    simpa using this
end
end K14

/-! ### text K14c -/
namespace K14
open PySem PySem.Spec PyProof.Rows L2 L3
section
variable {K : PySem.W.Frag} (F : Pf K) {d : D} {f : Addr} {ap : List D → Store → Res D} {st : Store} {z : Str}
include F
theorem ref_house (h : ap [] st = .err (He.ga K "NotAHouse") (some ("given", d)) st) (hr : ∀ st, bRepr [d] st = .ok (.str z) st) : mf__law_refused K f ap [.ref f] st = .ok (.fl [.str "house", .str z]) st := by
  simp [mf__law_refused, m__law_refused, eV, eC, e2, e1, eN, eIf, eAndM, eOrM, eNotM, aNil, aCons, aStar, eTup, eLst, eLstN, eCut, oNone, oSome, tVal, t2, tAndM, tOrM, tNotM, sNil, sSeq, sIf, sRet, sRetN, sSet, sAsg, gNm, gSubM, gTupM, gsNil, gsCons, sPar, sDrop, sRaise, eCall1, eCall, perm, fnM, endF, leave, leaveN, leaveE, beg, Res.bind_ok, Res.bind_err, sBind_ok, sBind_err, sTry, sHandle, eClo, eXf, dropE, h, hr, F.x_NotAHouse_NotAHouse]
theorem ref_contract (h : ap [] st = .err (He.ga K "InvalidContract") (some ("given", d)) st) (hr : ∀ st, bRepr [d] st = .ok (.str z) st) : mf__law_refused K f ap [.ref f] st = .ok (.fl [.str "contract", .str z]) st := by
  simp [mf__law_refused, m__law_refused, eV, eC, e2, e1, eN, eIf, eAndM, eOrM, eNotM, aNil, aCons, aStar, eTup, eLst, eLstN, eCut, oNone, oSome, tVal, t2, tAndM, tOrM, tNotM, sNil, sSeq, sIf, sRet, sRetN, sSet, sAsg, gNm, gSubM, gTupM, gsNil, gsCons, sPar, sDrop, sRaise, eCall1, eCall, perm, fnM, endF, leave, leaveN, leaveE, beg, Res.bind_ok, Res.bind_err, sBind_ok, sBind_err, sTry, sHandle, eClo, eXf, dropE, h, hr, F.x_InvalidContract_NotAHouse, F.x_InvalidContract_InvalidContract]
theorem ref_many (h : ap [] st = .err (He.ga K "TooMany") (some ("given", d)) st) : mf__law_refused K f ap [.ref f] st = .ok (.fl [.str "told"]) st := by
  simp [mf__law_refused, m__law_refused, eV, eC, e2, e1, eN, eIf, eAndM, eOrM, eNotM, aNil, aCons, aStar, eTup, eLst, eLstN, eCut, oNone, oSome, tVal, t2, tAndM, tOrM, tNotM, sNil, sSeq, sIf, sRet, sRetN, sSet, sAsg, gNm, gSubM, gTupM, gsNil, gsCons, sPar, sDrop, sRaise, eCall1, eCall, perm, fnM, endF, leave, leaveN, leaveE, beg, Res.bind_ok, Res.bind_err, sBind_ok, sBind_err, sTry, sHandle, eClo, eXf, dropE, noE, h, F.x_TooMany_NotAHouse, F.x_TooMany_InvalidContract, F.x_TooMany_TooMany]
theorem ref_told (h : ap [] st = .ok d st) : mf__law_refused K f ap [.ref f] st = .ok (.fl [.str "told"]) st := by
  simp [mf__law_refused, m__law_refused, eV, eC, e2, e1, eN, eIf, eAndM, eOrM, eNotM, aNil, aCons, aStar, eTup, eLst, eLstN, eCut, oNone, oSome, tVal, t2, tAndM, tOrM, tNotM, sNil, sSeq, sIf, sRet, sRetN, sSet, sAsg, gNm, gSubM, gTupM, gsNil, gsCons, sPar, sDrop, sRaise, eCall1, eCall, perm, fnM, endF, leave, leaveN, leaveE, beg, Res.bind_ok, Res.bind_err, sBind_ok, sBind_err, sTry, sHandle, eClo, eXf, dropE, h]
end
section
variable {K : PySem.W.Frag} (F : Pf K)
include F
theorem right_dr (n : Nat) : Draws n (mf__law_right K [.loc n]) (fun v => v = .bl true) := by
  intro s w X Q hs hn k
  simp only [mf__law_right, m__law_right, wp_eCh2, o_mulF, ROPS0, ROPS1, at0I, at1I, at2I, at3I, at4I, decide_eq_true_eq, Int.reduceLT, Int.reduceLE, Int.reducePow, Int.reduceToNat, Int.reduceAdd, Int.reduceMul, Int.reduceSub, Int.reduceNeg, Nat.reduceLT, Nat.reduceLeDiff, RWP0, RWP1, RWP2, RWP3, beg, begF, perm, List.map_cons, List.map_nil, List.length_cons, List.length_nil, List.replicate_succ, List.replicate_zero, Nat.reduceAdd, Nat.reduceSub, Nat.reduceLT, Nat.reduceEqDiff, List.cons_append, List.nil_append, List.append_nil, List.getElem?_cons_succ, List.getElem?_cons_zero, List.getElem?_nil, List.set_cons_succ, List.set_cons_zero, List.filterMap_cons, List.filterMap_nil, if_true, if_false, true_and, and_true, Bool.not_true, Bool.not_false, Bool.true_eq_false, Bool.false_eq_true, decide_true, decide_false, and_self, wipeD, Nm.put, Nm.putL, Option.map_some, Option.some.injEq, exists_eq_left', ite_true, ite_false, reduceIte, Nat.reduceLeDiff, List.drop_zero, capsOf, Option.join_some, RST0, List.length_append, List.length_set]
  refine loop_wp (fun j δ st => ∃ w, ∃ o1 o2 o3 o4 o5 o6 o7 o8 o9 o10 o11, δ = [some (.loc n), o1, o2, o3, o4, o5, o6, o7, o8, o9, o10, o11] ∧ st = wst s n w []) ⟨w, _, _, _, _, _, _, _, _, _, _, _, rfl, rfl⟩ (fun _ _ _ _ => trivial) ?_ ?_
  · rintro j d δ st hj ⟨w, o1, o2, o3, o4, o5, o6, o7, o8, o9, o10, o11, rfl, rfl⟩
    refine ⟨_, by simp only [beg, begF, perm, List.map_cons, List.map_nil, List.length_cons, List.length_nil, List.replicate_succ, List.replicate_zero, Nat.reduceAdd, Nat.reduceSub, Nat.reduceLT, Nat.reduceEqDiff, List.cons_append, List.nil_append, List.append_nil, List.getElem?_cons_succ, List.getElem?_cons_zero, List.getElem?_nil, List.set_cons_succ, List.set_cons_zero, List.filterMap_cons, List.filterMap_nil, if_true, if_false, true_and, and_true, Bool.not_true, Bool.not_false, Bool.true_eq_false, Bool.false_eq_true, decide_true, decide_false, and_self, wipeD, Nm.put, Nm.putL, Option.map_some, Option.some.injEq, exists_eq_left', ite_true, ite_false, reduceIte, Nat.reduceLeDiff, List.drop_zero, capsOf, Option.join_some]; rfl, ?_⟩
    simp only [wp_eCh2, o_mulF, ROPS0, ROPS1, at0I, at1I, at2I, at3I, at4I, decide_eq_true_eq, Int.reduceLT, Int.reduceLE, Int.reducePow, Int.reduceToNat, Int.reduceAdd, Int.reduceMul, Int.reduceSub, Int.reduceNeg, Nat.reduceLT, Nat.reduceLeDiff, RWP0, RWP1, RWP2, RWP3, beg, begF, perm, List.map_cons, List.map_nil, List.length_cons, List.length_nil, List.replicate_succ, List.replicate_zero, Nat.reduceAdd, Nat.reduceSub, Nat.reduceLT, Nat.reduceEqDiff, List.cons_append, List.nil_append, List.append_nil, List.getElem?_cons_succ, List.getElem?_cons_zero, List.getElem?_nil, List.set_cons_succ, List.set_cons_zero, List.filterMap_cons, List.filterMap_nil, if_true, if_false, true_and, and_true, Bool.not_true, Bool.not_false, Bool.true_eq_false, Bool.false_eq_true, decide_true, decide_false, and_self, wipeD, Nm.put, Nm.putL, Option.map_some, Option.some.injEq, exists_eq_left', ite_true, ite_false, reduceIte, Nat.reduceLeDiff, List.drop_zero, capsOf, Option.join_some, RST0, List.length_append, List.length_set]
    refine (ofT_dr (by simp) (by simp) (by simp [shut])).use hs .nil hn ?_
    intro v w1 hv
    obtain ⟨m0, rfl, hm0⟩ : ∃ m : Int, v = .int m ∧ 6 ≤ m ∧ m ≤ 61 := by
      simp only [List.mem_cons, List.not_mem_nil, or_false] at hv
      rcases hv with rfl | rfl | rfl <;> exact ⟨_, rfl, by omega⟩
    simp only [wp_eCh2, o_mulF, ROPS0, ROPS1, at0I, at1I, at2I, at3I, at4I, decide_eq_true_eq, Int.reduceLT, Int.reduceLE, Int.reducePow, Int.reduceToNat, Int.reduceAdd, Int.reduceMul, Int.reduceSub, Int.reduceNeg, Nat.reduceLT, Nat.reduceLeDiff, RWP0, RWP1, RWP2, RWP3, beg, begF, perm, List.map_cons, List.map_nil, List.length_cons, List.length_nil, List.replicate_succ, List.replicate_zero, Nat.reduceAdd, Nat.reduceSub, Nat.reduceLT, Nat.reduceEqDiff, List.cons_append, List.nil_append, List.append_nil, List.getElem?_cons_succ, List.getElem?_cons_zero, List.getElem?_nil, List.set_cons_succ, List.set_cons_zero, List.filterMap_cons, List.filterMap_nil, if_true, if_false, true_and, and_true, Bool.not_true, Bool.not_false, Bool.true_eq_false, Bool.false_eq_true, decide_true, decide_false, and_self, wipeD, Nm.put, Nm.putL, Option.map_some, Option.some.injEq, exists_eq_left', ite_true, ite_false, reduceIte, Nat.reduceLeDiff, List.drop_zero, capsOf, Option.join_some, RST0, List.length_append, List.length_set]
    refine (draw_dr (by omega) (by omega)).use hs .nil hn ?_
    rintro v w2 ⟨e, rfl, he0, he1⟩
    simp only [wp_eCh2, o_mulF, ROPS0, ROPS1, at0I, at1I, at2I, at3I, at4I, decide_eq_true_eq, Int.reduceLT, Int.reduceLE, Int.reducePow, Int.reduceToNat, Int.reduceAdd, Int.reduceMul, Int.reduceSub, Int.reduceNeg, Nat.reduceLT, Nat.reduceLeDiff, RWP0, RWP1, RWP2, RWP3, beg, begF, perm, List.map_cons, List.map_nil, List.length_cons, List.length_nil, List.replicate_succ, List.replicate_zero, Nat.reduceAdd, Nat.reduceSub, Nat.reduceLT, Nat.reduceEqDiff, List.cons_append, List.nil_append, List.append_nil, List.getElem?_cons_succ, List.getElem?_cons_zero, List.getElem?_nil, List.set_cons_succ, List.set_cons_zero, List.filterMap_cons, List.filterMap_nil, if_true, if_false, true_and, and_true, Bool.not_true, Bool.not_false, Bool.true_eq_false, Bool.false_eq_true, decide_true, decide_false, and_self, wipeD, Nm.put, Nm.putL, Option.map_some, Option.some.injEq, exists_eq_left', ite_true, ite_false, reduceIte, Nat.reduceLeDiff, List.drop_zero, capsOf, Option.join_some, RST0, List.length_append, List.length_set]
    refine (parts_dr (by omega) (by omega) (by omega) (by omega)).use hs .nil hn ?_
    rintro v w4 ⟨ns, ls, rfl, hp⟩
    have n4 : ns.length ≤ 4 := by have := hp.n4; omega
    have lmax : ls.length ≤ 12 := by have := hp.lo.len; omega
    have hne : ns ≠ [] := by intro z; have := hp.n1; rw [z] at this; simp at this
    have cw : ∀ w t, L3.Cl t → L3.Cl (wst s n w t) := fun w t ht => wst_Cl hs ht
    have mk := fun (st : Store) (h : L3.Cl st) => make_ok F hp ⟨he0, by omega⟩ (by decide) (by decide) (by decide) h (go := fun d st' => mf_House___init__ K [d, .int e, .tup (ns.map D.str), .tup (ls.map Lot.d)] st') (fun _ _ => rfl)
    have x0 : ∀ st X Q, (dIx (partsD e ns ls) (.int 0) st).wp X Q = Q (.int e) st := fun st X Q => by rw [partsD, wp_ixT, at0I]
    have x1 : ∀ st X Q, (dIx (partsD e ns ls) (.int 1) st).wp X Q = Q (.tup (ns.map D.str)) st := fun st X Q => by rw [partsD, wp_ixT, at1I]
    have x2 : ∀ st X Q, (dIx (partsD e ns ls) (.int 2) st).wp X Q = Q (.tup (ls.map Lot.d)) st := fun st X Q => by rw [partsD, wp_ixT, at2I]
    have dp := parts_dat hp ⟨he0, by omega⟩ (by decide) (by decide) (by decide)
    have dn := hp.nm.dat n4
    have tN : tdy (s.length + 0) (some (.loc n)) = some (.loc n) := tdy_some (by simp [shut]; omega)
    obtain ⟨x, hx, at0, cut1⟩ := first_names hp.n1
    simp only [x0, x1, x2, wp_eCh2, o_mulF, ROPS0, ROPS1, at0I, at1I, at2I, at3I, at4I, decide_eq_true_eq, Int.reduceLT, Int.reduceLE, Int.reducePow, Int.reduceToNat, Int.reduceAdd, Int.reduceMul, Int.reduceSub, Int.reduceNeg, Nat.reduceLT, Nat.reduceLeDiff, RWP0, RWP1, RWP2, RWP3, beg, begF, perm, List.map_cons, List.map_nil, List.length_cons, List.length_nil, List.replicate_succ, List.replicate_zero, Nat.reduceAdd, Nat.reduceSub, Nat.reduceLT, Nat.reduceEqDiff, List.cons_append, List.nil_append, List.append_nil, List.getElem?_cons_succ, List.getElem?_cons_zero, List.getElem?_nil, List.set_cons_succ, List.set_cons_zero, List.filterMap_cons, List.filterMap_nil, if_true, if_false, true_and, and_true, Bool.not_true, Bool.not_false, Bool.true_eq_false, Bool.false_eq_true, decide_true, decide_false, and_self, wipeD, Nm.put, Nm.putL, Option.map_some, Option.some.injEq, exists_eq_left', ite_true, ite_false, reduceIte, Nat.reduceLeDiff, List.drop_zero, capsOf, Option.join_some, RST0, List.length_append, List.length_set, mk _ (cw _ _ .nil)]
    -- the right contract
    refine (ofT_dr (by simp) (by simp) (by simp [shut])).use hs .nil hn ?_
    intro v w5 hv
    obtain ⟨a, rfl, ha⟩ : ∃ a : Int, v = .int a ∧ 0 ≤ a ∧ a ≤ e := by
      simp only [List.mem_cons, List.not_mem_nil, or_false] at hv
      rcases hv with rfl | rfl <;> exact ⟨_, rfl, by omega⟩
    simp only [x0, x1, x2, wp_eCh2, o_mulF, ROPS0, ROPS1, at0I, at1I, at2I, at3I, at4I, decide_eq_true_eq, Int.reduceLT, Int.reduceLE, Int.reducePow, Int.reduceToNat, Int.reduceAdd, Int.reduceMul, Int.reduceSub, Int.reduceNeg, Nat.reduceLT, Nat.reduceLeDiff, RWP0, RWP1, RWP2, RWP3, beg, begF, perm, List.map_cons, List.map_nil, List.length_cons, List.length_nil, List.replicate_succ, List.replicate_zero, Nat.reduceAdd, Nat.reduceSub, Nat.reduceLT, Nat.reduceEqDiff, List.cons_append, List.nil_append, List.append_nil, List.getElem?_cons_succ, List.getElem?_cons_zero, List.getElem?_nil, List.set_cons_succ, List.set_cons_zero, List.filterMap_cons, List.filterMap_nil, if_true, if_false, true_and, and_true, Bool.not_true, Bool.not_false, Bool.true_eq_false, Bool.false_eq_true, decide_true, decide_false, and_self, wipeD, Nm.put, Nm.putL, Option.map_some, Option.some.injEq, exists_eq_left', ite_true, ite_false, reduceIte, Nat.reduceLeDiff, List.drop_zero, capsOf, Option.join_some, RST0, List.length_append, List.length_set]
    refine (ofT_dr (by simp) (by simp) (by simp [shut])).use hs .nil hn ?_
    intro v w6 hv
    obtain ⟨b, rfl, hb⟩ : ∃ a : Int, v = .int a ∧ 1 ≤ a ∧ a ≤ 60 := by
      simp only [List.mem_cons, List.not_mem_nil, or_false] at hv
      rcases hv with rfl | rfl <;> exact ⟨_, rfl, by omega⟩
    simp only [x0, x1, x2, wp_eCh2, o_mulF, ROPS0, ROPS1, at0I, at1I, at2I, at3I, at4I, decide_eq_true_eq, Int.reduceLT, Int.reduceLE, Int.reducePow, Int.reduceToNat, Int.reduceAdd, Int.reduceMul, Int.reduceSub, Int.reduceNeg, Nat.reduceLT, Nat.reduceLeDiff, RWP0, RWP1, RWP2, RWP3, beg, begF, perm, List.map_cons, List.map_nil, List.length_cons, List.length_nil, List.replicate_succ, List.replicate_zero, Nat.reduceAdd, Nat.reduceSub, Nat.reduceLT, Nat.reduceEqDiff, List.cons_append, List.nil_append, List.append_nil, List.getElem?_cons_succ, List.getElem?_cons_zero, List.getElem?_nil, List.set_cons_succ, List.set_cons_zero, List.filterMap_cons, List.filterMap_nil, if_true, if_false, true_and, and_true, Bool.not_true, Bool.not_false, Bool.true_eq_false, Bool.false_eq_true, decide_true, decide_false, and_self, wipeD, Nm.put, Nm.putL, Option.map_some, Option.some.injEq, exists_eq_left', ite_true, ite_false, reduceIte, Nat.reduceLeDiff, List.drop_zero, capsOf, Option.join_some, RST0, List.length_append, List.length_set]
    refine (ofT_dr (by simp) (by simp) (by simp [shut])).use hs .nil hn ?_
    intro v w7 hv
    obtain ⟨c, rfl, hc⟩ : ∃ a : Nat, v = .int a ∧ 1 ≤ a ∧ a ≤ 24 := by
      simp only [List.mem_cons, List.not_mem_nil, or_false] at hv
      rcases hv with rfl | rfl
      · exact ⟨1, rfl, by omega⟩
      · exact ⟨24, rfl, by omega⟩
    simp only [x0, x1, x2, wp_eCh2, o_mulF, ROPS0, ROPS1, at0I, at1I, at2I, at3I, at4I, decide_eq_true_eq, Int.reduceLT, Int.reduceLE, Int.reducePow, Int.reduceToNat, Int.reduceAdd, Int.reduceMul, Int.reduceSub, Int.reduceNeg, Nat.reduceLT, Nat.reduceLeDiff, RWP0, RWP1, RWP2, RWP3, beg, begF, perm, List.map_cons, List.map_nil, List.length_cons, List.length_nil, List.replicate_succ, List.replicate_zero, Nat.reduceAdd, Nat.reduceSub, Nat.reduceLT, Nat.reduceEqDiff, List.cons_append, List.nil_append, List.append_nil, List.getElem?_cons_succ, List.getElem?_cons_zero, List.getElem?_nil, List.set_cons_succ, List.set_cons_zero, List.filterMap_cons, List.filterMap_nil, if_true, if_false, true_and, and_true, Bool.not_true, Bool.not_false, Bool.true_eq_false, Bool.false_eq_true, decide_true, decide_false, and_self, wipeD, Nm.put, Nm.putL, Option.map_some, Option.some.injEq, exists_eq_left', ite_true, ite_false, reduceIte, Nat.reduceLeDiff, List.drop_zero, capsOf, Option.join_some, RST0, List.length_append, List.length_set]
    refine (ofT_dr (by simp) (by simp) (by simp [shut])).use hs .nil hn ?_
    intro v w8 hv
    obtain ⟨y, rfl, hy⟩ : ∃ a : Int, v = .int a ∧ 0 ≤ a ∧ a ≤ 1000000 := by
      simp only [List.mem_cons, List.not_mem_nil, or_false] at hv
      rcases hv with rfl | rfl <;> exact ⟨_, rfl, by omega⟩
    simp only [x0, x1, x2, wp_eCh2, o_mulF, ROPS0, ROPS1, at0I, at1I, at2I, at3I, at4I, decide_eq_true_eq, Int.reduceLT, Int.reduceLE, Int.reducePow, Int.reduceToNat, Int.reduceAdd, Int.reduceMul, Int.reduceSub, Int.reduceNeg, Nat.reduceLT, Nat.reduceLeDiff, RWP0, RWP1, RWP2, RWP3, beg, begF, perm, List.map_cons, List.map_nil, List.length_cons, List.length_nil, List.replicate_succ, List.replicate_zero, Nat.reduceAdd, Nat.reduceSub, Nat.reduceLT, Nat.reduceEqDiff, List.cons_append, List.nil_append, List.append_nil, List.getElem?_cons_succ, List.getElem?_cons_zero, List.getElem?_nil, List.set_cons_succ, List.set_cons_zero, List.filterMap_cons, List.filterMap_nil, if_true, if_false, true_and, and_true, Bool.not_true, Bool.not_false, Bool.true_eq_false, Bool.false_eq_true, decide_true, decide_false, and_self, wipeD, Nm.put, Nm.putL, Option.map_some, Option.some.injEq, exists_eq_left', ite_true, ite_false, reduceIte, Nat.reduceLeDiff, List.drop_zero, capsOf, Option.join_some, RST0, List.length_append, List.length_set]
    refine (ofT_dr (by simp) (by simp) (by simp [shut])).use hs .nil hn ?_
    intro v w9 hv
    obtain ⟨l, rfl, hl⟩ : ∃ a : Int, v = .int a ∧ 1 ≤ a ∧ a ≤ 60 := by
      simp only [List.mem_cons, List.not_mem_nil, or_false] at hv
      rcases hv with rfl | rfl <;> exact ⟨_, rfl, by omega⟩
    simp only [x0, x1, x2, wp_eCh2, o_mulF, ROPS0, ROPS1, at0I, at1I, at2I, at3I, at4I, decide_eq_true_eq, Int.reduceLT, Int.reduceLE, Int.reducePow, Int.reduceToNat, Int.reduceAdd, Int.reduceMul, Int.reduceSub, Int.reduceNeg, Nat.reduceLT, Nat.reduceLeDiff, RWP0, RWP1, RWP2, RWP3, beg, begF, perm, List.map_cons, List.map_nil, List.length_cons, List.length_nil, List.replicate_succ, List.replicate_zero, Nat.reduceAdd, Nat.reduceSub, Nat.reduceLT, Nat.reduceEqDiff, List.cons_append, List.nil_append, List.append_nil, List.getElem?_cons_succ, List.getElem?_cons_zero, List.getElem?_nil, List.set_cons_succ, List.set_cons_zero, List.filterMap_cons, List.filterMap_nil, if_true, if_false, true_and, and_true, Bool.not_true, Bool.not_false, Bool.true_eq_false, Bool.false_eq_true, decide_true, decide_false, and_self, wipeD, Nm.put, Nm.putL, Option.map_some, Option.some.injEq, exists_eq_left', ite_true, ite_false, reduceIte, Nat.reduceLeDiff, List.drop_zero, capsOf, Option.join_some, RST0, List.length_append, List.length_set, o_addF]
    refine (ofT_dr (by simp) (by simp) (by simp [shut])).use hs .nil hn ?_
    intro v w10 hv
    obtain ⟨wy, rfl, hwy⟩ : ∃ a : Str, v = .str a ∧ a ∈ waysL := by
      simp only [List.mem_cons, List.not_mem_nil, or_false] at hv
      rcases hv with rfl | rfl | rfl | rfl | rfl <;> exact ⟨_, rfl, by simp [waysL]⟩
    have hodds : ∀ st, mf__law_odds K [partsD e ns ls] st = _ := fun st => odds_ok ⟨he0, by omega⟩ n4 at0 cut1
    obtain ⟨R, hR⟩ : ∃ R, [D.int a, .int b, .int c, .int y, .int l, .tup (ns.map D.str), .str wy] = R := ⟨_, rfl⟩
    have hR2 : R = rightL a b c y l ns wy := hR.symm
    have rl : R.length = 7 := by rw [← hR]; rfl
    simp only [x0, x1, x2, wp_eCh2, o_mulF, ROPS0, ROPS1, at0I, at1I, at2I, at3I, at4I, decide_eq_true_eq, Int.reduceLT, Int.reduceLE, Int.reducePow, Int.reduceToNat, Int.reduceAdd, Int.reduceMul, Int.reduceSub, Int.reduceNeg, Nat.reduceLT, Nat.reduceLeDiff, RWP0, RWP1, RWP2, RWP3, beg, begF, perm, List.map_cons, List.map_nil, List.length_cons, List.length_nil, List.replicate_succ, List.replicate_zero, Nat.reduceAdd, Nat.reduceSub, Nat.reduceLT, Nat.reduceEqDiff, List.cons_append, List.nil_append, List.append_nil, List.getElem?_cons_succ, List.getElem?_cons_zero, List.getElem?_nil, List.set_cons_succ, List.set_cons_zero, List.filterMap_cons, List.filterMap_nil, if_true, if_false, true_and, and_true, Bool.not_true, Bool.not_false, Bool.true_eq_false, Bool.false_eq_true, decide_true, decide_false, and_self, wipeD, Nm.put, Nm.putL, Option.map_some, Option.some.injEq, exists_eq_left', ite_true, ite_false, reduceIte, Nat.reduceLeDiff, List.drop_zero, capsOf, Option.join_some, RST0, List.length_append, List.length_set, o_addF, hR, hodds]
    refine (draw_dr (by omega) (by omega)).use hs .nil hn ?_
    rintro v w11 ⟨at', rfl, hat0, hat1⟩
    obtain ⟨i, rfl⟩ := Int.eq_ofNat_of_zero_le hat0
    have hi : i < 7 := by omega
    obtain ⟨os, hos⟩ : ∃ os, (oddsL e x ns)[i]? = some os := ⟨_, List.getElem?_eq_getElem (by simp [oddsL]; omega)⟩
    have hos1 : 0 < os.length ∧ os.length < 1000 := by
      have : ∀ os ∈ oddsL e x ns, 0 < os.length ∧ os.length < 1000 := by
        intro os h
        simp only [oddsL, List.mem_cons, List.not_mem_nil, or_false] at h
        rcases h with rfl | rfl | rfl | rfl | rfl | rfl | rfl <;> simp [oddSizes, oddSome]
      exact this os (List.mem_of_getElem? hos)
    have bok := bad_ok (a := a) (b := b) (c := (c : Int)) (y := y) (l := l) (w := wy) ⟨he0, by omega⟩ hx hp.nm n4 hos
    rw [← hR2] at bok
    have ixo : ∀ st X Q, (dIx (.tup ((oddsL e x ns).map D.tup)) (.int (i : Int)) st).wp X Q = Q (.tup os) st := fun st X Q => by
      rw [wp_ixT]
      have : atI ((oddsL e x ns).map D.tup) (i : Int) = some (.tup os) := by
        rw [atN (by simp [oddsL]; omega)]
        rw [List.getElem_map, Option.some.injEq, D.tup.injEq]
        obtain ⟨h1, h2⟩ := List.getElem?_eq_some_iff.mp hos
        exact h2
      rw [this]
    simp only [x0, x1, x2, wp_eCh2, o_mulF, ROPS0, ROPS1, at0I, at1I, at2I, at3I, at4I, decide_eq_true_eq, Int.reduceLT, Int.reduceLE, Int.reducePow, Int.reduceToNat, Int.reduceAdd, Int.reduceMul, Int.reduceSub, Int.reduceNeg, Nat.reduceLT, Nat.reduceLeDiff, RWP0, RWP1, RWP2, RWP3, beg, begF, perm, List.map_cons, List.map_nil, List.length_cons, List.length_nil, List.replicate_succ, List.replicate_zero, Nat.reduceAdd, Nat.reduceSub, Nat.reduceLT, Nat.reduceEqDiff, List.cons_append, List.nil_append, List.append_nil, List.getElem?_cons_succ, List.getElem?_cons_zero, List.getElem?_nil, List.set_cons_succ, List.set_cons_zero, List.filterMap_cons, List.filterMap_nil, if_true, if_false, true_and, and_true, Bool.not_true, Bool.not_false, Bool.true_eq_false, Bool.false_eq_true, decide_true, decide_false, and_self, wipeD, Nm.put, Nm.putL, Option.map_some, Option.some.injEq, exists_eq_left', ite_true, ite_false, reduceIte, Nat.reduceLeDiff, List.drop_zero, capsOf, Option.join_some, RST0, List.length_append, List.length_set, ixo]
    refine (ofT_dr hos1.1 (by omega) (fun v hv i => (bok v hv).2.shut i)).use hs .nil hn ?_
    intro v w12 hv
    obtain ⟨cb, dv⟩ := bok v hv
    clear hv bok hos hos1
    have dR : ∀ v ∈ R, Dat 2 700 v := by rw [hR2]; exact rightL_dat (by omega) (by omega) (by omega) (by omega) (by omega) hp.nm n4 hwy
    have dRs : ∀ zs : List D, (∀ z ∈ zs, z ∈ R ∨ z = v ∨ z = .int 0) → zs.length ≤ 8 → Dat 3 7000 (.tup zs) ∧ Dat 3 7000 (.fl zs) := fun zs hz hl => by
      have : DatL 2 (zs.length * 702) zs := DatL.all fun d hd => by
        rcases hz d hd with h | rfl | rfl
        · exact dR d h
        · exact dv
        · exact (Dat.int' (k := 0) (by omega)).mono (by decide) (by decide)
      exact ⟨(Dat.tup this).mono (by decide) (by omega), (Dat.fl this).mono (by decide) (by omega)⟩
    have c1 : cutD R none (some (i : Int)) = R.take i := cut_to
    have c2 : cutD R (some ((i : Int) + 1)) none = R.drop (i + 1) := cut_from (j := i + 1)
    have a1 : ∀ st, dAdd (.tup (R.take i)) (.tup [v]) st = .ok (.tup (R.take i ++ [v])) st := fun st => o_addT (by simp [rl]; omega)
    have a2 : ∀ st, dAdd (.tup (R.take i ++ [v])) (.tup (R.drop (i + 1))) st = .ok (.tup (R.take i ++ [v] ++ R.drop (i + 1))) st := fun st => o_addT (by simp [rl]; omega)
    have a3 : ∀ st, dAdd (.tup R) (.tup [.int 0]) st = .ok (.tup (R ++ [.int 0])) st := fun st => o_addT (by simp [rl])
    have c3 : cutD R none (some (-1)) = R.take 6 := by rw [← hR]; rfl
    obtain ⟨bad, hbad⟩ : ∃ z, R.take i ++ [v] ++ R.drop (i + 1) = z := ⟨_, rfl⟩
    have bl : bad.length ≤ 8 := by rw [← hbad]; simp [rl]; omega
    have bm : ∀ z ∈ bad, z ∈ R ∨ z = v ∨ z = .int 0 := fun z hz => by
      rw [← hbad] at hz
      simp only [List.mem_append, List.mem_singleton] at hz
      rcases hz with (hz | hz) | hz
      · exact .inl (List.mem_of_mem_take hz)
      · exact .inr (.inl hz)
      · exact .inl (List.mem_of_mem_drop hz)
    rw [hbad] at cb
    rw [hbad] at a2
    obtain ⟨q1, hq1⟩ : ∃ z, R.take 6 = z := ⟨_, rfl⟩
    obtain ⟨q2, hq2⟩ : ∃ z, R ++ [D.int 0] = z := ⟨_, rfl⟩
    obtain ⟨q3, hq3⟩ : ∃ z, R.reverse = z := ⟨_, rfl⟩
    rw [hq1] at c3
    rw [hq2] at a3
    simp only [x0, x1, x2, wp_eCh2, o_mulF, ROPS0, ROPS1, at0I, at1I, at2I, at3I, at4I, decide_eq_true_eq, Int.reduceLT, Int.reduceLE, Int.reducePow, Int.reduceToNat, Int.reduceAdd, Int.reduceMul, Int.reduceSub, Int.reduceNeg, Nat.reduceLT, Nat.reduceLeDiff, RWP0, RWP1, RWP2, RWP3, beg, begF, perm, List.map_cons, List.map_nil, List.length_cons, List.length_nil, List.replicate_succ, List.replicate_zero, Nat.reduceAdd, Nat.reduceSub, Nat.reduceLT, Nat.reduceEqDiff, List.cons_append, List.nil_append, List.append_nil, List.getElem?_cons_succ, List.getElem?_cons_zero, List.getElem?_nil, List.set_cons_succ, List.set_cons_zero, List.filterMap_cons, List.filterMap_nil, if_true, if_false, true_and, and_true, Bool.not_true, Bool.not_false, Bool.true_eq_false, Bool.false_eq_true, decide_true, decide_false, and_self, wipeD, Nm.put, Nm.putL, Option.map_some, Option.some.injEq, exists_eq_left', ite_true, ite_false, reduceIte, Nat.reduceLeDiff, List.drop_zero, capsOf, Option.join_some, RST0, List.length_append, List.length_set, c1, c2, c3, a1, a2, a3, hq3]
    have wro : ∀ v ∈ [D.tup bad, .tup bad, .tup bad, .tup bad, .tup q1, .tup q2, .fl R, .non, .tup [], .int 5, .tup q3], contractB e ns v = false ∧ Dat 3 7000 v := by
      intro z hz
      simp only [List.mem_cons, List.not_mem_nil, or_false] at hz
      have B : contractB e ns (.tup bad) = false ∧ Dat 3 7000 (.tup bad) := ⟨cb, (dRs bad bm bl).1⟩
      rcases hz with rfl | rfl | rfl | rfl | rfl | rfl | rfl | rfl | rfl | rfl | rfl
      · exact B
      · exact B
      · exact B
      · exact B
      · refine ⟨by rw [← hq1, ← hR]; rfl, (dRs q1 (fun z hz => .inl (List.mem_of_mem_take (by rw [hq1]; exact hz))) (by rw [← hq1]; simp; omega)).1⟩
      · refine ⟨by rw [← hq2, ← hR]; rfl, (dRs q2 (fun z hz => by
          rw [← hq2] at hz
          rcases List.mem_append.mp hz with hz | hz
          · exact .inl hz
          · exact .inr (.inr (by simpa using hz))) (by rw [← hq2]; simp [rl])).1⟩
      · exact ⟨rfl, (dRs R (fun z hz => .inl hz) (by omega)).2⟩
      · exact ⟨rfl, (Dat.non (k := 0)).mono (by decide) (by decide)⟩
      · exact ⟨rfl, (Dat.tup (DatL.nil (k := 0) (n := 0))).mono (by decide) (by decide)⟩
      · exact ⟨rfl, (Dat.int' (k := 0) (by omega)).mono (by decide) (by decide)⟩
      · refine ⟨by rw [← hq3, ← hR]; rfl, (dRs q3 (fun z hz => .inl (by rw [← hq3] at hz; exact List.mem_reverse.mp hz)) (by rw [← hq3]; simp; omega)).1⟩
    refine (ofT_dr (by simp) (by simp) (fun v hv i => (wro v hv).2.shut i)).use hs .nil hn ?_
    intro wr w13 hwr
    obtain ⟨cwr, dwr⟩ := wro wr hwr
    clear hwr wro
    simp only [x0, x1, x2, wp_eCh2, o_mulF, ROPS0, ROPS1, at0I, at1I, at2I, at3I, at4I, decide_eq_true_eq, Int.reduceLT, Int.reduceLE, Int.reducePow, Int.reduceToNat, Int.reduceAdd, Int.reduceMul, Int.reduceSub, Int.reduceNeg, Nat.reduceLT, Nat.reduceLeDiff, RWP0, RWP1, RWP2, RWP3, beg, begF, perm, List.map_cons, List.map_nil, List.length_cons, List.length_nil, List.replicate_succ, List.replicate_zero, Nat.reduceAdd, Nat.reduceSub, Nat.reduceLT, Nat.reduceEqDiff, List.cons_append, List.nil_append, List.append_nil, List.getElem?_cons_succ, List.getElem?_cons_zero, List.getElem?_nil, List.set_cons_succ, List.set_cons_zero, List.filterMap_cons, List.filterMap_nil, if_true, if_false, true_and, and_true, Bool.not_true, Bool.not_false, Bool.true_eq_false, Bool.false_eq_true, decide_true, decide_false, and_self, wipeD, Nm.put, Nm.putL, Option.map_some, Option.some.injEq, exists_eq_left', ite_true, ite_false, reduceIte, Nat.reduceLeDiff, List.drop_zero, capsOf, Option.join_some, RST0, List.length_append, List.length_set]
    have oddN : ∀ v ∈ [D.non, partsD e ns ls, D.tup [], D.int 5], Dat 4 10000 v := by
      intro v hv
      simp only [List.mem_cons, List.not_mem_nil, or_false] at hv
      rcases hv with rfl | rfl | rfl | rfl
      · exact (Dat.non (k := 0)).mono (by decide) (by decide)
      · exact dp
      · exact (Dat.tup (DatL.nil (k := 0) (n := 0))).mono (by decide) (by decide)
      · exact (Dat.int' (k := 1) (by omega)).mono (by decide) (by decide)
    refine (ofT_dr (by simp) (by simp) (fun v hv i => (oddN v hv).shut i)).use hs .nil hn ?_
    intro no w14 hno
    have dno := oddN no hno
    clear hno oddN
    obtain ⟨pno, hno⟩ := id dno
    obtain ⟨pwr, hwr⟩ := id dwr
    have rno : ∀ st, bRepr [no] st = .ok (.str pno.shown) st := fun st => o_repr (toPd_of hno.e) (hno.rep (by decide) (by decide))
    have rwr : ∀ st, bRepr [wr] st = .ok (.str pwr.shown) st := fun st => o_repr (toPd_of hwr.e) (hwr.rep (by decide) (by decide))
    have hcon : D.tup R = contractD a b c y l ns wy := by rw [hR2]; rfl
    have sk : someB ns (.tup (ns.map D.str)) = true := someB_ok hp.nm (List.Sublist.refl _) hne
    have f1 : ∀ (w : W3) (xs : List D), (wst s n w [.lst xs])[s.length + 0]? = some (.lst xs) := fun w xs => by rw [wst_k]; rfl
    have clS : ∀ (w : W3) (xs : List (List Str)), L3.Cl (wst s n w [.lst (xs.map fun z => .fl (z.map D.str))]) := fun w xs => cw _ _ (by
      have : shutL 0 (xs.map fun z => D.fl (z.map D.str)) = true := by
        induction xs with
        | nil => rfl
        | cons z zs ih => simp [shutL, shut, ih, shutL_toP _ _ (toPs_strs z)]
      simp [L3.Cl, shutC, this])
    simp only [x0, x1, x2, wp_eCh2, o_mulF, ROPS0, ROPS1, at0I, at1I, at2I, at3I, at4I, decide_eq_true_eq, Int.reduceLT, Int.reduceLE, Int.reducePow, Int.reduceToNat, Int.reduceAdd, Int.reduceMul, Int.reduceSub, Int.reduceNeg, Nat.reduceLT, Nat.reduceLeDiff, RWP0, RWP1, RWP2, RWP3, beg, begF, perm, List.map_cons, List.map_nil, List.length_cons, List.length_nil, List.replicate_succ, List.replicate_zero, Nat.reduceAdd, Nat.reduceSub, Nat.reduceLT, Nat.reduceEqDiff, List.cons_append, List.nil_append, List.append_nil, List.getElem?_cons_succ, List.getElem?_cons_zero, List.getElem?_nil, List.set_cons_succ, List.set_cons_zero, List.filterMap_cons, List.filterMap_nil, if_true, if_false, true_and, and_true, Bool.not_true, Bool.not_false, Bool.true_eq_false, Bool.false_eq_true, decide_true, decide_false, and_self, wipeD, Nm.put, Nm.putL, Option.map_some, Option.some.injEq, exists_eq_left', ite_true, ite_false, reduceIte, Nat.reduceLeDiff, List.drop_zero, capsOf, Option.join_some, RST0, List.length_append, List.length_set]
    refine wp_eCallL0 (v := .fl [.str "house", .str pno.shown]) (fun f => ref_house F ?_ rno) ?_
    · apply Res.wp_er
      simp only [wp_eCh2, o_mulF, ROPS0, ROPS1, at0I, at1I, at2I, at3I, at4I, decide_eq_true_eq, Int.reduceLT, Int.reduceLE, Int.reducePow, Int.reduceToNat, Int.reduceAdd, Int.reduceMul, Int.reduceSub, Int.reduceNeg, Nat.reduceLT, Nat.reduceLeDiff, RWP0, RWP1, RWP2, RWP3, beg, begF, perm, List.map_cons, List.map_nil, List.length_cons, List.length_nil, List.replicate_succ, List.replicate_zero, Nat.reduceAdd, Nat.reduceSub, Nat.reduceLT, Nat.reduceEqDiff, List.cons_append, List.nil_append, List.append_nil, List.getElem?_cons_succ, List.getElem?_cons_zero, List.getElem?_nil, List.set_cons_succ, List.set_cons_zero, List.filterMap_cons, List.filterMap_nil, if_true, if_false, true_and, and_true, Bool.not_true, Bool.not_false, Bool.true_eq_false, Bool.false_eq_true, decide_true, decide_false, and_self, wipeD, Nm.put, Nm.putL, Option.map_some, Option.some.injEq, exists_eq_left', ite_true, ite_false, reduceIte, Nat.reduceLeDiff, List.drop_zero, capsOf, Option.join_some, RST0, List.length_append, List.length_set, contractLots_h F (.of dno)]
    simp only [wp_eCh2, o_mulF, ROPS0, ROPS1, at0I, at1I, at2I, at3I, at4I, decide_eq_true_eq, Int.reduceLT, Int.reduceLE, Int.reducePow, Int.reduceToNat, Int.reduceAdd, Int.reduceMul, Int.reduceSub, Int.reduceNeg, Nat.reduceLT, Nat.reduceLeDiff, RWP0, RWP1, RWP2, RWP3, beg, begF, perm, List.map_cons, List.map_nil, List.length_cons, List.length_nil, List.replicate_succ, List.replicate_zero, Nat.reduceAdd, Nat.reduceSub, Nat.reduceLT, Nat.reduceEqDiff, List.cons_append, List.nil_append, List.append_nil, List.getElem?_cons_succ, List.getElem?_cons_zero, List.getElem?_nil, List.set_cons_succ, List.set_cons_zero, List.filterMap_cons, List.filterMap_nil, if_true, if_false, true_and, and_true, Bool.not_true, Bool.not_false, Bool.true_eq_false, Bool.false_eq_true, decide_true, decide_false, and_self, wipeD, Nm.put, Nm.putL, Option.map_some, Option.some.injEq, exists_eq_left', ite_true, ite_false, reduceIte, Nat.reduceLeDiff, List.drop_zero, capsOf, Option.join_some, RST0, List.length_append, List.length_set, o_isLs (f1 _ _)]
    refine wp_eCallL0 (v := .fl [.str "house", .str pno.shown]) (fun f => ref_house F ?_ rno) ?_
    · apply Res.wp_er
      simp only [wp_eCh2, o_mulF, ROPS0, ROPS1, at0I, at1I, at2I, at3I, at4I, decide_eq_true_eq, Int.reduceLT, Int.reduceLE, Int.reducePow, Int.reduceToNat, Int.reduceAdd, Int.reduceMul, Int.reduceSub, Int.reduceNeg, Nat.reduceLT, Nat.reduceLeDiff, RWP0, RWP1, RWP2, RWP3, beg, begF, perm, List.map_cons, List.map_nil, List.length_cons, List.length_nil, List.replicate_succ, List.replicate_zero, Nat.reduceAdd, Nat.reduceSub, Nat.reduceLT, Nat.reduceEqDiff, List.cons_append, List.nil_append, List.append_nil, List.getElem?_cons_succ, List.getElem?_cons_zero, List.getElem?_nil, List.set_cons_succ, List.set_cons_zero, List.filterMap_cons, List.filterMap_nil, if_true, if_false, true_and, and_true, Bool.not_true, Bool.not_false, Bool.true_eq_false, Bool.false_eq_true, decide_true, decide_false, and_self, wipeD, Nm.put, Nm.putL, Option.map_some, Option.some.injEq, exists_eq_left', ite_true, ite_false, reduceIte, Nat.reduceLeDiff, List.drop_zero, capsOf, Option.join_some, RST0, List.length_append, List.length_set, withContract_h F (.of dno)]
    simp only [wp_eCh2, o_mulF, ROPS0, ROPS1, at0I, at1I, at2I, at3I, at4I, decide_eq_true_eq, Int.reduceLT, Int.reduceLE, Int.reducePow, Int.reduceToNat, Int.reduceAdd, Int.reduceMul, Int.reduceSub, Int.reduceNeg, Nat.reduceLT, Nat.reduceLeDiff, RWP0, RWP1, RWP2, RWP3, beg, begF, perm, List.map_cons, List.map_nil, List.length_cons, List.length_nil, List.replicate_succ, List.replicate_zero, Nat.reduceAdd, Nat.reduceSub, Nat.reduceLT, Nat.reduceEqDiff, List.cons_append, List.nil_append, List.append_nil, List.getElem?_cons_succ, List.getElem?_cons_zero, List.getElem?_nil, List.set_cons_succ, List.set_cons_zero, List.filterMap_cons, List.filterMap_nil, if_true, if_false, true_and, and_true, Bool.not_true, Bool.not_false, Bool.true_eq_false, Bool.false_eq_true, decide_true, decide_false, and_self, wipeD, Nm.put, Nm.putL, Option.map_some, Option.some.injEq, exists_eq_left', ite_true, ite_false, reduceIte, Nat.reduceLeDiff, List.drop_zero, capsOf, Option.join_some, RST0, List.length_append, List.length_set, o_isLs (f1 _ _), o_append (f1 _ _)]
    refine wp_eCallL0 (v := .fl [.str "contract", .str pwr.shown]) (fun f => ref_contract F ?_ rwr) ?_
    · apply Res.wp_er
      simp only [wp_eCh2, o_mulF, ROPS0, ROPS1, at0I, at1I, at2I, at3I, at4I, decide_eq_true_eq, Int.reduceLT, Int.reduceLE, Int.reducePow, Int.reduceToNat, Int.reduceAdd, Int.reduceMul, Int.reduceSub, Int.reduceNeg, Nat.reduceLT, Nat.reduceLeDiff, RWP0, RWP1, RWP2, RWP3, beg, begF, perm, List.map_cons, List.map_nil, List.length_cons, List.length_nil, List.replicate_succ, List.replicate_zero, Nat.reduceAdd, Nat.reduceSub, Nat.reduceLT, Nat.reduceEqDiff, List.cons_append, List.nil_append, List.append_nil, List.getElem?_cons_succ, List.getElem?_cons_zero, List.getElem?_nil, List.set_cons_succ, List.set_cons_zero, List.filterMap_cons, List.filterMap_nil, if_true, if_false, true_and, and_true, Bool.not_true, Bool.not_false, Bool.true_eq_false, Bool.false_eq_true, decide_true, decide_false, and_self, wipeD, Nm.put, Nm.putL, Option.map_some, Option.some.injEq, exists_eq_left', ite_true, ite_false, reduceIte, Nat.reduceLeDiff, List.drop_zero, capsOf, Option.join_some, RST0, List.length_append, List.length_set, contractLots_no F dwr (by decide) cwr]
    simp only [wp_eCh2, o_mulF, ROPS0, ROPS1, at0I, at1I, at2I, at3I, at4I, decide_eq_true_eq, Int.reduceLT, Int.reduceLE, Int.reducePow, Int.reduceToNat, Int.reduceAdd, Int.reduceMul, Int.reduceSub, Int.reduceNeg, Nat.reduceLT, Nat.reduceLeDiff, RWP0, RWP1, RWP2, RWP3, beg, begF, perm, List.map_cons, List.map_nil, List.length_cons, List.length_nil, List.replicate_succ, List.replicate_zero, Nat.reduceAdd, Nat.reduceSub, Nat.reduceLT, Nat.reduceEqDiff, List.cons_append, List.nil_append, List.append_nil, List.getElem?_cons_succ, List.getElem?_cons_zero, List.getElem?_nil, List.set_cons_succ, List.set_cons_zero, List.filterMap_cons, List.filterMap_nil, if_true, if_false, true_and, and_true, Bool.not_true, Bool.not_false, Bool.true_eq_false, Bool.false_eq_true, decide_true, decide_false, and_self, wipeD, Nm.put, Nm.putL, Option.map_some, Option.some.injEq, exists_eq_left', ite_true, ite_false, reduceIte, Nat.reduceLeDiff, List.drop_zero, capsOf, Option.join_some, RST0, List.length_append, List.length_set, o_isLs (f1 _ _), o_append (f1 _ _)]
    refine wp_eCallL0 (v := .fl [.str "contract", .str pwr.shown]) (fun f => ref_contract F ?_ rwr) ?_
    · apply Res.wp_er
      simp only [wp_eCh2, o_mulF, ROPS0, ROPS1, at0I, at1I, at2I, at3I, at4I, decide_eq_true_eq, Int.reduceLT, Int.reduceLE, Int.reducePow, Int.reduceToNat, Int.reduceAdd, Int.reduceMul, Int.reduceSub, Int.reduceNeg, Nat.reduceLT, Nat.reduceLeDiff, RWP0, RWP1, RWP2, RWP3, beg, begF, perm, List.map_cons, List.map_nil, List.length_cons, List.length_nil, List.replicate_succ, List.replicate_zero, Nat.reduceAdd, Nat.reduceSub, Nat.reduceLT, Nat.reduceEqDiff, List.cons_append, List.nil_append, List.append_nil, List.getElem?_cons_succ, List.getElem?_cons_zero, List.getElem?_nil, List.set_cons_succ, List.set_cons_zero, List.filterMap_cons, List.filterMap_nil, if_true, if_false, true_and, and_true, Bool.not_true, Bool.not_false, Bool.true_eq_false, Bool.false_eq_true, decide_true, decide_false, and_self, wipeD, Nm.put, Nm.putL, Option.map_some, Option.some.injEq, exists_eq_left', ite_true, ite_false, reduceIte, Nat.reduceLeDiff, List.drop_zero, capsOf, Option.join_some, RST0, List.length_append, List.length_set, withContract_no F dwr (by decide) cwr]
    simp only [wp_eCh2, o_mulF, ROPS0, ROPS1, at0I, at1I, at2I, at3I, at4I, decide_eq_true_eq, Int.reduceLT, Int.reduceLE, Int.reducePow, Int.reduceToNat, Int.reduceAdd, Int.reduceMul, Int.reduceSub, Int.reduceNeg, Nat.reduceLT, Nat.reduceLeDiff, RWP0, RWP1, RWP2, RWP3, beg, begF, perm, List.map_cons, List.map_nil, List.length_cons, List.length_nil, List.replicate_succ, List.replicate_zero, Nat.reduceAdd, Nat.reduceSub, Nat.reduceLT, Nat.reduceEqDiff, List.cons_append, List.nil_append, List.append_nil, List.getElem?_cons_succ, List.getElem?_cons_zero, List.getElem?_nil, List.set_cons_succ, List.set_cons_zero, List.filterMap_cons, List.filterMap_nil, if_true, if_false, true_and, and_true, Bool.not_true, Bool.not_false, Bool.true_eq_false, Bool.false_eq_true, decide_true, decide_false, and_self, wipeD, Nm.put, Nm.putL, Option.map_some, Option.some.injEq, exists_eq_left', ite_true, ite_false, reduceIte, Nat.reduceLeDiff, List.drop_zero, capsOf, Option.join_some, RST0, List.length_append, List.length_set, o_isLs (f1 _ _), o_append (f1 _ _)]
    refine wp_eCallL0 (v := .fl [.str "contract", .str pwr.shown]) (fun f => ref_contract F ?_ rwr) ?_
    · apply Res.wp_er
      simp only [wp_eCh2, o_mulF, ROPS0, ROPS1, at0I, at1I, at2I, at3I, at4I, decide_eq_true_eq, Int.reduceLT, Int.reduceLE, Int.reducePow, Int.reduceToNat, Int.reduceAdd, Int.reduceMul, Int.reduceSub, Int.reduceNeg, Nat.reduceLT, Nat.reduceLeDiff, RWP0, RWP1, RWP2, RWP3, beg, begF, perm, List.map_cons, List.map_nil, List.length_cons, List.length_nil, List.replicate_succ, List.replicate_zero, Nat.reduceAdd, Nat.reduceSub, Nat.reduceLT, Nat.reduceEqDiff, List.cons_append, List.nil_append, List.append_nil, List.getElem?_cons_succ, List.getElem?_cons_zero, List.getElem?_nil, List.set_cons_succ, List.set_cons_zero, List.filterMap_cons, List.filterMap_nil, if_true, if_false, true_and, and_true, Bool.not_true, Bool.not_false, Bool.true_eq_false, Bool.false_eq_true, decide_true, decide_false, and_self, wipeD, Nm.put, Nm.putL, Option.map_some, Option.some.injEq, exists_eq_left', ite_true, ite_false, reduceIte, Nat.reduceLeDiff, List.drop_zero, capsOf, Option.join_some, RST0, List.length_append, List.length_set, contractLots_no F dwr (by decide) cwr]
    simp only [wp_eCh2, o_mulF, ROPS0, ROPS1, at0I, at1I, at2I, at3I, at4I, decide_eq_true_eq, Int.reduceLT, Int.reduceLE, Int.reducePow, Int.reduceToNat, Int.reduceAdd, Int.reduceMul, Int.reduceSub, Int.reduceNeg, Nat.reduceLT, Nat.reduceLeDiff, RWP0, RWP1, RWP2, RWP3, beg, begF, perm, List.map_cons, List.map_nil, List.length_cons, List.length_nil, List.replicate_succ, List.replicate_zero, Nat.reduceAdd, Nat.reduceSub, Nat.reduceLT, Nat.reduceEqDiff, List.cons_append, List.nil_append, List.append_nil, List.getElem?_cons_succ, List.getElem?_cons_zero, List.getElem?_nil, List.set_cons_succ, List.set_cons_zero, List.filterMap_cons, List.filterMap_nil, if_true, if_false, true_and, and_true, Bool.not_true, Bool.not_false, Bool.true_eq_false, Bool.false_eq_true, decide_true, decide_false, and_self, wipeD, Nm.put, Nm.putL, Option.map_some, Option.some.injEq, exists_eq_left', ite_true, ite_false, reduceIte, Nat.reduceLeDiff, List.drop_zero, capsOf, Option.join_some, RST0, List.length_append, List.length_set, o_isLs (f1 _ _), o_append (f1 _ _)]
    have cl5 := clS w14 [["house", pno.shown], ["house", pno.shown], ["contract", pwr.shown], ["contract", pwr.shown], ["contract", pwr.shown]]
    have cl6 := clS w14 [["house", pno.shown], ["house", pno.shown], ["contract", pwr.shown], ["contract", pwr.shown], ["contract", pwr.shown], ["told"]]
    simp only [List.map_cons, List.map_nil] at cl5 cl6
    refine wp_eCallL0 (v := .fl [.str "told"]) (fun f => ref_told F (d := .tup ((contractL a b l e (sumF y c wy) ns c).map Lot.d)) ?_) ?_
    · apply Res.wp_eq
      simp only [wp_eCh2, o_mulF, ROPS0, ROPS1, at0I, at1I, at2I, at3I, at4I, decide_eq_true_eq, Int.reduceLT, Int.reduceLE, Int.reducePow, Int.reduceToNat, Int.reduceAdd, Int.reduceMul, Int.reduceSub, Int.reduceNeg, Nat.reduceLT, Nat.reduceLeDiff, RWP0, RWP1, RWP2, RWP3, beg, begF, perm, List.map_cons, List.map_nil, List.length_cons, List.length_nil, List.replicate_succ, List.replicate_zero, Nat.reduceAdd, Nat.reduceSub, Nat.reduceLT, Nat.reduceEqDiff, List.cons_append, List.nil_append, List.append_nil, List.getElem?_cons_succ, List.getElem?_cons_zero, List.getElem?_nil, List.set_cons_succ, List.set_cons_zero, List.filterMap_cons, List.filterMap_nil, if_true, if_false, true_and, and_true, Bool.not_true, Bool.not_false, Bool.true_eq_false, Bool.false_eq_true, decide_true, decide_false, and_self, wipeD, Nm.put, Nm.putL, Option.map_some, Option.some.injEq, exists_eq_left', ite_true, ite_false, reduceIte, Nat.reduceLeDiff, List.drop_zero, capsOf, Option.join_some, RST0, List.length_append, List.length_set, hcon, contractLots_ok F cl5 hp.nm n4 ha hb hc hy hl sk hwy, leave_same]
    simp only [wp_eCh2, o_mulF, ROPS0, ROPS1, at0I, at1I, at2I, at3I, at4I, decide_eq_true_eq, Int.reduceLT, Int.reduceLE, Int.reducePow, Int.reduceToNat, Int.reduceAdd, Int.reduceMul, Int.reduceSub, Int.reduceNeg, Nat.reduceLT, Nat.reduceLeDiff, RWP0, RWP1, RWP2, RWP3, beg, begF, perm, List.map_cons, List.map_nil, List.length_cons, List.length_nil, List.replicate_succ, List.replicate_zero, Nat.reduceAdd, Nat.reduceSub, Nat.reduceLT, Nat.reduceEqDiff, List.cons_append, List.nil_append, List.append_nil, List.getElem?_cons_succ, List.getElem?_cons_zero, List.getElem?_nil, List.set_cons_succ, List.set_cons_zero, List.filterMap_cons, List.filterMap_nil, if_true, if_false, true_and, and_true, Bool.not_true, Bool.not_false, Bool.true_eq_false, Bool.false_eq_true, decide_true, decide_false, and_self, wipeD, Nm.put, Nm.putL, Option.map_some, Option.some.injEq, exists_eq_left', ite_true, ite_false, reduceIte, Nat.reduceLeDiff, List.drop_zero, capsOf, Option.join_some, RST0, List.length_append, List.length_set, o_isLs (f1 _ _), o_append (f1 _ _)]
    refine wp_eCallL0 (v := .fl [.str "told"]) (st' := wst s n w14 [.lst [.fl [.str "house", .str pno.shown], .fl [.str "house", .str pno.shown], .fl [.str "contract", .str pwr.shown], .fl [.str "contract", .str pwr.shown], .fl [.str "contract", .str pwr.shown], .fl [.str "told"]]]) (fun f => ?_) ?_
    · rcases withContract_ok F hp ⟨he0, by omega⟩ (by decide) (by decide) (by decide) cl6 ha hb hc hy hl hwy with ⟨j, h⟩ | ⟨ls', _, h⟩
      · refine ref_many F (d := .int j) ?_
        apply Res.wp_er
        simp only [wp_eCh2, o_mulF, ROPS0, ROPS1, at0I, at1I, at2I, at3I, at4I, decide_eq_true_eq, Int.reduceLT, Int.reduceLE, Int.reducePow, Int.reduceToNat, Int.reduceAdd, Int.reduceMul, Int.reduceSub, Int.reduceNeg, Nat.reduceLT, Nat.reduceLeDiff, RWP0, RWP1, RWP2, RWP3, beg, begF, perm, List.map_cons, List.map_nil, List.length_cons, List.length_nil, List.replicate_succ, List.replicate_zero, Nat.reduceAdd, Nat.reduceSub, Nat.reduceLT, Nat.reduceEqDiff, List.cons_append, List.nil_append, List.append_nil, List.getElem?_cons_succ, List.getElem?_cons_zero, List.getElem?_nil, List.set_cons_succ, List.set_cons_zero, List.filterMap_cons, List.filterMap_nil, if_true, if_false, true_and, and_true, Bool.not_true, Bool.not_false, Bool.true_eq_false, Bool.false_eq_true, decide_true, decide_false, and_self, wipeD, Nm.put, Nm.putL, Option.map_some, Option.some.injEq, exists_eq_left', ite_true, ite_false, reduceIte, Nat.reduceLeDiff, List.drop_zero, capsOf, Option.join_some, RST0, List.length_append, List.length_set, hcon, h]
      · refine ref_told F (d := hD K e ns ls') ?_
        apply Res.wp_eq
        simp only [wp_eCh2, o_mulF, ROPS0, ROPS1, at0I, at1I, at2I, at3I, at4I, decide_eq_true_eq, Int.reduceLT, Int.reduceLE, Int.reducePow, Int.reduceToNat, Int.reduceAdd, Int.reduceMul, Int.reduceSub, Int.reduceNeg, Nat.reduceLT, Nat.reduceLeDiff, RWP0, RWP1, RWP2, RWP3, beg, begF, perm, List.map_cons, List.map_nil, List.length_cons, List.length_nil, List.replicate_succ, List.replicate_zero, Nat.reduceAdd, Nat.reduceSub, Nat.reduceLT, Nat.reduceEqDiff, List.cons_append, List.nil_append, List.append_nil, List.getElem?_cons_succ, List.getElem?_cons_zero, List.getElem?_nil, List.set_cons_succ, List.set_cons_zero, List.filterMap_cons, List.filterMap_nil, if_true, if_false, true_and, and_true, Bool.not_true, Bool.not_false, Bool.true_eq_false, Bool.false_eq_true, decide_true, decide_false, and_self, wipeD, Nm.put, Nm.putL, Option.map_some, Option.some.injEq, exists_eq_left', ite_true, ite_false, reduceIte, Nat.reduceLeDiff, List.drop_zero, capsOf, Option.join_some, RST0, List.length_append, List.length_set, hcon, h, leave_same]
    have sl : ∀ x : String, 10 * (Str.ofString x).length + 2 ≤ 101 → Dat 0 101 (.str x) := fun x hx => Dat.str (strOk_lit x) hx
    have v1 : Dat 1 101000 (.fl [.str "house", .str pno.shown]) := (Dat.fl (DatL.cons (sl _ (by decide +kernel)) (DatL.cons (hno.txt (j := 0)) (DatL.nil (n := 0))))).mono (by decide) (by decide)
    have v2 : Dat 1 71000 (.fl [.str "contract", .str pwr.shown]) := (Dat.fl (DatL.cons (sl _ (by decide +kernel)) (DatL.cons (hwr.txt (j := 0)) (DatL.nil (n := 0))))).mono (by decide) (by decide)
    have v3 : Dat 1 300 (.fl [.str "told"]) := (Dat.fl (DatL.cons (sl _ (by decide +kernel)) (DatL.nil (n := 0)))).mono (by decide) (by decide)
    have l7 : DatL 1 500000 [.fl [.str "house", .str pno.shown], .fl [.str "house", .str pno.shown], .fl [.str "contract", .str pwr.shown], .fl [.str "contract", .str pwr.shown], .fl [.str "contract", .str pwr.shown], .fl [.str "told"], .fl [.str "told"]] := (DatL.cons v1 (DatL.cons v1 (DatL.cons v2 (DatL.cons v2 (DatL.cons v2 (DatL.cons v3 (DatL.cons v3 (DatL.nil (n := 0))))))))).mono (by decide) (by decide)
    have is7 := is_ok (K := K) (a := .loc (s.length + 0)) (st := wst s n w14 [.lst [.fl [.str "house", .str pno.shown], .fl [.str "house", .str pno.shown], .fl [.str "contract", .str pwr.shown], .fl [.str "contract", .str pwr.shown], .fl [.str "contract", .str pwr.shown], .fl [.str "told"], .fl [.str "told"]]]) (by simp only [lsOf, f1]) (b := .fl _) rfl l7 (by decide) (by decide)
    simp only [wp_eCh2, o_mulF, ROPS0, ROPS1, at0I, at1I, at2I, at3I, at4I, decide_eq_true_eq, Int.reduceLT, Int.reduceLE, Int.reducePow, Int.reduceToNat, Int.reduceAdd, Int.reduceMul, Int.reduceSub, Int.reduceNeg, Nat.reduceLT, Nat.reduceLeDiff, RWP0, RWP1, RWP2, RWP3, beg, begF, perm, List.map_cons, List.map_nil, List.length_cons, List.length_nil, List.replicate_succ, List.replicate_zero, Nat.reduceAdd, Nat.reduceSub, Nat.reduceLT, Nat.reduceEqDiff, List.cons_append, List.nil_append, List.append_nil, List.getElem?_cons_succ, List.getElem?_cons_zero, List.getElem?_nil, List.set_cons_succ, List.set_cons_zero, List.filterMap_cons, List.filterMap_nil, if_true, if_false, true_and, and_true, Bool.not_true, Bool.not_false, Bool.true_eq_false, Bool.false_eq_true, decide_true, decide_false, and_self, wipeD, Nm.put, Nm.putL, Option.map_some, Option.some.injEq, exists_eq_left', ite_true, ite_false, reduceIte, Nat.reduceLeDiff, List.drop_zero, capsOf, Option.join_some, RST0, List.length_append, List.length_set, o_isLs (f1 _ _), o_append (f1 _ _), rno, rwr, List.flatten_cons, List.flatten_nil, o_addF, is7]
    refine tid_wst (t := []) hs .nil rfl (by simp) ?_
    simp only [List.map_cons, List.map_nil, tN]
    exact ⟨_, _, _, _, _, _, _, _, _, _, _, _, rfl, rfl⟩
  · rintro δ st ⟨w, o1, o2, o3, o4, o5, o6, o7, o8, o9, o10, o11, rfl, rfl⟩
    simp only [RWP0, RWP1, RWP2, RWP3, beg, begF, perm, List.map_cons, List.map_nil, List.length_cons, List.length_nil, List.replicate_succ, List.replicate_zero, Nat.reduceAdd, Nat.reduceSub, Nat.reduceLT, Nat.reduceEqDiff, List.cons_append, List.nil_append, List.append_nil, List.getElem?_cons_succ, List.getElem?_cons_zero, List.getElem?_nil, List.set_cons_succ, List.set_cons_zero, List.filterMap_cons, List.filterMap_nil, if_true, if_false, true_and, and_true, Bool.not_true, Bool.not_false, Bool.true_eq_false, Bool.false_eq_true, decide_true, decide_false, and_self, wipeD, Nm.put, Nm.putL, Option.map_some, Option.some.injEq, exists_eq_left', ite_true, ite_false, reduceIte, Nat.reduceLeDiff, List.drop_zero, capsOf, Option.join_some, RST0, List.length_append, List.length_set]
    exact leave_wst hs (x := .bl true) rfl (k _ _ rfl)
theorem law_true : ∀ ns : List Int, ns.length ≤ 63 → (∀ z ∈ ns, Builtin.Int.intBits z ≤ 1048576) → mf_law K [.rl (ns.map D.int)] [] = .ok (.bl true) [] :=
  fun ns _ _ => law_all (fun ns j st hj hs => well_ok ns j st hj hs) (fun n => right_dr F n) ns
end
end K14

namespace K14
open PySem PySem.Spec PyProof.Rows L2 L3
def faL : List (PySem.W.Frag → Bool) := [freeB "abs", freeB "all", freeB "bool", freeB "divmod", freeB "enumerate", freeB "int", freeB "isinstance", freeB "len", freeB "list", freeB "max", freeB "min", freeB "range", freeB "repr", freeB "sorted", freeB "str", freeB "sum", freeB "tuple", freeB "zip", strB "DOWN" "down", strB "FIRST" "first", strB "LETTERS" "abcdefghijklmnopqrstuvwxyz", intB "MOST_DAY" 60, intB "MOST_KINDS" 4, intB "MOST_LETTERS" 8, intB "MOST_LOTS" 12, intB "MOST_PARTS" 24, intB "MOST_UNITS" 1000000, strB "NEAR" "near", strB "UP" "up", tupAB "WAYS" dv_WAYS, tupAB "WORDS" dv_WORDS, gloB "is_whole", gloB "is_number", gloB "is_word", gloB "is_name", gloB "is_tuple_of", gloB "is_one_of", gloB "wrong_at", gloB "wrong_from_one", gloB "wrong_kinds", gloB "are_some_kinds", gloB "is_lot", gloB "wrong_lots", gloB "units_of", gloB "check_house", gloB "sum_behind", gloB "sums_of", gloB "parts_of", gloB "is_contract", gloB "check_contract", gloB "lots_by", gloB "contract_lots", gloB "with_contract", gloB "_law_well", gloB "_law_draw", gloB "_law_of", gloB "_law_unlike", gloB "_law_is", gloB "_law_words", gloB "_law_names", gloB "_law_lots", gloB "_law_parts", gloB "_law_refused", gloB "_law_odds", gloB "_law_right", gloB "law", excB "InvalidContract" "given", excB "InvalidKinds" "index", excB "InvalidLots" "index", excB "InvalidNumber" "given", excB "NotAHouse" "given", excB "TooMany" "given", exmB "InvalidContract" "InvalidContract" true, exmB "InvalidContract" "NotAHouse" false, exmB "InvalidContract" "TooMany" false, exmB "NotAHouse" "InvalidContract" false, exmB "NotAHouse" "NotAHouse" true, exmB "NotAHouse" "TooMany" false, exmB "TooMany" "InvalidContract" false, exmB "TooMany" "NotAHouse" false, exmB "TooMany" "TooMany" true, clsB "House", gloB "House", mkrB "House", noatB "House" "last", noatB "House" "names", noatB "House" "rows", noatB "House" "units", propB "House" "parts", eqB "House", nfB "House" (.type "NoneType"), nfB "House" (.type "bool"), nfB "House" (.type "int"), nfB "House" (.type "str"), nfB "House" (.type "tuple"), nfB "House" (.type "list"), tycB "House", kitRB "NoneType" "House" false, kitRB "bool" "House" false, kitRB "int" "House" false, kitRB "str" "House" false, kitRB "tuple" "House" false, kitRB "list" "House" false, kitRR "House" "House" true, kitB "NoneType" "bool" false, kitB "bool" "bool" true, kitB "int" "bool" false, kitB "str" "bool" false, kitB "tuple" "bool" false, kitB "list" "bool" false, kitR2 "House" "bool" false, kitB "NoneType" "int" false, kitB "bool" "int" true, kitB "int" "int" true, kitB "str" "int" false, kitB "tuple" "int" false, kitB "list" "int" false, kitR2 "House" "int" false, kitB "NoneType" "str" false, kitB "bool" "str" false, kitB "int" "str" false, kitB "str" "str" true, kitB "tuple" "str" false, kitB "list" "str" false, kitR2 "House" "str" false, kitB "NoneType" "tuple" false, kitB "bool" "tuple" false, kitB "int" "tuple" false, kitB "str" "tuple" false, kitB "tuple" "tuple" true, kitB "list" "tuple" false, kitR2 "House" "tuple" false, fun K => decide ([tabP K (He.ga K "wrong_kinds"), tabP K (He.ga K "are_some_kinds"), tabP K (He.ga K "wrong_lots"), tabP K (He.ga K "_law_right")].Nodup)]
def fnL : List DefA := [⟨fun K => (He.ga K "is_whole"), "is_whole", "is_whole", defArgs s_is_whole, defBody s_is_whole, defScope s_is_whole⟩, ⟨fun K => (He.ga K "is_number"), "is_number", "is_number", defArgs s_is_number, defBody s_is_number, defScope s_is_number⟩, ⟨fun K => (He.ga K "is_word"), "is_word", "is_word", defArgs s_is_word, defBody s_is_word, defScope s_is_word⟩, ⟨fun K => (He.ga K "is_name"), "is_name", "is_name", defArgs s_is_name, defBody s_is_name, defScope s_is_name⟩, ⟨fun K => (He.ga K "is_tuple_of"), "is_tuple_of", "is_tuple_of", defArgs s_is_tuple_of, defBody s_is_tuple_of, defScope s_is_tuple_of⟩, ⟨fun K => (He.ga K "is_one_of"), "is_one_of", "is_one_of", defArgs s_is_one_of, defBody s_is_one_of, defScope s_is_one_of⟩, ⟨fun K => (He.ga K "wrong_at"), "wrong_at", "wrong_at", defArgs s_wrong_at, defBody s_wrong_at, defScope s_wrong_at⟩, ⟨fun K => (He.ga K "wrong_from_one"), "wrong_from_one", "wrong_from_one", defArgs s_wrong_from_one, defBody s_wrong_from_one, defScope s_wrong_from_one⟩, ⟨fun K => (He.ga K "wrong_kinds"), "wrong_kinds", "wrong_kinds", defArgs s_wrong_kinds, defBody s_wrong_kinds, defScope s_wrong_kinds⟩, ⟨fun K => (He.ga K "are_some_kinds"), "are_some_kinds", "are_some_kinds", defArgs s_are_some_kinds, defBody s_are_some_kinds, defScope s_are_some_kinds⟩, ⟨fun K => (He.ga K "is_lot"), "is_lot", "is_lot", defArgs s_is_lot, defBody s_is_lot, defScope s_is_lot⟩, ⟨fun K => (He.ga K "wrong_lots"), "wrong_lots", "wrong_lots", defArgs s_wrong_lots, defBody s_wrong_lots, defScope s_wrong_lots⟩, ⟨fun K => (He.ga K "units_of"), "units_of", "units_of", defArgs s_units_of, defBody s_units_of, defScope s_units_of⟩, ⟨fun K => (He.ga K "check_house"), "check_house", "check_house", defArgs s_check_house, defBody s_check_house, defScope s_check_house⟩, ⟨fun K => (He.ga K "sum_behind"), "sum_behind", "sum_behind", defArgs s_sum_behind, defBody s_sum_behind, defScope s_sum_behind⟩, ⟨fun K => (He.ga K "sums_of"), "sums_of", "sums_of", defArgs s_sums_of, defBody s_sums_of, defScope s_sums_of⟩, ⟨fun K => (He.ga K "parts_of"), "parts_of", "parts_of", defArgs s_parts_of, defBody s_parts_of, defScope s_parts_of⟩, ⟨fun K => (He.ga K "is_contract"), "is_contract", "is_contract", defArgs s_is_contract, defBody s_is_contract, defScope s_is_contract⟩, ⟨fun K => (He.ga K "check_contract"), "check_contract", "check_contract", defArgs s_check_contract, defBody s_check_contract, defScope s_check_contract⟩, ⟨fun K => (He.ga K "lots_by"), "lots_by", "lots_by", defArgs s_lots_by, defBody s_lots_by, defScope s_lots_by⟩, ⟨fun K => (He.ga K "contract_lots"), "contract_lots", "contract_lots", defArgs s_contract_lots, defBody s_contract_lots, defScope s_contract_lots⟩, ⟨fun K => (He.fAd K ("House", some "__init__")), "__init__", "House.__init__", defArgs s_House___init__, defBody s_House___init__, defScope s_House___init__⟩, ⟨fun K => (He.ga K "with_contract"), "with_contract", "with_contract", defArgs s_with_contract, defBody s_with_contract, defScope s_with_contract⟩, ⟨fun K => (He.ga K "_law_well"), "_law_well", "_law_well", defArgs s__law_well, defBody s__law_well, defScope s__law_well⟩, ⟨fun K => (He.ga K "_law_draw"), "_law_draw", "_law_draw", defArgs s__law_draw, defBody s__law_draw, defScope s__law_draw⟩, ⟨fun K => (He.ga K "_law_of"), "_law_of", "_law_of", defArgs s__law_of, defBody s__law_of, defScope s__law_of⟩, ⟨fun K => (He.ga K "_law_unlike"), "_law_unlike", "_law_unlike", defArgs s__law_unlike, defBody s__law_unlike, defScope s__law_unlike⟩, ⟨fun K => (He.ga K "_law_is"), "_law_is", "_law_is", defArgs s__law_is, defBody s__law_is, defScope s__law_is⟩, ⟨fun K => (He.ga K "_law_words"), "_law_words", "_law_words", defArgs s__law_words, defBody s__law_words, defScope s__law_words⟩, ⟨fun K => (He.ga K "_law_names"), "_law_names", "_law_names", defArgs s__law_names, defBody s__law_names, defScope s__law_names⟩, ⟨fun K => (He.ga K "_law_lots"), "_law_lots", "_law_lots", defArgs s__law_lots, defBody s__law_lots, defScope s__law_lots⟩, ⟨fun K => (He.ga K "_law_parts"), "_law_parts", "_law_parts", defArgs s__law_parts, defBody s__law_parts, defScope s__law_parts⟩, ⟨fun K => (He.ga K "_law_refused"), "_law_refused", "_law_refused", defArgs s__law_refused, defBody s__law_refused, defScope s__law_refused⟩, ⟨fun K => (He.ga K "_law_odds"), "_law_odds", "_law_odds", defArgs s__law_odds, defBody s__law_odds, defScope s__law_odds⟩, ⟨fun K => (He.ga K "_law_right"), "_law_right", "_law_right", defArgs s__law_right, defBody s__law_right, defScope s__law_right⟩, ⟨fun K => (He.ga K "law"), "law", "law", defArgs s_law, defBody s_law, defScope s_law⟩, ⟨fun K => (gtA K "House" "end"), "end", "House.end", defArgs s_House_end, defBody s_House_end, defScope s_House_end⟩, ⟨fun K => (gtA K "House" "kinds"), "kinds", "House.kinds", defArgs s_House_kinds, defBody s_House_kinds, defScope s_House_kinds⟩, ⟨fun K => (gtA K "House" "lots"), "lots", "House.lots", defArgs s_House_lots, defBody s_House_lots, defScope s_House_lots⟩, ⟨fun K => (gtA K "House" "parts"), "parts", "House.parts", defArgs s_House_parts, defBody s_House_parts, defScope s_House_parts⟩, ⟨fun K => (gtA K "House" "whole"), "whole", "House.whole", defArgs s_House_whole, defBody s_House_whole, defScope s_House_whole⟩, ⟨fun K => (He.fAd K ("House", some "__eq__")), "__eq__", "House.__eq__", defArgs s_House___eq__, defBody s_House___eq__, defScope s_House___eq__⟩, ⟨fun K => He.fAd K ("InvalidContract", some "__init__"), "__init__", "InvalidContract.__init__", defArgs s_InvalidContract, defBody s_InvalidContract, defScope s_InvalidContract⟩, ⟨fun K => He.fAd K ("InvalidKinds", some "__init__"), "__init__", "InvalidKinds.__init__", defArgs s_InvalidKinds, defBody s_InvalidKinds, defScope s_InvalidKinds⟩, ⟨fun K => He.fAd K ("InvalidLots", some "__init__"), "__init__", "InvalidLots.__init__", defArgs s_InvalidLots, defBody s_InvalidLots, defScope s_InvalidLots⟩, ⟨fun K => He.fAd K ("InvalidNumber", some "__init__"), "__init__", "InvalidNumber.__init__", defArgs s_InvalidNumber, defBody s_InvalidNumber, defScope s_InvalidNumber⟩, ⟨fun K => He.fAd K ("NotAHouse", some "__init__"), "__init__", "NotAHouse.__init__", defArgs s_NotAHouse, defBody s_NotAHouse, defScope s_NotAHouse⟩, ⟨fun K => He.fAd K ("TooMany", some "__init__"), "__init__", "TooMany.__init__", defArgs s_TooMany, defBody s_TooMany, defScope s_TooMany⟩]
def csL : List Nm2 := [("wrong_kinds", none), ("are_some_kinds", none), ("wrong_lots", none), ("_law_right", none)]
abbrev Rw : PySem.W.OpenRow := PySem.W.OpenLaw.row PySem.Challenge.rw_leavelots_k14_contracts_refused
abbrev hk : PySem.W.Hook := hookT 5 faL fnL csL
def ob (s : PySem.W.SharedT) : AlT := obsT 5 faL fnL csL (HandSHeadRun.getT s)
theorem ob_eq (s : PySem.W.SharedT) : ob s = hk.obs s.abs := obsT_eq (HandSHeadRun.getT_eq s)
def loose0 : List Str := ["__name__", "LeaveError", "InvalidNumber", "InvalidContract", "NotAHouse", "TooMany", "InvalidKinds", "InvalidLots", "LETTERS", "MOST_LETTERS", "WORDS", "is_whole", "is_number", "is_word", "is_name", "is_tuple_of", "is_one_of", "wrong_at", "wrong_from_one", "MOST_DAY"]
def loose1 : List Str := ["MOST_KINDS", "MOST_LOTS", "MOST_UNITS", "wrong_kinds", "are_some_kinds", "is_lot", "wrong_lots", "units_of", "House", "check_house", "DOWN", "NEAR", "UP", "FIRST", "LAST", "WAYS", "MOST_PARTS", "sum_behind", "sums_of", "parts_of"]
def loose2 : List Str := ["is_contract", "check_contract", "lots_by", "contract_lots", "with_contract", "_law_well", "_law_draw", "_law_of", "_law_unlike", "_law_is", "_law_words", "_law_names", "_law_lots", "_law_parts", "_law_refused", "_law_odds", "_law_right"]
def looseL : List Str := loose0 ++ loose1 ++ loose2
theorem run (w : World) : HandSHeadRun.RunEq Rw (PySem.W.view Rw.prog [63]) hk ob 4000 looseL w := by
  intro os
  kernel_rfl
theorem gd {P : Program} {w : World} {K : PySem.W.Frag} {h : Heap} {mg : Str → Option Value} {base : Heap} (S : Says faL fnL csL h K) (hG : h.Ns mainGlobals mg) (hT : ∀ y ∈ csL, LamX.TabB base mg (codeA K (He.fAd K y)) (tabP K (He.fAd K y))) : Gd P w K mg base where
  n_abs := He.free_ok S.kin hG (S.at 0)
  n_all := He.free_ok S.kin hG (S.at 1)
  n_bool := He.free_ok S.kin hG (S.at 2)
  n_divmod := He.free_ok S.kin hG (S.at 3)
  n_enumerate := He.free_ok S.kin hG (S.at 4)
  n_int := He.free_ok S.kin hG (S.at 5)
  n_isinstance := He.free_ok S.kin hG (S.at 6)
  n_len := He.free_ok S.kin hG (S.at 7)
  n_list := He.free_ok S.kin hG (S.at 8)
  n_max := He.free_ok S.kin hG (S.at 9)
  n_min := He.free_ok S.kin hG (S.at 10)
  n_range := He.free_ok S.kin hG (S.at 11)
  n_repr := He.free_ok S.kin hG (S.at 12)
  n_sorted := He.free_ok S.kin hG (S.at 13)
  n_str := He.free_ok S.kin hG (S.at 14)
  n_sum := He.free_ok S.kin hG (S.at 15)
  n_tuple := He.free_ok S.kin hG (S.at 16)
  n_zip := He.free_ok S.kin hG (S.at 17)
  v_DOWN := He.str_ok S.kin hG (S.at 18)
  v_FIRST := He.str_ok S.kin hG (S.at 19)
  v_LETTERS := He.str_ok S.kin hG (S.at 20)
  v_MOST_DAY := He.int_ok S.kin hG (S.at 21)
  v_MOST_KINDS := He.int_ok S.kin hG (S.at 22)
  v_MOST_LETTERS := He.int_ok S.kin hG (S.at 23)
  v_MOST_LOTS := He.int_ok S.kin hG (S.at 24)
  v_MOST_PARTS := He.int_ok S.kin hG (S.at 25)
  v_MOST_UNITS := He.int_ok S.kin hG (S.at 26)
  v_NEAR := He.str_ok S.kin hG (S.at 27)
  v_UP := He.str_ok S.kin hG (S.at 28)
  v_WAYS := tupA_of S.kin hG (S.at 29)
  v_WORDS := tupA_of S.kin hG (S.at 30)
  f_is_whole := funA_of S hG (S.at 31) 0 rfl
  f_is_number := funA_of S hG (S.at 32) 1 rfl
  f_is_word := funA_of S hG (S.at 33) 2 rfl
  f_is_name := funA_of S hG (S.at 34) 3 rfl
  f_is_tuple_of := funA_of S hG (S.at 35) 4 rfl
  f_is_one_of := funA_of S hG (S.at 36) 5 rfl
  f_wrong_at := funA_of S hG (S.at 37) 6 rfl
  f_wrong_from_one := funA_of S hG (S.at 38) 7 rfl
  f_wrong_kinds := funA_of S hG (S.at 39) 8 rfl
  f_are_some_kinds := funA_of S hG (S.at 40) 9 rfl
  f_is_lot := funA_of S hG (S.at 41) 10 rfl
  f_wrong_lots := funA_of S hG (S.at 42) 11 rfl
  f_units_of := funA_of S hG (S.at 43) 12 rfl
  f_check_house := funA_of S hG (S.at 44) 13 rfl
  f_sum_behind := funA_of S hG (S.at 45) 14 rfl
  f_sums_of := funA_of S hG (S.at 46) 15 rfl
  f_parts_of := funA_of S hG (S.at 47) 16 rfl
  f_is_contract := funA_of S hG (S.at 48) 17 rfl
  f_check_contract := funA_of S hG (S.at 49) 18 rfl
  f_lots_by := funA_of S hG (S.at 50) 19 rfl
  f_contract_lots := funA_of S hG (S.at 51) 20 rfl
  f_House___init__ := let ⟨fd, F⟩ := S.def_ 21 (stm := s_House___init__) rfl; fun_fd F
  f_with_contract := funA_of S hG (S.at 52) 22 rfl
  f__law_well := funA_of S hG (S.at 53) 23 rfl
  f__law_draw := funA_of S hG (S.at 54) 24 rfl
  f__law_of := funA_of S hG (S.at 55) 25 rfl
  f__law_unlike := funA_of S hG (S.at 56) 26 rfl
  f__law_is := funA_of S hG (S.at 57) 27 rfl
  f__law_words := funA_of S hG (S.at 58) 28 rfl
  f__law_names := funA_of S hG (S.at 59) 29 rfl
  f__law_lots := funA_of S hG (S.at 60) 30 rfl
  f__law_parts := funA_of S hG (S.at 61) 31 rfl
  f__law_refused := funA_of S hG (S.at 62) 32 rfl
  f__law_odds := funA_of S hG (S.at 63) 33 rfl
  f__law_right := funA_of S hG (S.at 64) 34 rfl
  f_law := funA_of S hG (S.at 65) 35 rfl
  f_House_end := let ⟨fd, F⟩ := S.def_ 36 (stm := s_House_end) rfl; fun_fd F
  f_House_kinds := let ⟨fd, F⟩ := S.def_ 37 (stm := s_House_kinds) rfl; fun_fd F
  f_House_lots := let ⟨fd, F⟩ := S.def_ 38 (stm := s_House_lots) rfl; fun_fd F
  f_House_parts := let ⟨fd, F⟩ := S.def_ 39 (stm := s_House_parts) rfl; fun_fd F
  f_House_whole := let ⟨fd, F⟩ := S.def_ 40 (stm := s_House_whole) rfl; fun_fd F
  f_House___eq__ := let ⟨fd, F⟩ := S.def_ 41 (stm := s_House___eq__) rfl; fun_fd F
  c_InvalidContract := let ⟨fd, F⟩ := S.def_ 42 (stm := s_InvalidContract) rfl; ExA.of S.kin hG (S.at 66) F (fld2 := "given") ⟨rfl, rfl, rfl, by decide +kernel, rfl, by decide +kernel, by decide +kernel⟩ rfl (by decide) (by decide) fun _ _ _ _ _ _ us hl => match us, hl with | [_, _], _ => rfl
  c_InvalidKinds := let ⟨fd, F⟩ := S.def_ 43 (stm := s_InvalidKinds) rfl; ExA.of S.kin hG (S.at 67) F (fld2 := "index") ⟨rfl, rfl, rfl, by decide +kernel, rfl, by decide +kernel, by decide +kernel⟩ rfl (by decide) (by decide) fun _ _ _ _ _ _ us hl => match us, hl with | [_, _], _ => rfl
  c_InvalidLots := let ⟨fd, F⟩ := S.def_ 44 (stm := s_InvalidLots) rfl; ExA.of S.kin hG (S.at 68) F (fld2 := "index") ⟨rfl, rfl, rfl, by decide +kernel, rfl, by decide +kernel, by decide +kernel⟩ rfl (by decide) (by decide) fun _ _ _ _ _ _ us hl => match us, hl with | [_, _], _ => rfl
  c_InvalidNumber := let ⟨fd, F⟩ := S.def_ 45 (stm := s_InvalidNumber) rfl; ExA.of S.kin hG (S.at 69) F (fld2 := "given") ⟨rfl, rfl, rfl, by decide +kernel, rfl, by decide +kernel, by decide +kernel⟩ rfl (by decide) (by decide) fun _ _ _ _ _ _ us hl => match us, hl with | [_, _], _ => rfl
  c_NotAHouse := let ⟨fd, F⟩ := S.def_ 46 (stm := s_NotAHouse) rfl; ExA.of S.kin hG (S.at 70) F (fld2 := "given") ⟨rfl, rfl, rfl, by decide +kernel, rfl, by decide +kernel, by decide +kernel⟩ rfl (by decide) (by decide) fun _ _ _ _ _ _ us hl => match us, hl with | [_, _], _ => rfl
  c_TooMany := let ⟨fd, F⟩ := S.def_ 47 (stm := s_TooMany) rfl; ExA.of S.kin hG (S.at 71) F (fld2 := "given") ⟨rfl, rfl, rfl, by decide +kernel, rfl, by decide +kernel, by decide +kernel⟩ rfl (by decide) (by decide) fun _ _ _ _ _ _ us hl => match us, hl with | [_, _], _ => rfl
  x_InvalidContract_InvalidContract := of_decide_eq_true (S.at 72)
  x_InvalidContract_NotAHouse := of_decide_eq_true (S.at 73)
  x_InvalidContract_TooMany := of_decide_eq_true (S.at 74)
  x_NotAHouse_InvalidContract := of_decide_eq_true (S.at 75)
  x_NotAHouse_NotAHouse := of_decide_eq_true (S.at 76)
  x_NotAHouse_TooMany := of_decide_eq_true (S.at 77)
  x_TooMany_InvalidContract := of_decide_eq_true (S.at 78)
  x_TooMany_NotAHouse := of_decide_eq_true (S.at 79)
  x_TooMany_TooMany := of_decide_eq_true (S.at 80)
  k_House := cls_of (S.at 81)
  kg_House := He.glo_ok S.kin hG (S.at 82)
  m_House := mk_of (S.at 83)
  a_House_last := noat_of (S.at 84)
  a_House_names := noat_of (S.at 85)
  a_House_rows := noat_of (S.at 86)
  a_House_units := noat_of (S.at 87)
  p_House_parts := prop_of (S.at 88)
  e_House := eq_of (S.at 89)
  nf_House_NoneType := (S.at 90)
  nf_House_bool := (S.at 91)
  nf_House_int := (S.at 92)
  nf_House_str := (S.at 93)
  nf_House_tuple := (S.at 94)
  nf_House_list := (S.at 95)
  tyc_House := tyc_of (S.at 96)
  isi := by
    intro C hC
    simp only [isC, List.mem_cons, List.not_mem_nil, or_false] at hC
    rcases hC with rfl
    · exact tyc_of (S.at 96)
  i_NoneType_House := of_decide_eq_true (S.at 97)
  i_bool_House := of_decide_eq_true (S.at 98)
  i_int_House := of_decide_eq_true (S.at 99)
  i_str_House := of_decide_eq_true (S.at 100)
  i_tuple_House := of_decide_eq_true (S.at 101)
  i_list_House := of_decide_eq_true (S.at 102)
  i_House_House := of_decide_eq_true (S.at 103)
  i_NoneType_bool := of_decide_eq_true (S.at 104)
  i_bool_bool := of_decide_eq_true (S.at 105)
  i_int_bool := of_decide_eq_true (S.at 106)
  i_str_bool := of_decide_eq_true (S.at 107)
  i_tuple_bool := of_decide_eq_true (S.at 108)
  i_list_bool := of_decide_eq_true (S.at 109)
  i_House_bool := of_decide_eq_true (S.at 110)
  i_NoneType_int := of_decide_eq_true (S.at 111)
  i_bool_int := of_decide_eq_true (S.at 112)
  i_int_int := of_decide_eq_true (S.at 113)
  i_str_int := of_decide_eq_true (S.at 114)
  i_tuple_int := of_decide_eq_true (S.at 115)
  i_list_int := of_decide_eq_true (S.at 116)
  i_House_int := of_decide_eq_true (S.at 117)
  i_NoneType_str := of_decide_eq_true (S.at 118)
  i_bool_str := of_decide_eq_true (S.at 119)
  i_int_str := of_decide_eq_true (S.at 120)
  i_str_str := of_decide_eq_true (S.at 121)
  i_tuple_str := of_decide_eq_true (S.at 122)
  i_list_str := of_decide_eq_true (S.at 123)
  i_House_str := of_decide_eq_true (S.at 124)
  i_NoneType_tuple := of_decide_eq_true (S.at 125)
  i_bool_tuple := of_decide_eq_true (S.at 126)
  i_int_tuple := of_decide_eq_true (S.at 127)
  i_str_tuple := of_decide_eq_true (S.at 128)
  i_tuple_tuple := of_decide_eq_true (S.at 129)
  i_list_tuple := of_decide_eq_true (S.at 130)
  i_House_tuple := of_decide_eq_true (S.at 131)
  t_wrong_kinds := hT ("wrong_kinds", none) (by simp [csL])
  o_wrong_kinds := (S.tab ("wrong_kinds", none) (by simp [csL])).2.2.2
  t_are_some_kinds := hT ("are_some_kinds", none) (by simp [csL])
  o_are_some_kinds := (S.tab ("are_some_kinds", none) (by simp [csL])).2.2.2
  t_wrong_lots := hT ("wrong_lots", none) (by simp [csL])
  o_wrong_lots := (S.tab ("wrong_lots", none) (by simp [csL])).2.2.2
  t__law_right := hT ("_law_right", none) (by simp [csL])
  o__law_right := (S.tab ("_law_right", none) (by simp [csL])).2.2.2
  tabs_u := by
    have h := of_decide_eq_true (S.at 132)
    exact tabs_nodup (by simpa [tabs] using h)
theorem pf_of {h : Heap} {K : PySem.W.Frag} (S : Says faL fnL csL h K) : Pf K where
  one := trivial
  x_InvalidContract_InvalidContract := of_decide_eq_true (S.at 72)
  x_InvalidContract_NotAHouse := of_decide_eq_true (S.at 73)
  x_InvalidContract_TooMany := of_decide_eq_true (S.at 74)
  x_NotAHouse_InvalidContract := of_decide_eq_true (S.at 75)
  x_NotAHouse_NotAHouse := of_decide_eq_true (S.at 76)
  x_NotAHouse_TooMany := of_decide_eq_true (S.at 77)
  x_TooMany_InvalidContract := of_decide_eq_true (S.at 78)
  x_TooMany_NotAHouse := of_decide_eq_true (S.at 79)
  x_TooMany_TooMany := of_decide_eq_true (S.at 80)
  nf_House_NoneType := (S.at 90)
  nf_House_bool := (S.at 91)
  nf_House_int := (S.at 92)
  nf_House_str := (S.at 93)
  nf_House_tuple := (S.at 94)
  nf_House_list := (S.at 95)
  nf_House_House := by simp [PySem.W.notFirst]
  i_NoneType_House := of_decide_eq_true (S.at 97)
  i_bool_House := of_decide_eq_true (S.at 98)
  i_int_House := of_decide_eq_true (S.at 99)
  i_str_House := of_decide_eq_true (S.at 100)
  i_tuple_House := of_decide_eq_true (S.at 101)
  i_list_House := of_decide_eq_true (S.at 102)
  i_House_House := of_decide_eq_true (S.at 103)
  i_NoneType_bool := of_decide_eq_true (S.at 104)
  i_bool_bool := of_decide_eq_true (S.at 105)
  i_int_bool := of_decide_eq_true (S.at 106)
  i_str_bool := of_decide_eq_true (S.at 107)
  i_tuple_bool := of_decide_eq_true (S.at 108)
  i_list_bool := of_decide_eq_true (S.at 109)
  i_House_bool := of_decide_eq_true (S.at 110)
  i_NoneType_int := of_decide_eq_true (S.at 111)
  i_bool_int := of_decide_eq_true (S.at 112)
  i_int_int := of_decide_eq_true (S.at 113)
  i_str_int := of_decide_eq_true (S.at 114)
  i_tuple_int := of_decide_eq_true (S.at 115)
  i_list_int := of_decide_eq_true (S.at 116)
  i_House_int := of_decide_eq_true (S.at 117)
  i_NoneType_str := of_decide_eq_true (S.at 118)
  i_bool_str := of_decide_eq_true (S.at 119)
  i_int_str := of_decide_eq_true (S.at 120)
  i_str_str := of_decide_eq_true (S.at 121)
  i_tuple_str := of_decide_eq_true (S.at 122)
  i_list_str := of_decide_eq_true (S.at 123)
  i_House_str := of_decide_eq_true (S.at 124)
  i_NoneType_tuple := of_decide_eq_true (S.at 125)
  i_bool_tuple := of_decide_eq_true (S.at 126)
  i_int_tuple := of_decide_eq_true (S.at 127)
  i_str_tuple := of_decide_eq_true (S.at 128)
  i_tuple_tuple := of_decide_eq_true (S.at 129)
  i_list_tuple := of_decide_eq_true (S.at 130)
  i_House_tuple := of_decide_eq_true (S.at 131)
theorem tabs_in {K : PySem.W.Frag} : ∀ p ∈ tabs K, ∃ y ∈ csL, p.1 = tabP K (He.fAd K y) := by
  intro p hp
  simp only [tabs, List.mem_cons, List.not_mem_nil, or_false] at hp
  rcases hp with rfl | rfl | rfl | rfl
  · exact ⟨("wrong_kinds", none), by simp [csL], rfl⟩
  · exact ⟨("are_some_kinds", none), by simp [csL], rfl⟩
  · exact ⟨("wrong_lots", none), by simp [csL], rfl⟩
  · exact ⟨("_law_right", none), by simp [csL], rfl⟩
theorem bind_law {h : Heap} {K : PySem.W.Frag} {mg : Str → Option Value} (S : Says faL fnL csL h K) (hG : h.Ns mainGlobals mg) (s : Shared) (u : Value) : BindsTo s (fdOf K (He.ga K "law")) ⟨[u], []⟩ [("script", u)] := by
  have F : FunA K mg "law" s_law := funA_of S hG (S.at 65) 35 rfl
  obtain ⟨oc, od, kV, doc, pm, an, cdv, ct, osl, e, lk, hcd⟩ := F.f.ex
  rw [e]
  exact .of_eq rfl
end K14
open PySem PySem.W PySem.Calls PyProof.Rows in
set_option maxHeartbeats 0 in
theorem PySem.Challenge.cw_leavelots_k14_contracts_refused_holds : PySem.Challenge.rw_leavelots_k14_contracts_refused.Holds := by
  w_on; o_law
  refine HandSHeadRun.head_any (r := K14.Rw) (q := view K14.Rw.prog [63]) (H := K14.hk) (ob := K14.ob) (M := 4000) (loose := K14.looseL) (d := HandSHeadRun.topDef K14.Rw.prog 63) (kwd := []) K14.ob_eq
    (by kernel_rfl) (fun s => by kernel_rfl) K14.run (by kernel_rfl) (by kernel_rfl) (by kernel_rfl) (by rfl) (by first | assumption | decide +kernel) (by decide +kernel) ⟨rfl, rfl, rfl, rfl, rfl, by decide +kernel⟩ ?hw ?hc
  case hw => w_witness2
  case hc =>
    refine L3.walk_ofD (l := PySem.Challenge.rw_leavelots_k14_contracts_refused) (n := 63) (k := 25) (x := "script") rfl (by decide) (by kernel_rfl) ⟨rfl, by decide, by decide⟩ rfl ?F
    intro w mg fad h K S hG hmg0
    have hmg : mg ("law" : PySem.Str) = some (.ref fad) := by
      have e : (HandSHeadRun.topDef K14.Rw.prog 63).name = ("law" : PySem.Str) := by kernel_rfl
      rw [← e]
      exact hmg0
    have e := hmg.symm.trans (He.glo_ok S.kin hG (S.at 65))
    cases e
    refine ⟨_, K14.mf_law K, K14.tabs K, fun s u => ?_, ?_, K14.law_true (K14.pf_of S), fun base k1 k2 hT => K14.w_law (K14.gd S hG hT)⟩
    · exact K14.bind_law S hG s u
    · intro p hp
      exact K14.tabs_in p hp
