import PyProof.Rows.All
import Wide.All
import OpenK.AllK
import Wide.FinOn
import HandS.ForMost
import HandS.Exc
import HandS.ExcOwn
import HandS.ExcInit
import HandS.ExcField
import HandS.TryMany
import HandS.CallSlots
import HandS.Lambda
import HandS.Nested
import HandS.WordsExc
import HandS.TupAny
import HandS.TupMul
import HandS.TupLe
import HandS.Wide
import HandS.WideBits
import HandS.Style
import HandS.Flow
import HandS.Zip
import HandS.Conv
import HandS.Star
import HandS.Walk
import HandS.Rev
import HandS.RevRange
import HandS.IsInst
import KE.DatumOrd
import HandS.Head2
import HandS.HeadEnd
import HandS.HeadHook2
import HandS.EndTab
import KE.GoesNew
import PySem.Challenge.RW_leavelots_k12_whole_ways_of_accruing
set_option Elab.async false
set_option linter.all false
set_option maxRecDepth 100000
set_option maxHeartbeats 4000000
/-! ### text La -/
/-! Values as data: what a Python value is worth, apart from where it stands. -/
namespace L3
open PySem PySem.Spec PyProof.Rows L2

/-- a value as data: fl is a list that nobody changes any more, rl one that is locked, loc n the n-th thing of the store, obj an instance that nobody changes any more -/
inductive D where
  | non | bl (b : Bool) | int (i : Int) | str (x : Str) | ref (a : Addr) | ty (n : String)
  | tup (xs : List D) | fl (xs : List D) | rl (xs : List D) | loc (n : Nat) | obj (C : Addr) (ns : List Str) (xs : List D)

/-- what may change: m where the store's things stand, x other things -/
structure Wo where
  m : List Addr
  x : List Addr
def Wo.has (ρ : Wo) (a : Addr) : Prop := a ∈ ρ.m ∨ a ∈ ρ.x
def Wo.cut (ρ : Wo) (n : Nat) : Wo := ⟨ρ.m.take n, ρ.x⟩
theorem Wo.cut_has {ρ : Wo} {n : Nat} {a : Addr} (h : ¬ ρ.has a) : ¬ (ρ.cut n).has a := fun z => h (z.elim (fun q => .inl (List.mem_of_mem_take q)) .inr)
/-- a tuple that stands for good -/
def StT (K : PySem.W.Frag) (H : Hp) (ρ : Wo) (a : Addr) (xs : List V) : Prop := (Rd H a (.tup xs) ∧ ¬ ρ.has a) ∨ SqT K (fun _ => none) a xs

mutual
/-- the value v is worth d -/
def R (K : PySem.W.Frag) (H : Hp) (ρ : Wo) : D → V → Prop
  | .non, v => v = .non
  | .bl b, v => v = .bl b
  | .int i, v => v = .int i
  | .str x, v => v = .str x
  | .ref a, v => v = .ref a
  | .ty n, v => v = .ty n
  | .tup ds, v => ∃ a xs, v = .ref a ∧ StT K H ρ a xs ∧ RL K H ρ ds xs
  | .fl ds, v => ∃ a xs, v = .ref a ∧ H a = some (.lst xs) ∧ ¬ ρ.has a ∧ RL K H ρ ds xs
  | .rl ds, v => ∃ a o xs, v = .ref a ∧ H a = some (.frz o (.lst xs)) ∧ ¬ ρ.has a ∧ RL K H ρ ds xs
  | .loc n, v => ∃ a, v = .ref a ∧ ρ.m[n]? = some a
  | .obj C ns ds, v => ∃ a dx xs, v = .ref a ∧ H a = some (.ins C dx (ns.zip xs)) ∧ ¬ ρ.has a ∧ ns.length = xs.length ∧ RL K H ρ ds xs
def RL (K : PySem.W.Frag) (H : Hp) (ρ : Wo) : List D → List V → Prop
  | [], vs => vs = []
  | d :: ds, vs => ∃ v r, vs = v :: r ∧ R K H ρ d v ∧ RL K H ρ ds r
end

/-- what may change -/
inductive Cell where
  | lst (xs : List D)
  | dk (kvs : List (Key × D))
  | obj (C : Addr) (ns : List Str) (xs : List D)
abbrev Store := List Cell

def CellR (K : PySem.W.Frag) (H : Hp) (ρ : Wo) (a : Addr) : Cell → Prop
  | .lst ds => ∃ xs, H a = some (.lst xs) ∧ RL K H ρ ds xs
  | .dk kds => ∃ kxs, H a = some (.dK kxs) ∧ kxs.map (·.1) = kds.map (·.1) ∧ RL K H ρ (kds.map (·.2)) (kxs.map (·.2))
  | .obj C ns ds => ∃ dx xs, H a = some (.ins C dx (ns.zip xs)) ∧ ns.length = xs.length ∧ RL K H ρ ds xs

/-- the heap goes on: what stands for good stands, what may change is there -/
structure Go (H : Hp) (ρ : Wo) (H' : Hp) (ρ' : Wo) : Prop where
  pre : ∃ new, ρ'.m = ρ.m ++ new ∧ ∀ a ∈ new, H a = none
  ex : ρ'.x = ρ.x
  keep : ∀ a o, H a = some o → a ∉ ρ.m → (∀ ps, o ≠ .tbl ps) → H' a = some o
  there : ∀ a, H' a = none → H a = none

theorem Go.refl (H : Hp) (ρ : Wo) : Go H ρ H ρ := ⟨⟨[], by simp, by simp⟩, rfl, fun _ _ h _ _ => h, fun _ h => h⟩
theorem Go.notInM {H H1 : Hp} {ρ ρ1 : Wo} (g : Go H ρ H1 ρ1) {a : Addr} {o : HO} (h : H a = some o) (n : a ∉ ρ.m) : a ∉ ρ1.m := fun z => by
  obtain ⟨new, e, f⟩ := g.pre
  rw [e] at z
  rcases List.mem_append.mp z with z | z
  · exact n z
  · rw [f a z] at h; cases h
/-- what is tracked and may not change doesn't come to be what may change -/
theorem Go.notIn {H H1 : Hp} {ρ ρ1 : Wo} (g : Go H ρ H1 ρ1) {a : Addr} {o : HO} (h : H a = some o) (n : ¬ ρ.has a) : ¬ ρ1.has a := fun z => by
  rcases z with z | z
  · exact g.notInM h (fun q => n (.inl q)) z
  · rw [g.ex] at z
    exact n (.inr z)
theorem Go.trans {H H1 H2 : Hp} {ρ ρ1 ρ2 : Wo} (a : Go H ρ H1 ρ1) (b : Go H1 ρ1 H2 ρ2) : Go H ρ H2 ρ2 := by
  obtain ⟨n1, e1, f1⟩ := id a.pre
  obtain ⟨n2, e2, f2⟩ := id b.pre
  refine ⟨⟨n1 ++ n2, by rw [e2, e1, List.append_assoc], fun x hx => ?_⟩, b.ex.trans a.ex, fun x o h hn ht => b.keep x o (a.keep x o h hn ht) (a.notInM h hn) ht, fun x h => a.there x (b.there x h)⟩
  rcases List.mem_append.mp hx with h | h
  · exact f1 x h
  · exact a.there x (f2 x h)
theorem Go.at {H H1 : Hp} {ρ ρ1 : Wo} (g : Go H ρ H1 ρ1) {n : Nat} {a : Addr} (h : ρ.m[n]? = some a) : ρ1.m[n]? = some a := by
  obtain ⟨new, e, _⟩ := g.pre
  rw [e, List.getElem?_append_left (List.getElem?_eq_some_iff.mp h).1]
  exact h
theorem Rd.go {H H1 : Hp} {ρ ρ1 : Wo} (g : Go H ρ H1 ρ1) {a : Addr} {u : HO} (h : Rd H a u) (n : ¬ ρ.has a) (nt : ∀ ps, u ≠ .tbl ps) : Rd H1 a u ∧ ¬ ρ1.has a := by
  rcases h with h | ⟨o, h⟩
  · exact ⟨.inl (g.keep _ _ h (fun q => n (.inl q)) nt), g.notIn h n⟩
  · exact ⟨.inr ⟨o, g.keep _ _ h (fun q => n (.inl q)) (fun ps q => by cases q)⟩, g.notIn h n⟩
theorem StT.go {K : PySem.W.Frag} {H H1 : Hp} {ρ ρ1 : Wo} (g : Go H ρ H1 ρ1) {a : Addr} {xs : List V} (h : StT K H ρ a xs) : StT K H1 ρ1 a xs := by
  rcases h with ⟨h, n⟩ | h
  · exact .inl (Rd.go g h n (fun ps q => by cases q))
  · exact .inr h
theorem SqT.wr {K : PySem.W.Frag} {H : Hp} {a : Addr} {xs : List V} (h : SqT K (fun _ => none) a xs) : SqT K H a xs := by
  rcases h with (h | ⟨o, h⟩) | h
  · cases h
  · cases h
  · exact .inr h
theorem StT.sq {K : PySem.W.Frag} {H : Hp} {ρ : Wo} {a : Addr} {xs : List V} (h : StT K H ρ a xs) : SqT K H a xs := by
  rcases h with ⟨h, _⟩ | h
  · exact .inl h
  · exact SqT.wr h
mutual
theorem R.go {K : PySem.W.Frag} {H H1 : Hp} {ρ ρ1 : Wo} (g : Go H ρ H1 ρ1) : ∀ (d : D) (v : V), R K H ρ d v → R K H1 ρ1 d v
  | .non, _, h => h
  | .bl _, _, h => h
  | .int _, _, h => h
  | .str _, _, h => h
  | .ref _, _, h => h
  | .ty _, _, h => h
  | .tup ds, _, ⟨a, xs, e, s, r⟩ => ⟨a, xs, e, s.go g, RL.go g ds xs r⟩
  | .fl ds, _, ⟨a, xs, e, h, n, r⟩ => ⟨a, xs, e, g.keep _ _ h (fun q => n (.inl q)) (fun ps q => by cases q), g.notIn h n, RL.go g ds xs r⟩
  | .rl ds, _, ⟨a, o, xs, e, h, n, r⟩ => ⟨a, o, xs, e, g.keep _ _ h (fun q => n (.inl q)) (fun ps q => by cases q), g.notIn h n, RL.go g ds xs r⟩
  | .loc _, _, ⟨a, e, h⟩ => ⟨a, e, g.at h⟩
  | .obj C ns ds, _, ⟨a, dx, xs, e, h, n, l, r⟩ => ⟨a, dx, xs, e, g.keep _ _ h (fun q => n (.inl q)) (fun ps q => by cases q), g.notIn h n, l, RL.go g ds xs r⟩
theorem RL.go {K : PySem.W.Frag} {H H1 : Hp} {ρ ρ1 : Wo} (g : Go H ρ H1 ρ1) : ∀ (ds : List D) (vs : List V), RL K H ρ ds vs → RL K H1 ρ1 ds vs
  | [], _, h => h
  | d :: ds, _, ⟨v, r, e, h1, h2⟩ => ⟨v, r, e, R.go g d v h1, RL.go g ds r h2⟩
end

theorem RL.len {K : PySem.W.Frag} {H : Hp} {ρ : Wo} : ∀ {ds : List D} {vs : List V}, RL K H ρ ds vs → vs.length = ds.length
  | [], _, h => by cases h; rfl
  | _ :: _, _, ⟨_, _, e, _, h2⟩ => by rw [e, List.length_cons, List.length_cons, RL.len h2]
theorem RL.get {K : PySem.W.Frag} {H : Hp} {ρ : Wo} : ∀ {ds : List D} {vs : List V} {i : Nat} {d : D}, RL K H ρ ds vs → ds[i]? = some d → ∃ v, vs[i]? = some v ∧ R K H ρ d v
  | [], _, _, _, _, e => by simp at e
  | _ :: _, _, 0, _, ⟨v, r, e, h1, _⟩, q => by simp at q; subst q; subst e; exact ⟨v, by simp, h1⟩
  | _ :: _, _, i + 1, d, ⟨v, r, e, _, h2⟩, q => by
    subst e
    obtain ⟨u, h3, h4⟩ := RL.get (i := i) (d := d) h2 (by simpa using q)
    exact ⟨u, by simpa using h3, h4⟩
theorem RL.getV {K : PySem.W.Frag} {H : Hp} {ρ : Wo} {ds : List D} {vs : List V} {i : Nat} {v : V} (h : RL K H ρ ds vs) (e : vs[i]? = some v) : ∃ d, ds[i]? = some d ∧ R K H ρ d v := by
  have hi : i < vs.length := (List.getElem?_eq_some_iff.mp e).1
  rw [h.len] at hi
  obtain ⟨u, h1, h2⟩ := h.get (List.getElem?_eq_getElem hi)
  rw [e] at h1; cases h1
  exact ⟨_, List.getElem?_eq_getElem hi, h2⟩
theorem RL.append {K : PySem.W.Frag} {H : Hp} {ρ : Wo} : ∀ {ds es : List D} {vs us : List V}, RL K H ρ ds vs → RL K H ρ es us → RL K H ρ (ds ++ es) (vs ++ us)
  | [], _, _, _, h, q => by cases h; exact q
  | _ :: _, _, _, _, ⟨v, r, e, h1, h2⟩, q => by subst e; exact ⟨v, _, rfl, h1, RL.append h2 q⟩
theorem RL.set {K : PySem.W.Frag} {H : Hp} {ρ : Wo} {d : D} {v : V} (q : R K H ρ d v) : ∀ {ds : List D} {vs : List V} (i : Nat), RL K H ρ ds vs → RL K H ρ (ds.set i d) (vs.set i v)
  | [], _, _, h => by cases h; exact rfl
  | _ :: _, _, 0, ⟨_, r, e, _, h2⟩ => by subst e; exact ⟨v, r, rfl, q, h2⟩
  | _ :: _, _, i + 1, ⟨u, r, e, h1, h2⟩ => by subst e; exact ⟨u, _, rfl, h1, RL.set q i h2⟩
theorem RL.take {K : PySem.W.Frag} {H : Hp} {ρ : Wo} : ∀ {ds : List D} {vs : List V} (n : Nat), RL K H ρ ds vs → RL K H ρ (ds.take n) (vs.take n)
  | _, _, 0, _ => by simp [RL]
  | [], _, _ + 1, h => by cases h; simp [RL]
  | _ :: _, _, n + 1, ⟨v, r, e, h1, h2⟩ => by subst e; exact ⟨v, _, rfl, h1, RL.take n h2⟩
theorem RL.drop {K : PySem.W.Frag} {H : Hp} {ρ : Wo} : ∀ {ds : List D} {vs : List V} (n : Nat), RL K H ρ ds vs → RL K H ρ (ds.drop n) (vs.drop n)
  | _, _, 0, h => h
  | [], _, _ + 1, h => by cases h; simp [RL]
  | _ :: _, _, n + 1, ⟨v, r, e, h1, h2⟩ => by subst e; exact RL.drop n h2
theorem RL.erase {K : PySem.W.Frag} {H : Hp} {ρ : Wo} : ∀ {ds : List D} {vs : List V} (n : Nat), RL K H ρ ds vs → RL K H ρ (ds.eraseIdx n) (vs.eraseIdx n)
  | [], _, _, h => by cases h; exact rfl
  | _ :: _, _, 0, ⟨v, r, e, h1, h2⟩ => by subst e; exact h2
  | _ :: _, _, n + 1, ⟨v, r, e, h1, h2⟩ => by subst e; exact ⟨v, _, rfl, h1, RL.erase n h2⟩
theorem RL.rep {K : PySem.W.Frag} {H : Hp} {ρ : Wo} {ds : List D} {vs : List V} (h : RL K H ρ ds vs) : ∀ k : Nat, RL K H ρ (List.replicate k ds).flatten (List.replicate k vs).flatten
  | 0 => rfl
  | k + 1 => by simp only [List.replicate_succ, List.flatten_cons]; exact h.append (RL.rep h k)

/-- what is a thing of the store is no table and no code object -/
def cellO : HO → Bool
  | .lst _ => true
  | .dK _ => true
  | .ins _ _ _ => true
  | _ => false
/-- what is known of the world for good: the code tables, objects that stand, values that are read -/
structure Tb where
  tabs : List NdefX.NTab
  hs : List (Addr × HO)
  vs : List (D × V)
structure Tb.Al (T : Tb) (K : PySem.W.Frag) (H : Hp) (ρ : Wo) : Prop where
  o : ∀ p ∈ T.hs, H p.1 = some p.2 ∧ ¬ ρ.has p.1 ∧ ∀ ps, p.2 ≠ .tbl ps
  v : ∀ q ∈ T.vs, R K H ρ q.1 q.2
theorem Tb.Al.go {T : Tb} {K : PySem.W.Frag} {H H1 : Hp} {ρ ρ1 : Wo} (x : T.Al K H ρ) (g : Go H ρ H1 ρ1) : T.Al K H1 ρ1 :=
  ⟨fun p hp => let ⟨h, n, t⟩ := x.o p hp; ⟨g.keep _ _ h (fun q => n (.inl q)) t, g.notIn h n, t⟩, fun q hq => R.go g _ _ (x.v q hq)⟩
/-- the world: the store stands at ρ, the code tables tell what they should -/
structure Ok (K : PySem.W.Frag) (T : Tb) (H : Hp) (ρ : Wo) (st : Store) : Prop where
  len : ρ.m.length = st.length
  nd : ρ.m.Nodup
  cell : ∀ (n : Nat) (a : Addr) (c : Cell), ρ.m[n]? = some a → st[n]? = some c → CellR K H ρ a c
  tab : NdefX.TabsN T.tabs H
  ext : ∀ a ∈ ρ.x, (∃ o, H a = some o ∧ cellO o = true) ∧ a ∉ ρ.m
  al : T.Al K H ρ
end L3

/-! ### text Lb -/
namespace L3
open PySem PySem.Spec PyProof.Rows L2

/-! ### results -/
inductive Res (α : Type) where
  | ok (a : α) (st : Store)
  | err (C : Addr) (p : Option (Str × D)) (st : Store)
  | bad
def Res.bind {α β : Type} (r : Res α) (f : α → Store → Res β) : Res β := match r with
  | .ok a st => f a st
  | .err C p st => .err C p st
  | .bad => .bad
@[simp] theorem Res.bind_ok {α β : Type} (a : α) (st : Store) (f : α → Store → Res β) : (Res.ok a st).bind f = f a st := rfl
@[simp] theorem Res.bind_err {α β : Type} (C : Addr) (p : Option (Str × D)) (st : Store) (f : α → Store → Res β) : (Res.err C p st).bind f = .err C p st := rfl
@[simp] theorem Res.bind_bad {α β : Type} (f : α → Store → Res β) : (Res.bad).bind f = .bad := rfl

def PayR (K : PySem.W.Frag) (H : Hp) (ρ : Wo) : Option (Str × D) → Option Addr → Prop
  | none, d => d = none
  | some (f, x), d => ∃ dx v, d = some dx ∧ H dx = some (.xd [(f, v)]) ∧ ¬ ρ.has dx ∧ R K H ρ x v
theorem PayR.go {K : PySem.W.Frag} {H H1 : Hp} {ρ ρ1 : Wo} (g : Go H ρ H1 ρ1) : ∀ (p : Option (Str × D)) (d : Option Addr), PayR K H ρ p d → PayR K H1 ρ1 p d
  | none, _, h => h
  | some (f, x), _, ⟨dx, v, e, h, n, r⟩ => ⟨dx, v, e, g.keep _ _ h (fun q => n (.inl q)) (fun ps q => by cases q), g.notIn h n, R.go g x v r⟩

section
variable (K : PySem.W.Frag) (T : Tb)
/-- what is wanted behind a result -/
def Post (W : WX) {α β : Type} (Rel : Hp → Wo → α → β → Prop) (σ : L2.St) (H : Hp) (ρ : Wo) (r : Res α) (Q : β → Hp → Prop) : Prop := match r with
  | .ok a st => ∀ b H' ρ', Go H ρ H' ρ' → Ok K T H' ρ' st → Rel H' ρ' a b → Q b H'
  | .err C p st => ∀ d H' ρ', Go H ρ H' ρ' → Ok K T H' ρ' st → PayR K H' ρ' p d → W (.ref C) d σ H'
  | .bad => False
end
section
variable {K : PySem.W.Frag} {T : Tb} {W : WX} {α β γ δ : Type} {Rel : Hp → Wo → α → β → Prop} {Rel2 : Hp → Wo → γ → δ → Prop} {σ : L2.St} {H H1 : Hp} {ρ ρ1 : Wo}
theorem Post.go {r : Res α} {Q : β → Hp → Prop} (h : Post K T W Rel σ H ρ r Q) (g : Go H ρ H1 ρ1) : Post K T W Rel σ H1 ρ1 r Q := by
  cases r with
  | ok a st => exact fun b H' ρ' g' => h b H' ρ' (g.trans g')
  | err C p st => exact fun d H' ρ' g' => h d H' ρ' (g.trans g')
  | bad => exact h
theorem Post.bind {r : Res α} {f : α → Store → Res γ} {Q : δ → Hp → Prop} {Q1 : β → Hp → Prop} (h : Post K T W Rel2 σ H ρ (r.bind f) Q)
    (k : ∀ a st b H' ρ', Go H ρ H' ρ' → Ok K T H' ρ' st → Rel H' ρ' a b → Post K T W Rel2 σ H' ρ' (f a st) Q → Q1 b H') : Post K T W Rel σ H ρ r Q1 := by
  cases r with
  | ok a st => exact fun b H' ρ' g o rel => k a st b H' ρ' g o rel (Post.go h g)
  | err C p st => exact h
  | bad => exact h
theorem Post.ok {a : α} {st : Store} {Q : β → Hp → Prop} (h : Post K T W Rel σ H ρ (.ok a st) Q) {b : β} (o : Ok K T H ρ st) (r : Rel H ρ a b) : Q b H := h b H ρ (Go.refl H ρ) o r
end

/-- the slots -/
abbrev Sl := List (Option D)
structure RS (K : PySem.W.Frag) (H : Hp) (ρ : Wo) (δ : Sl) (σ : L2.St) : Prop where
  len : δ.length = σ.length
  at' : ∀ (i : Nat) (d : D), δ[i]? = some (some d) → ∃ v, σ[i]? = some (some v) ∧ R K H ρ d v
theorem RS.go {K : PySem.W.Frag} {H H1 : Hp} {ρ ρ1 : Wo} {δ : Sl} {σ : L2.St} (r : RS K H ρ δ σ) (g : Go H ρ H1 ρ1) : RS K H1 ρ1 δ σ :=
  ⟨r.len, fun i d e => let ⟨v, h1, h2⟩ := r.at' i d e; ⟨v, h1, R.go g d v h2⟩⟩
theorem RS.set {K : PySem.W.Frag} {H : Hp} {ρ : Wo} {δ : Sl} {σ : L2.St} (r : RS K H ρ δ σ) {i : Nat} {d : D} {v : V} (q : R K H ρ d v) : RS K H ρ (δ.set i (some d)) (σ.set i (some v)) := by
  refine ⟨by rw [List.length_set, List.length_set, r.len], fun j e h => ?_⟩
  by_cases hj : i = j
  · subst hj
    have hl : i < δ.length := by
      rcases Nat.lt_or_ge i δ.length with h1 | h1
      · exact h1
      · rw [List.getElem?_eq_none (by rw [List.length_set]; exact h1)] at h; cases h
    rw [List.getElem?_set_self hl] at h
    cases h
    exact ⟨v, List.getElem?_set_self (by rw [← r.len]; exact hl), q⟩
  · rw [List.getElem?_set_ne hj] at h
    obtain ⟨u, h1, h2⟩ := r.at' j e h
    exact ⟨u, by rw [List.getElem?_set_ne hj]; exact h1, h2⟩
/-- slots may be forgotten -/
theorem RS.weak {K : PySem.W.Frag} {H : Hp} {ρ : Wo} {δ δ' : Sl} {σ : L2.St} (r : RS K H ρ δ σ) (l : δ'.length = δ.length) (h : ∀ (i : Nat) (d : D), δ'[i]? = some (some d) → δ[i]? = some (some d)) : RS K H ρ δ' σ :=
  ⟨l.trans r.len, fun i d e => r.at' i d (h i d e)⟩
theorem RS.unset {K : PySem.W.Frag} {H : Hp} {ρ : Wo} {δ : Sl} {σ : L2.St} (r : RS K H ρ δ σ) {i : Nat} {v : Option V} : RS K H ρ (δ.set i none) (σ.set i v) := by
  refine ⟨by rw [List.length_set, List.length_set, r.len], fun j e h => ?_⟩
  by_cases hj : i = j
  · subst hj
    by_cases hl : i < δ.length
    · rw [List.getElem?_set_self hl] at h; cases h
    · rw [List.getElem?_eq_none (by rw [List.length_set]; omega)] at h; cases h
  · rw [List.getElem?_set_ne hj] at h
    obtain ⟨u, h1, h2⟩ := r.at' j e h
    exact ⟨u, by rw [List.getElem?_set_ne hj]; exact h1, h2⟩

/-! ### readings by data -/
abbrev EM := Sl → Store → Res D
abbrev AM := Sl → Store → Res (List D)
abbrev TM := Sl → Store → Res Bool
section
variable (K : PySem.W.Frag) (T : Tb) (W : WX)
def rE (m : EM) : TE := fun σ H Q => ∃ ρ δ st, Ok K T H ρ st ∧ RS K H ρ δ σ ∧ Post K T W (R K) σ H ρ (m δ st) Q
def rA (m : AM) : TA := fun σ H Q => ∃ ρ δ st, Ok K T H ρ st ∧ RS K H ρ δ σ ∧ Post K T W (RL K) σ H ρ (m δ st) Q
def rT (m : TM) : TT := fun σ H Q => ∃ ρ δ st, Ok K T H ρ st ∧ RS K H ρ δ σ ∧ Post K T W (fun _ _ a b => a = b) σ H ρ (m δ st) Q
end
/-- where one stands, what the tables of code objects tell, what is wished of an exception -/
structure DE (X : Cx) (T : Tb) (W : WX) (e : Expr) (m : EM) : Prop where
  pe : PE X e (rE X.K T W m)
structure DA (X : Cx) (T : Tb) (W : WX) (es : List Expr) (m : AM) : Prop where
  pa : PA X es (rA X.K T W m)
structure DT (X : Cx) (T : Tb) (W : WX) (e : Expr) (m : TM) : Prop where
  pt : PT X e (rT X.K T W m)
structure DW (X : Cx) (T : Tb) (W : WX) (e : Expr) (m : TM) : Prop where
  pw : PW X e (rT X.K T W m)

theorem PE.imp {X : Cx} {e : Expr} {t t' : TE} (h : PE X e t) (k : ∀ σ H Q, t' σ H Q → t σ H Q) : PE X e t' := ⟨fun pins s σ H Q I q => h.run pins s σ H Q I (k _ _ _ q)⟩
theorem PA.imp {X : Cx} {e : List Expr} {t t' : TA} (h : PA X e t) (k : ∀ σ H Q, t' σ H Q → t σ H Q) : PA X e t' := ⟨fun pos pins s σ H Q I q => h.run pos pins s σ H Q I (k _ _ _ q)⟩
theorem PT.imp {X : Cx} {e : Expr} {t t' : TT} (h : PT X e t) (k : ∀ σ H Q, t' σ H Q → t σ H Q) : PT X e t' := ⟨fun pins s σ H Q I q => h.run pins s σ H Q I (k _ _ _ q)⟩
theorem PW.imp {X : Cx} {e : Expr} {t t' : TT} (h : PW X e t) (k : ∀ σ H Q, t' σ H Q → t σ H Q) : PW X e t' := ⟨fun wh pins s σ H Q I q => h.run wh pins s σ H Q I (k _ _ _ q)⟩

section
variable {X : Cx} {T : Tb} {W : WX} {a b c : Expr} {es : List Expr} {ma mb mc : EM} {mas : AM} {mt mu : TM} {pos p1 p2 : Pos}

/-! ### names, constants -/
def eV (i : Nat) : EM := fun δ st => match δ[i]? with
  | some (some d) => .ok d st
  | _ => .bad
def eC (d : D) : EM := fun _ st => .ok d st
theorem de_v (i : Nat) {x : Str} {pos : Pos} (hN : X.N[i]? = some x := by rfl) (hv : Vis X.env.scope x := by first | exact Or.inl rfl | exact Or.inr (Or.inl rfl) | exact Or.inr (Or.inr rfl)) (hd : (x == ("__debug__" : Str)) = false := by decide)
    (hcd : (x == ("__classdict__" : Str)) = false := by decide) : DE X T W (.Name x pos) (eV i) := by
  refine ⟨PE.imp (pe_var hN hv hd hcd) fun σ H Q ⟨ρ, δ, st, ok, rs, h⟩ => ?_⟩
  unfold eV at h
  split at h
  · rename_i d e
    obtain ⟨v, h1, h2⟩ := rs.at' _ _ e
    exact ⟨v, h1, h.ok ok h2⟩
  · exact h.elim
theorem de_c {d : D} {v : V} (h : PE X a (tC v)) (r : ∀ K H ρ, R K H ρ d v) : DE X T W a (eC d) :=
  ⟨PE.imp h fun σ H Q ⟨ρ, δ, st, ok, rs, h⟩ => h.ok ok (r _ _ _)⟩
theorem de_int {i : Int} {j : Nat} : DE X T W (.Constant (.int i) j pos) (eC (.int i)) := de_c pe_int fun _ _ _ => rfl
theorem de_bl {i : Bool} {j : Nat} : DE X T W (.Constant (.bool i) j pos) (eC (.bl i)) := de_c pe_bl fun _ _ _ => rfl
theorem de_non {j : Nat} : DE X T W (.Constant .none j pos) (eC .non) := de_c pe_non fun _ _ _ => rfl
theorem de_str {x : Str} {j : Nat} : DE X T W (.Constant (.str x) j pos) (eC (.str x)) := de_c pe_str fun _ _ _ => rfl
/-- a written tuple of the module -/
theorem de_glob {x : Str} {d : D} {v : V} {u : Value} (hg : Gl X x) (hm : X.mg x = some u) (r : RelV v u) (rd : ∀ H ρ, R X.K H ρ d v) (hd : (x == ("__debug__" : Str)) = false := by decide) : DE X T W (.Name x pos) (eC d) :=
  ⟨PE.imp (pe_glob hg hm r hd) fun σ H Q ⟨ρ, δ, st, ok, rs, h⟩ => h.ok ok (rd _ _)⟩

/-! ### operators -/
def e2 (f : D → D → Store → Res D) (ma mb : EM) : EM := fun δ st => (ma δ st).bind fun x st1 => (mb δ st1).bind fun y st2 => f x y st2
def e1 (f : D → Store → Res D) (ma : EM) : EM := fun δ st => (ma δ st).bind fun x st1 => f x st1
/-- a rule by values keeps to a function by data -/
def Tell2 (X : Cx) (T : Tb) (r : R2) (f : D → D → Store → Res D) : Prop :=
  ∀ (W : WX) (σ : L2.St) (H : Hp) (ρ : Wo) (st : Store) (x y : D) (v u : V) (Q : VK), Ok X.K T H ρ st → R X.K H ρ x v → R X.K H ρ y u → Post X.K T W (R X.K) σ H ρ (f x y st) Q → r v u H Q
def Tell1 (X : Cx) (T : Tb) (r : V → Hp → VK → Prop) (f : D → Store → Res D) : Prop :=
  ∀ (W : WX) (σ : L2.St) (H : Hp) (ρ : Wo) (st : Store) (x : D) (v : V) (Q : VK), Ok X.K T H ρ st → R X.K H ρ x v → Post X.K T W (R X.K) σ H ρ (f x st) Q → r v H Q
theorem two {r : R2} {f : D → D → Store → Res D} (hf : Tell2 X T r f) {σ : L2.St} {H : Hp} {Q : VK} (h : rE X.K T W (e2 f ma mb) σ H Q) : tOp r (rE X.K T W ma) (rE X.K T W mb) σ H Q := by
  obtain ⟨ρ, δ, st, ok, rs, h⟩ := h
  refine ⟨ρ, δ, st, ok, rs, Post.bind h fun x st1 v H1 ρ1 g1 ok1 rx h1 => ⟨ρ1, δ, st1, ok1, rs.go g1, Post.bind h1 fun y st2 u H2 ρ2 g2 ok2 ry h2 => ?_⟩⟩
  exact hf W σ H2 ρ2 st2 x y v u Q ok2 (R.go g2 x v rx) ry h2
theorem de_op {op : Operator} {r : R2} {f : D → D → Store → Res D} (ho : OpR X (binaryOp op) r) (hf : Tell2 X T r f) (ha : DE X T W a ma) (hb : DE X T W b mb) : DE X T W (.BinOp a op b pos) (e2 f ma mb) :=
  ⟨PE.imp (pe_op ho ha.pe hb.pe) fun _ _ _ h => two hf h⟩
theorem de_un {op : UnaryOp} {r : V → Hp → VK → Prop} {f : D → Store → Res D} (ho : UnR X (unaryOp op) r) (hf : Tell1 X T r f) (ha : DE X T W a ma) : DE X T W (.UnaryOp op a pos) (e1 f ma) :=
  ⟨PE.imp (pe_un ho ha.pe) fun σ H Q ⟨ρ, δ, st, ok, rs, h⟩ => ⟨ρ, δ, st, ok, rs, Post.bind h fun x st1 v H1 ρ1 g1 ok1 rx h1 => hf W σ H1 ρ1 st1 x v Q ok1 rx h1⟩⟩
theorem de_cmp {op : CmpOp} {r : R2} {f : D → D → Store → Res D} (ho : OpR X (compareOp op) r) (hf : Tell2 X T r f) (ha : DE X T W a ma) (hb : DE X T W b mb) (hm : behindInMarks op b = false := by first | exact nomark _ (by decide) (by decide) | rfl) : DE X T W (.Compare a [op] [b] pos) (e2 f ma mb) :=
  ⟨PE.imp (pe_cmpR ho ha.pe hb.pe hm) fun _ _ _ h => two hf h⟩
/-- as a test -/
def t2 (f : D → D → Store → Res D) (ma mb : EM) : TM := fun δ st => (e2 f ma mb δ st).bind fun x st1 => match x with
  | .bl k => .ok k st1
  | _ => .bad
theorem rT_of {m : EM} {σ : L2.St} {H : Hp} {Q : Bool → Hp → Prop} (h : rT X.K T W (fun δ st => (m δ st).bind fun x st1 => match x with | .bl k => .ok k st1 | _ => .bad) σ H Q) : rE X.K T W m σ H fun x H' => ∃ k, x = .bl k ∧ Q k H' := by
  obtain ⟨ρ, δ, st, ok, rs, h⟩ := h
  refine ⟨ρ, δ, st, ok, rs, Post.bind h fun x st1 v H1 ρ1 g1 ok1 rx h1 => ?_⟩
  cases x with
  | bl k => exact ⟨k, rx, h1.ok ok1 rfl⟩
  | _ => exact h1.elim
theorem dt_cmp {op : CmpOp} {r : R2} {f : D → D → Store → Res D} (ho : OpR X (compareOp op) r) (hf : Tell2 X T r f) (ha : DE X T W a ma) (hb : DE X T W b mb) (hm : behindInMarks op b = false := by first | exact nomark _ (by decide) (by decide) | rfl) : DT X T W (.Compare a [op] [b] pos) (t2 f ma mb) :=
  ⟨PT.imp (pt_cmpR ho ha.pe hb.pe hm) fun _ _ _ h => two hf (rT_of h)⟩
end
end L3

/-! ### text Lc -/
namespace L3
open PySem PySem.Spec PyProof.Rows L2

/-! ### new things -/
section
variable {K : PySem.W.Frag} {T : Tb} {H : Hp} {ρ : Wo} {st : Store} {p : Addr} {o : HO}
theorem Ok.thereC (ok : Ok K T H ρ st) {a : Addr} (h : ρ.has a) : ∃ o, H a = some o ∧ cellO o = true := by
  rcases h with h | h
  · obtain ⟨n, hn, e⟩ := List.getElem_of_mem h
    have hs : n < st.length := by rw [← ok.len]; exact hn
    have := ok.cell n a st[n] (by rw [← e]; exact List.getElem?_eq_getElem hn) (List.getElem?_eq_getElem hs)
    cases q : st[n] with
    | lst ds => rw [q] at this; obtain ⟨xs, h1, _⟩ := this; exact ⟨_, h1, rfl⟩
    | dk kds => rw [q] at this; obtain ⟨xs, h1, _⟩ := this; exact ⟨_, h1, rfl⟩
    | obj C ns ds => rw [q] at this; obtain ⟨dx, xs, h1, _⟩ := this; exact ⟨_, h1, rfl⟩
  · exact (ok.ext a h).1
theorem Ok.there (ok : Ok K T H ρ st) {a : Addr} (z : ρ.has a) : ∃ o, H a = some o := (ok.thereC z).imp fun _ h => h.1
theorem Ok.new (ok : Ok K T H ρ st) (h : H p = none) : ¬ ρ.has p := fun z => by
  obtain ⟨o, e⟩ := ok.there z
  rw [h] at e; cases e
theorem go_new (h : H p = none) : Go H ρ (upd H p o) ρ :=
  ⟨⟨[], by simp, by simp⟩, rfl, fun a u e _ _ => by rw [upd_ne (ne_of_none e h)]; exact e, fun a e => by
    by_cases q : a = p
    · subst q; rw [upd_same] at e; cases e
    · rw [upd_ne q] at e; exact e⟩
theorem CellR.go {H1 : Hp} {ρ1 : Wo} (g : Go H ρ H1 ρ1) {a : Addr} (hk : ∀ o, H a = some o → H1 a = some o) : ∀ (c : Cell), CellR K H ρ a c → CellR K H1 ρ1 a c
  | .lst ds, ⟨xs, h, r⟩ => ⟨xs, hk _ h, RL.go g ds xs r⟩
  | .dk kds, ⟨kxs, h, e, r⟩ => ⟨kxs, hk _ h, e, RL.go g _ _ r⟩
  | .obj C ns ds, ⟨dx, xs, h, l, r⟩ => ⟨dx, xs, hk _ h, l, RL.go g _ _ r⟩
theorem Ok.alloc (ok : Ok K T H ρ st) (h : H p = none) : Ok K T (upd H p o) ρ st :=
  ⟨ok.len, ok.nd, fun n a c h1 h2 => (ok.cell n a c h1 h2).go (go_new h) fun u e => by rw [upd_ne (ne_of_none e h)]; exact e, ok.tab.ext fun b u e => by rw [upd_ne (ne_of_none e h)]; exact e, fun a ha => let ⟨⟨u, e, z⟩, n⟩ := ok.ext a ha; ⟨⟨u, by rw [upd_ne (ne_of_none e h)]; exact e, z⟩, n⟩, ok.al.go (go_new h)⟩
end

/-! ### lists and tuples -/
/-- the items of a list that is read -/
def lsOf : D → Store → Option (List D)
  | .fl xs, _ => some xs
  | .rl xs, _ => some xs
  | .loc n, st => match st[n]? with
    | some (.lst xs) => some xs
    | _ => none
  | _, _ => none
/-- .. of a list that isn't locked -/
def trOf : D → Store → Option (List D)
  | .fl xs, _ => some xs
  | .loc n, st => match st[n]? with
    | some (.lst xs) => some xs
    | _ => none
  | _, _ => none
section
variable {K : PySem.W.Frag} {T : Tb} {H : Hp} {ρ : Wo} {st : Store}
theorem locAt (ok : Ok K T H ρ st) {n : Nat} {v : V} {c : Cell} (h : R K H ρ (.loc n) v) (e : st[n]? = some c) : ∃ a, v = .ref a ∧ ρ.m[n]? = some a ∧ CellR K H ρ a c := by
  obtain ⟨a, rfl, ha⟩ := h
  exact ⟨a, rfl, ha, ok.cell n a c ha e⟩
theorem trAt (ok : Ok K T H ρ st) {d : D} {v : V} {ds : List D} (h : R K H ρ d v) (e : trOf d st = some ds) : ∃ a xs, v = .ref a ∧ H a = some (.lst xs) ∧ RL K H ρ ds xs := by
  cases d with
  | fl xs => cases e; obtain ⟨a, xs, e, h, _, r⟩ := h; exact ⟨a, xs, e, h, r⟩
  | loc n =>
    simp only [trOf] at e
    split at e
    · rename_i xs q
      cases e
      obtain ⟨a, rfl, _, xs, h, r⟩ := locAt ok h q
      exact ⟨a, xs, rfl, h, r⟩
    · cases e
  | _ => cases e
theorem lsAt (ok : Ok K T H ρ st) {d : D} {v : V} {ds : List D} (h : R K H ρ d v) (e : lsOf d st = some ds) : ∃ a xs, v = .ref a ∧ SqL K H a xs ∧ RL K H ρ ds xs := by
  cases d with
  | fl xs => cases e; obtain ⟨a, xs, e, h, _, r⟩ := h; exact ⟨a, xs, e, .of h, r⟩
  | rl xs => cases e; obtain ⟨a, o, xs, e, h, _, r⟩ := h; exact ⟨a, xs, e, .inl (.inr ⟨o, h⟩), r⟩
  | loc n =>
    simp only [lsOf] at e
    split at e
    · rename_i xs q
      cases e
      obtain ⟨a, rfl, _, xs, h, r⟩ := locAt ok h q
      exact ⟨a, xs, rfl, .of h, r⟩
    · cases e
  | _ => cases e
theorem tupAt {ds : List D} {v : V} (h : R K H ρ (.tup ds) v) : ∃ a xs, v = .ref a ∧ SqT K H a xs ∧ RL K H ρ ds xs := by
  obtain ⟨a, xs, e, s, r⟩ := h
  exact ⟨a, xs, e, s.sq, r⟩
end
section
variable {K : PySem.W.Frag} {T : Tb} {W : WX} {σ : L2.St} {H : Hp} {ρ : Wo} {st : Store} {Q : VK}
/-- a new list, a new tuple is given out -/
theorem Post.newL {ds : List D} {xs : List V} (ok : Ok K T H ρ st) (r : RL K H ρ ds xs) (h : Post K T W (R K) σ H ρ (.ok (.fl ds) st) Q) : ∀ p, H p = none → Q (.ref p) (upd H p (.lst xs)) := fun p hp =>
  h (.ref p) _ ρ (go_new hp) (ok.alloc hp) ⟨p, xs, rfl, upd_same, ok.new hp, RL.go (go_new hp) _ _ r⟩
theorem Post.newT {ds : List D} {xs : List V} (ok : Ok K T H ρ st) (r : RL K H ρ ds xs) (h : Post K T W (R K) σ H ρ (.ok (.tup ds) st) Q) : ∀ p, H p = none → Q (.ref p) (upd H p (.tup xs)) := fun p hp =>
  h (.ref p) _ ρ (go_new hp) (ok.alloc hp) ⟨p, xs, rfl, .inl ⟨.inl upd_same, ok.new hp⟩, RL.go (go_new hp) _ _ r⟩
end

theorem line1 {n : Nat} (h : n ≤ 1000000) : n ≤ sizeLine := by rw [sizeLine_eq]; omega

/-! ### + - * // % ** on data -/
def dAdd (x y : D) (st : Store) : Res D := match x, y with
  | .int i, .int j => .ok (.int (i + j)) st
  | .str a, .str b => if a.length + b.length ≤ 1000000 then .ok (.str (a ++ b)) st else .bad
  | .tup a, .tup b => if a.length + b.length ≤ 1000000 then .ok (.tup (a ++ b)) st else .bad
  | x, y => match trOf x st, trOf y st with
    | some a, some b => if a.length + b.length ≤ 1000000 then .ok (.fl (a ++ b)) st else .bad
    | _, _ => .bad
def dSub (x y : D) (st : Store) : Res D := match x, y with
  | .int i, .int j => .ok (.int (i - j)) st
  | _, _ => .bad
def dMul (x y : D) (st : Store) : Res D := match x, y with
  | .int i, .int j => if i.natAbs < 2 ^ 64 ∨ j.natAbs < 2 ^ 64 then .ok (.int (i * j)) st else .bad
  | .tup a, .int k => if a ≠ [] ∧ 2 ≤ k ∧ k ≤ 1000 ∧ a.length ≤ 1000 then .ok (.tup (List.replicate k.toNat a).flatten) st else .bad
  | x, .int k => match trOf x st with
    | some a => if 0 ≤ k ∧ k ≤ 1000 ∧ a.length ≤ 1000 then .ok (.fl (List.replicate k.toNat a).flatten) st else .bad
    | _ => .bad
  | _, _ => .bad
def dDiv (x y : D) (st : Store) : Res D := match x, y with
  | .int i, .int j => if 0 < j ∧ j < 1073741824 then .ok (.int (i / j)) st else .bad
  | _, _ => .bad
def dMod (x y : D) (st : Store) : Res D := match x, y with
  | .int i, .int j => if 0 < j then .ok (.int (i % j)) st else .bad
  | _, _ => .bad
def dPow (x y : D) (st : Store) : Res D := match x, y with
  | .int i, .int j => if 0 ≤ j ∧ j ≤ 1000 ∧ i.natAbs < 2 ^ 64 then .ok (.int (i ^ j.toNat)) st else .bad
  | _, _ => .bad
section
variable {X : Cx} {T : Tb}
def rAddD (K : PySem.W.Frag) : R2 := fun x y H Q => (∃ i j, x = .int i ∧ y = .int j ∧ Q (.int (i + j)) H) ∨ (∃ i j, x = .str i ∧ y = .str j ∧ i.length + j.length ≤ sizeLine ∧ Q (.str (i ++ j)) H) ∨ rCatA K x y H Q ∨ rCat x y H Q
theorem op_addD : OpR X (binaryOp .Add) (rAddD X.K) := op_add.or (op_add_str.or (op_catA.or op_cat))
theorem tell_add : Tell2 X T (rAddD X.K) dAdd := by
  intro W σ H ρ st x y v u Q ok rx ry h
  unfold dAdd at h
  split at h
  · cases rx; cases ry
    exact .inl ⟨_, _, rfl, rfl, h.ok ok rfl⟩
  · cases rx; cases ry
    split at h
    · exact .inr (.inl ⟨_, _, rfl, rfl, line1 (by assumption), h.ok ok rfl⟩)
    · exact h.elim
  · rename_i a b
    split at h
    · rename_i hz
      obtain ⟨p, xs, rfl, h1, r1⟩ := tupAt rx
      obtain ⟨q, ys, rfl, h2, r2⟩ := tupAt ry
      refine .inr (.inr (.inl ⟨p, q, xs, ys, rfl, rfl, h1, h2, line1 (by rw [r1.len, r2.len]; exact hz), fun e => ?_, fun e1 e2 => ?_, fun _ _ => Post.newT ok (r1.append r2) h⟩))
      · subst e
        have : a = [] := List.length_eq_zero_iff.mp (by rw [← r1.len]; rfl)
        subst this
        exact h.ok ok ry
      · subst e2
        have : b = [] := List.length_eq_zero_iff.mp (by rw [← r2.len]; rfl)
        subst this
        rw [List.append_nil] at h
        exact h.ok ok rx
    · exact h.elim
  · split at h
    · rename_i a b e1 e2
      split at h
      · rename_i hz
        obtain ⟨p, xs, rfl, h1, r1⟩ := trAt ok rx e1
        obtain ⟨q, ys, rfl, h2, r2⟩ := trAt ok ry e2
        exact .inr (.inr (.inr ⟨p, q, xs, ys, rfl, rfl, h1, h2, line1 (by rw [r1.len, r2.len]; exact hz), Post.newL ok (r1.append r2) h⟩))
      · exact h.elim
    · exact h.elim
theorem tell_sub : Tell2 X T (rI0 fun i j => .int (i - j)) dSub := by
  intro W σ H ρ st x y v u Q ok rx ry h
  unfold dSub at h
  split at h
  · cases rx; cases ry
    exact ⟨_, _, rfl, rfl, h.ok ok rfl⟩
  · exact h.elim
def rMulD (K : PySem.W.Frag) : R2 := fun x y H Q => rI CMul (fun i j => .int (i * j)) x y H Q ∨ rRepT K x y H Q ∨ rRep x y H Q
theorem op_mulD : OpR X (binaryOp .Mult) (rMulD X.K) := op_mul.or (op_repT.or op_rep)
theorem natAbs_lt {i : Int} (h : i.natAbs < 2 ^ 64) : -(2 ^ 64) < i ∧ i < 2 ^ 64 := by omega
theorem tell_mul : Tell2 X T (rMulD X.K) dMul := by
  intro W σ H ρ st x y v u Q ok rx ry h
  unfold dMul at h
  split at h
  · cases rx; cases ry
    split at h
    · rename_i hz
      exact .inl ⟨_, _, rfl, rfl, hz.elim (fun z => .inl (natAbs_lt z)) (fun z => .inr (natAbs_lt z)), h.ok ok rfl⟩
    · exact h.elim
  · rename_i a k
    cases ry
    split at h
    · rename_i hz
      obtain ⟨p, xs, rfl, h1, r1⟩ := tupAt rx
      refine .inr (.inl ⟨p, k, xs, rfl, rfl, h1, fun e => ?_, hz.2.1, hz.2.2.1, by rw [r1.len]; exact hz.2.2.2, Post.newT ok (r1.rep _) h⟩)
      subst e
      exact hz.1 (List.length_eq_zero_iff.mp (by rw [← r1.len]; rfl))
    · exact h.elim
  · rename_i k _ _
    cases ry
    split at h
    · rename_i a e1
      split at h
      · rename_i hz
        obtain ⟨p, xs, rfl, h1, r1⟩ := trAt ok rx e1
        refine .inr (.inr ⟨p, k, xs, rfl, rfl, h1, by omega, by omega, ?_, Post.newL ok (r1.rep _) h⟩)
        have h2 : xs.length ≤ 1000 := by rw [r1.len]; exact hz.2.2
        have h3 : k.toNat ≤ 1000 := by omega
        exact line1 (Nat.le_trans (Nat.mul_le_mul h2 h3) (by decide))
      · exact h.elim
    · exact h.elim
  · exact h.elim
theorem tell_div : Tell2 X T (rI CDiv fun i j => .int (i / j)) dDiv := by
  intro W σ H ρ st x y v u Q ok rx ry h
  unfold dDiv at h
  split at h
  · cases rx; cases ry
    split at h
    · exact ⟨_, _, rfl, rfl, by assumption, h.ok ok rfl⟩
    · exact h.elim
  · exact h.elim
theorem tell_mod : Tell2 X T (rI (fun _ j => 0 < j) fun i j => .int (i % j)) dMod := by
  intro W σ H ρ st x y v u Q ok rx ry h
  unfold dMod at h
  split at h
  · cases rx; cases ry
    split at h
    · exact ⟨_, _, rfl, rfl, by assumption, h.ok ok rfl⟩
    · exact h.elim
  · exact h.elim
theorem tell_pow : Tell2 X T (rI CPow fun i j => .int (i ^ j.toNat)) dPow := by
  intro W σ H ρ st x y v u Q ok rx ry h
  unfold dPow at h
  split at h
  · cases rx; cases ry
    split at h
    · rename_i hz
      exact ⟨_, _, rfl, rfl, ⟨hz.1, by omega, hz.2.2⟩, h.ok ok rfl⟩
    · exact h.elim
  · exact h.elim
variable {W : WX} {a b : Expr} {ma mb : EM} {pos : Pos}
theorem de_add (ha : DE X T W a ma) (hb : DE X T W b mb) : DE X T W (.BinOp a .Add b pos) (e2 dAdd ma mb) := de_op op_addD tell_add ha hb
theorem de_sub (ha : DE X T W a ma) (hb : DE X T W b mb) : DE X T W (.BinOp a .Sub b pos) (e2 dSub ma mb) := de_op op_sub tell_sub ha hb
theorem de_mul (ha : DE X T W a ma) (hb : DE X T W b mb) : DE X T W (.BinOp a .Mult b pos) (e2 dMul ma mb) := de_op op_mulD tell_mul ha hb
theorem de_div (ha : DE X T W a ma) (hb : DE X T W b mb) : DE X T W (.BinOp a .FloorDiv b pos) (e2 dDiv ma mb) := de_op op_fdiv tell_div ha hb
theorem de_mod (ha : DE X T W a ma) (hb : DE X T W b mb) : DE X T W (.BinOp a .Mod b pos) (e2 dMod ma mb) := de_op op_mod tell_mod ha hb
theorem de_pow (ha : DE X T W a ma) (hb : DE X T W b mb) : DE X T W (.BinOp a .Pow b pos) (e2 dPow ma mb) := de_op op_pow tell_pow ha hb
def dNeg (x : D) (st : Store) : Res D := match x with
  | .int i => .ok (.int (-i)) st
  | _ => .bad
theorem de_neg (ha : DE X T W a ma) : DE X T W (.UnaryOp .USub a pos) (e1 dNeg ma) := de_un un_neg (fun W σ H ρ st x v Q ok rx h => by
  unfold dNeg at h
  split at h
  · cases rx; exact ⟨_, rfl, h.ok ok rfl⟩
  · exact h.elim) ha
end

/-! ### == != over data -/
mutual
/-- the data of the library -/
def toP : D → Option PyData
  | .non => some .none
  | .bl b => some (.bool b)
  | .int i => some (.int i)
  | .str x => some (.str x)
  | .tup ds => (toPs ds).map .tuple
  | .fl ds => (toPs ds).map .list
  | .rl ds => (toPs ds).map .list
  | _ => none
def toPs : List D → Option (List PyData)
  | [] => some []
  | d :: ds => match toP d, toPs ds with
    | some p, some ps => some (p :: ps)
    | _, _ => none
end
/-- .. of a value at the top -/
def toPd (d : D) (st : Store) : Option PyData := match d with
  | .loc n => match st[n]? with
    | some (.lst ds) => (toPs ds).map .list
    | _ => none
  | d => toP d
mutual
theorem toP_ok {K : PySem.W.Frag} {H : Hp} {ρ : Wo} : ∀ (d : D) (p : PyData) (v : V), toP d = some p → R K H ρ d v → Dp K H v p
  | .non, _, _, e, h => by cases e; cases h; exact .non
  | .bl b, _, _, e, h => by cases e; cases h; exact .bl b
  | .int i, _, _, e, h => by cases e; cases h; exact .int i
  | .str x, _, _, e, h => by cases e; cases h; exact .str x
  | .tup ds, _, _, e, ⟨a, xs, e1, s, r⟩ => by
    simp only [toP, Option.map_eq_some_iff] at e
    obtain ⟨ps, e2, rfl⟩ := e
    subst e1
    exact .tup s.sq (toPs_ok ds ps xs e2 r)
  | .fl ds, _, _, e, ⟨a, xs, e1, s, _, r⟩ => by
    simp only [toP, Option.map_eq_some_iff] at e
    obtain ⟨ps, e2, rfl⟩ := e
    subst e1
    exact .lst (.of s) (toPs_ok ds ps xs e2 r)
  | .rl ds, _, _, e, ⟨a, o, xs, e1, s, _, r⟩ => by
    simp only [toP, Option.map_eq_some_iff] at e
    obtain ⟨ps, e2, rfl⟩ := e
    subst e1
    exact .lst (.inl (.inr ⟨o, s⟩)) (toPs_ok ds ps xs e2 r)
  | .ref _, _, _, e, _ => by cases e
  | .ty _, _, _, e, _ => by cases e
  | .loc _, _, _, e, _ => by cases e
  | .obj _ _ _, _, _, e, _ => by cases e
theorem toPs_ok {K : PySem.W.Frag} {H : Hp} {ρ : Wo} : ∀ (ds : List D) (ps : List PyData) (vs : List V), toPs ds = some ps → RL K H ρ ds vs → DpAll K H vs ps
  | [], _, _, e, h => by cases e; cases h; exact .nil
  | d :: ds, _, _, e, ⟨v, r, e1, h1, h2⟩ => by
    simp only [toPs] at e
    split at e
    · rename_i p ps q1 q2
      cases e
      subst e1
      exact .cons (toP_ok d p v q1 h1) (toPs_ok ds ps r q2 h2)
    · cases e
end
theorem toPd_ok {K : PySem.W.Frag} {T : Tb} {H : Hp} {ρ : Wo} {st : Store} (ok : Ok K T H ρ st) {d : D} {p : PyData} {v : V} (e : toPd d st = some p) (h : R K H ρ d v) : Dp K H v p := by
  unfold toPd at e
  split at e
  · rename_i n
    split at e
    · rename_i ds q
      simp only [Option.map_eq_some_iff] at e
      obtain ⟨ps, e2, rfl⟩ := e
      obtain ⟨a, rfl, _, xs, h1, r⟩ := locAt ok h q
      exact .lst (.of h1) (toPs_ok ds ps xs e2 r)
    · cases e
  · exact toP_ok _ _ _ e h
def dEq (x y : D) (st : Store) : Res D := match x, y with
  | .str a, .str b => .ok (.bl (decide (a = b))) st
  | x, y => match toPd x st, toPd y st with
    | some p, some q => if SeqAt.shaped p = true ∧ SeqAt.shaped q = true then .ok (.bl (PyData.eqv p q)) st else .bad
    | _, _ => .bad
def dNe (x y : D) (st : Store) : Res D := match x, y with
  | .str a, .str b => .ok (.bl (!decide (a = b))) st
  | x, y => match toPd x st, toPd y st with
    | some p, some q => if SeqAt.shaped p = true ∧ SeqAt.shaped q = true then .ok (.bl (!PyData.eqv p q)) st else .bad
    | _, _ => .bad
section
variable {X : Cx} {T : Tb}
def rEqS (K : PySem.W.Frag) : R2 := fun x y H Q => rEq x y H Q ∨ rEqD K x y H Q
def rNeS (K : PySem.W.Frag) : R2 := fun x y H Q => rNe x y H Q ∨ rNeD K x y H Q
theorem op_eqS (hu : X.A.units + 64 < cLine) : OpR X (compareOp .Eq) (rEqS X.K) := OpR.or op_eq (op_eqD hu)
theorem op_neS (hu : X.A.units + 64 < cLine) : OpR X (compareOp .NotEq) (rNeS X.K) := OpR.or op_ne (op_neD hu)
theorem str_dec (a b : Str) : decide ((V.str a) = V.str b) = decide (a = b) := by
  rw [Bool.eq_iff_iff, decide_eq_true_iff, decide_eq_true_iff]
  exact ⟨fun e => by cases e; rfl, fun e => by rw [e]⟩
theorem tell_eq : Tell2 X T (rEqS X.K) dEq := by
  intro W σ H ρ st x y v u Q ok rx ry h
  unfold dEq at h
  split at h
  · cases rx; cases ry
    exact .inl ⟨rfl, by rw [str_dec]; exact h.ok ok rfl⟩
  · split at h
    · rename_i p q e1 e2
      split at h
      · rename_i hz
        exact .inr ⟨p, q, toPd_ok ok e1 rx, toPd_ok ok e2 ry, hz.1, hz.2, h.ok ok rfl⟩
      · exact h.elim
    · exact h.elim
theorem tell_ne : Tell2 X T (rNeS X.K) dNe := by
  intro W σ H ρ st x y v u Q ok rx ry h
  unfold dNe at h
  split at h
  · cases rx; cases ry
    exact .inl ⟨rfl, by rw [str_dec]; exact h.ok ok rfl⟩
  · split at h
    · rename_i p q e1 e2
      split at h
      · rename_i hz
        exact .inr ⟨p, q, toPd_ok ok e1 rx, toPd_ok ok e2 ry, hz.1, hz.2, h.ok ok rfl⟩
      · exact h.elim
    · exact h.elim
end
/-! ### < <= > >= over ints, is None -/
def dLt (x y : D) (st : Store) : Res D := match x, y with
  | .int i, .int j => .ok (.bl (decide (i < j))) st
  | .str a, .str b => .ok (.bl (decide (a.cps.toList < b.cps.toList))) st
  | _, _ => .bad
def dLe (x y : D) (st : Store) : Res D := match x, y with
  | .int i, .int j => .ok (.bl (decide (i ≤ j))) st
  | _, _ => .bad
def dGt (x y : D) (st : Store) : Res D := match x, y with
  | .int i, .int j => .ok (.bl (decide (j < i))) st
  | _, _ => .bad
def dGe (x y : D) (st : Store) : Res D := match x, y with
  | .int i, .int j => .ok (.bl (decide (j ≤ i))) st
  | _, _ => .bad
def isN : D → Bool
  | .non => true
  | _ => false
def dIsN (x y : D) (st : Store) : Res D := match y with
  | .non => .ok (.bl (isN x)) st
  | _ => .bad
def dNotN (x y : D) (st : Store) : Res D := match y with
  | .non => .ok (.bl (!isN x)) st
  | _ => .bad
section
variable {X : Cx} {T : Tb}
def rLtD : R2 := fun x y H Q => (∃ i j, x = .int i ∧ y = .int j ∧ Q (.bl (decide (i < j))) H) ∨ (∃ i j, x = .str i ∧ y = .str j ∧ Q (.bl (decide (i.cps.toList < j.cps.toList))) H)
theorem op_ltD : OpR X (compareOp .Lt) rLtD := op_lt.or op_lt_str
theorem tell_lt : Tell2 X T rLtD dLt := by
  intro W σ H ρ st x y v u Q ok rx ry h
  unfold dLt at h
  split at h
  · cases rx; cases ry; exact .inl ⟨_, _, rfl, rfl, h.ok ok rfl⟩
  · cases rx; cases ry; exact .inr ⟨_, _, rfl, rfl, h.ok ok rfl⟩
  · exact h.elim
theorem tell_le : Tell2 X T (rI0 fun i j => .bl (decide (i ≤ j))) dLe := by
  intro W σ H ρ st x y v u Q ok rx ry h
  unfold dLe at h
  split at h
  · cases rx; cases ry; exact ⟨_, _, rfl, rfl, h.ok ok rfl⟩
  · exact h.elim
theorem tell_gt : Tell2 X T (rI0 fun i j => .bl (decide (j < i))) dGt := by
  intro W σ H ρ st x y v u Q ok rx ry h
  unfold dGt at h
  split at h
  · cases rx; cases ry; exact ⟨_, _, rfl, rfl, h.ok ok rfl⟩
  · exact h.elim
theorem tell_ge : Tell2 X T (rI0 fun i j => .bl (decide (j ≤ i))) dGe := by
  intro W σ H ρ st x y v u Q ok rx ry h
  unfold dGe at h
  split at h
  · cases rx; cases ry; exact ⟨_, _, rfl, rfl, h.ok ok rfl⟩
  · exact h.elim
theorem isN_ok {K : PySem.W.Frag} {H : Hp} {ρ : Wo} : ∀ {d : D} {v : V}, R K H ρ d v → decide (v = .non) = isN d
  | .non, _, h => by cases h; rfl
  | .bl _, _, h => by cases h; rfl
  | .int _, _, h => by cases h; rfl
  | .str _, _, h => by cases h; rfl
  | .ref _, _, h => by cases h; rfl
  | .ty _, _, h => by cases h; rfl
  | .tup _, _, ⟨_, _, e, _⟩ => by subst e; rfl
  | .fl _, _, ⟨_, _, e, _⟩ => by subst e; rfl
  | .rl _, _, ⟨_, _, _, e, _⟩ => by subst e; rfl
  | .loc _, _, ⟨_, e, _⟩ => by subst e; rfl
  | .obj _ _ _, _, ⟨_, _, _, e, _⟩ => by subst e; rfl
theorem tell_isN : Tell2 X T (fun x y H Q => y = .non ∧ Q (.bl (decide (x = .non))) H) dIsN := by
  intro W σ H ρ st x y v u Q ok rx ry h
  unfold dIsN at h
  split at h
  · cases ry; exact ⟨rfl, by rw [isN_ok rx]; exact h.ok ok rfl⟩
  · exact h.elim
theorem tell_notN : Tell2 X T (fun x y H Q => y = .non ∧ Q (.bl (!decide (x = .non))) H) dNotN := by
  intro W σ H ρ st x y v u Q ok rx ry h
  unfold dNotN at h
  split at h
  · cases ry; exact ⟨rfl, by rw [isN_ok rx]; exact h.ok ok rfl⟩
  · exact h.elim
end
/-! ### in, not in: flat things in a list or tuple -/
def fV : D → Option V
  | .non => some .non
  | .bl b => some (.bl b)
  | .int i => some (.int i)
  | .str x => some (.str x)
  | _ => none
def fVs : List D → Option (List V)
  | [] => some []
  | d :: ds => match fV d, fVs ds with
    | some v, some vs => some (v :: vs)
    | _, _ => none
theorem fV_ok {K : PySem.W.Frag} {H : Hp} {ρ : Wo} {d : D} {v w : V} (e : fV d = some w) (h : R K H ρ d v) : v = w ∧ flatV w = true := by
  cases d <;> simp only [fV] at e <;> first | (cases e; done) | (cases e; cases h; exact ⟨rfl, rfl⟩)
theorem fVs_ok {K : PySem.W.Frag} {H : Hp} {ρ : Wo} : ∀ {ds : List D} {vs ws : List V}, fVs ds = some ws → RL K H ρ ds vs → vs = ws ∧ ws.all flatV = true
  | [], _, _, e, h => by cases e; cases h; exact ⟨rfl, rfl⟩
  | d :: ds, _, _, e, ⟨v, r, e1, h1, h2⟩ => by
    simp only [fVs] at e
    split at e
    · rename_i w ws q1 q2
      cases e
      obtain ⟨a1, a2⟩ := fV_ok q1 h1
      obtain ⟨b1, b2⟩ := fVs_ok q2 h2
      subst e1 a1 b1
      exact ⟨rfl, by rw [List.all_cons, a2, b2]; rfl⟩
    · cases e
/-- the items of a list or a tuple -/
def sqOf : D → Store → Option (List D)
  | .tup xs, _ => some xs
  | d, st => lsOf d st
theorem sqAt {K : PySem.W.Frag} {T : Tb} {H : Hp} {ρ : Wo} {st : Store} (ok : Ok K T H ρ st) {d : D} {v : V} {ds : List D} (h : R K H ρ d v) (e : sqOf d st = some ds) : ∃ a xs, v = .ref a ∧ (SqL K H a xs ∨ SqT K H a xs) ∧ RL K H ρ ds xs := by
  unfold sqOf at e
  split at e
  · cases e
    obtain ⟨a, xs, e, s, r⟩ := tupAt h
    exact ⟨a, xs, e, .inr s, r⟩
  · obtain ⟨a, xs, e, s, r⟩ := lsAt ok h e
    exact ⟨a, xs, e, .inl s, r⟩
def occ (j i : Str) : Bool := !(Builtin.Str.occurrences j i 0 j.length 1).isEmpty
def dIn (neg : Bool) (x y : D) (st : Store) : Res D := match x, y with
  | .str i, .str j => .ok (.bl (if neg then !(occ j i) else occ j i)) st
  | x, y => match sqOf y st with
    | some ys => match fV x, fVs ys with
      | some v, some vs => .ok (.bl (if neg then !inV v vs else inV v vs)) st
      | _, _ => .bad
    | _ => .bad
section
variable {X : Cx} {T : Tb}
def rInD (K : PySem.W.Frag) (neg : Bool) : R2 := fun x y H Q => (∃ i j, x = .str i ∧ y = .str j ∧ Q (.bl (if neg then !(occ j i) else occ j i)) H) ∨ rIn K neg x y H Q
theorem op_inD : OpR X (compareOp .In) (rInD X.K false) := OpR.or (op_in_str) op_in_seq
theorem op_notInD : OpR X (compareOp .NotIn) (rInD X.K true) := OpR.or (op_notIn_str) op_notIn_seq
theorem tell_in {neg : Bool} : Tell2 X T (rInD X.K neg) (dIn neg) := by
  intro W σ H ρ st x y v u Q ok rx ry h
  unfold dIn at h
  split at h
  · cases rx; cases ry
    exact .inl ⟨_, _, rfl, rfl, h.ok ok rfl⟩
  · split at h
    · rename_i ys e1
      split at h
      · rename_i w ws e2 e3
        obtain ⟨a, xs, rfl, s, r⟩ := sqAt ok ry e1
        obtain ⟨rfl, f1⟩ := fV_ok e2 rx
        obtain ⟨rfl, f2⟩ := fVs_ok e3 r
        exact .inr ⟨a, _, rfl, s, f1, f2, h.ok ok rfl⟩
      · exact h.elim
    · exact h.elim
end
end L3

/-! ### text Ld -/
namespace L3
open PySem PySem.Spec PyProof.Rows L2

section
variable {X : Cx} {T : Tb} {W : WX} {a b c e : Expr} {es rest : List Expr} {ma mb mc me : EM} {mas : AM} {mt mu : TM} {pos p1 p2 : Pos}
/-! ### comparisons in short -/
variable (hu : X.A.units + 64 < cLine)
theorem de_eq (hu : X.A.units + 64 < cLine) (ha : DE X T W a ma) (hb : DE X T W b mb) : DE X T W (.Compare a [.Eq] [b] pos) (e2 dEq ma mb) := de_cmp (op_eqS hu) tell_eq ha hb
theorem de_ne (hu : X.A.units + 64 < cLine) (ha : DE X T W a ma) (hb : DE X T W b mb) : DE X T W (.Compare a [.NotEq] [b] pos) (e2 dNe ma mb) := de_cmp (op_neS hu) tell_ne ha hb
theorem de_lt (ha : DE X T W a ma) (hb : DE X T W b mb) : DE X T W (.Compare a [.Lt] [b] pos) (e2 dLt ma mb) := de_cmp op_ltD tell_lt ha hb
theorem de_le (ha : DE X T W a ma) (hb : DE X T W b mb) : DE X T W (.Compare a [.LtE] [b] pos) (e2 dLe ma mb) := de_cmp op_le tell_le ha hb
theorem de_gt (ha : DE X T W a ma) (hb : DE X T W b mb) : DE X T W (.Compare a [.Gt] [b] pos) (e2 dGt ma mb) := de_cmp op_gt tell_gt ha hb
theorem de_ge (ha : DE X T W a ma) (hb : DE X T W b mb) : DE X T W (.Compare a [.GtE] [b] pos) (e2 dGe ma mb) := de_cmp op_ge tell_ge ha hb
theorem de_isN (ha : DE X T W a ma) (hb : DE X T W b mb) : DE X T W (.Compare a [.Is] [b] pos) (e2 dIsN ma mb) := de_cmp op_isN tell_isN ha hb
theorem de_notN (ha : DE X T W a ma) (hb : DE X T W b mb) : DE X T W (.Compare a [.IsNot] [b] pos) (e2 dNotN ma mb) := de_cmp op_notN tell_notN ha hb
theorem de_in (ha : DE X T W a ma) (hb : DE X T W b mb) (hm : behindInMarks .In b = false := by rfl) : DE X T W (.Compare a [.In] [b] pos) (e2 (dIn false) ma mb) := de_cmp op_inD tell_in ha hb hm
theorem de_notIn (ha : DE X T W a ma) (hb : DE X T W b mb) (hm : behindInMarks .NotIn b = false := by rfl) : DE X T W (.Compare a [.NotIn] [b] pos) (e2 (dIn true) ma mb) := de_cmp op_notInD tell_in ha hb hm
theorem dt_eq (hu : X.A.units + 64 < cLine) (ha : DE X T W a ma) (hb : DE X T W b mb) : DT X T W (.Compare a [.Eq] [b] pos) (t2 dEq ma mb) := dt_cmp (op_eqS hu) tell_eq ha hb
theorem dt_ne (hu : X.A.units + 64 < cLine) (ha : DE X T W a ma) (hb : DE X T W b mb) : DT X T W (.Compare a [.NotEq] [b] pos) (t2 dNe ma mb) := dt_cmp (op_neS hu) tell_ne ha hb
theorem dt_lt (ha : DE X T W a ma) (hb : DE X T W b mb) : DT X T W (.Compare a [.Lt] [b] pos) (t2 dLt ma mb) := dt_cmp op_ltD tell_lt ha hb
theorem dt_le (ha : DE X T W a ma) (hb : DE X T W b mb) : DT X T W (.Compare a [.LtE] [b] pos) (t2 dLe ma mb) := dt_cmp op_le tell_le ha hb
theorem dt_gt (ha : DE X T W a ma) (hb : DE X T W b mb) : DT X T W (.Compare a [.Gt] [b] pos) (t2 dGt ma mb) := dt_cmp op_gt tell_gt ha hb
theorem dt_ge (ha : DE X T W a ma) (hb : DE X T W b mb) : DT X T W (.Compare a [.GtE] [b] pos) (t2 dGe ma mb) := dt_cmp op_ge tell_ge ha hb
theorem dt_isN (ha : DE X T W a ma) (hb : DE X T W b mb) : DT X T W (.Compare a [.Is] [b] pos) (t2 dIsN ma mb) := dt_cmp op_isN tell_isN ha hb
theorem dt_notN (ha : DE X T W a ma) (hb : DE X T W b mb) : DT X T W (.Compare a [.IsNot] [b] pos) (t2 dNotN ma mb) := dt_cmp op_notN tell_notN ha hb
theorem dt_in (ha : DE X T W a ma) (hb : DE X T W b mb) (hm : behindInMarks .In b = false := by rfl) : DT X T W (.Compare a [.In] [b] pos) (t2 (dIn false) ma mb) := dt_cmp op_inD tell_in ha hb hm
theorem dt_notIn (ha : DE X T W a ma) (hb : DE X T W b mb) (hm : behindInMarks .NotIn b = false := by rfl) : DT X T W (.Compare a [.NotIn] [b] pos) (t2 (dIn true) ma mb) := dt_cmp op_notInD tell_in ha hb hm

/-! ### and, or, not, if -/
def tVal (m : EM) : TM := fun δ st => (m δ st).bind fun x st1 => match x with
  | .bl k => .ok k st1
  | _ => .bad
theorem dt_val (h : DE X T W a ma) (he : ∀ whole, isTrue a X.env whole = (do let v ← whole; standAt a.pos; holding [v] (truthy v)) := by intro _; rfl) : DT X T W a (tVal ma) :=
  ⟨PT.imp (pt_val h.pe he) fun _ _ _ h => rT_of h⟩
def tAndM (t u : TM) : TM := fun δ st => (t δ st).bind fun k st1 => if k = true then u δ st1 else .ok false st1
def tOrM (t u : TM) : TM := fun δ st => (t δ st).bind fun k st1 => if k = true then .ok true st1 else u δ st1
def tNotM (t : TM) : TM := fun δ st => (t δ st).bind fun k st1 => .ok (!k) st1
theorem dw_and1 (h : DT X T W a mt) : DW X T W (.BoolOp .And [a] pos) mt := ⟨pw_and1 h.pt⟩
theorem dw_or1 (h : DT X T W a mt) : DW X T W (.BoolOp .Or [a] pos) mt := ⟨pw_or1 h.pt⟩
theorem dw_and (h : DT X T W a mt) (h2 : DW X T W (.BoolOp .And (b :: rest) pos) mu) : DW X T W (.BoolOp .And (a :: b :: rest) pos) (tAndM mt mu) :=
  ⟨PW.imp (pw_and h.pt h2.pw) fun σ H Q ⟨ρ, δ, st, ok, rs, h⟩ => ⟨ρ, δ, st, ok, rs, Post.bind h fun k st1 k' H1 ρ1 g1 ok1 e h1 => by
    subst e
    cases k with
    | true => exact ⟨ρ1, δ, st1, ok1, rs.go g1, h1⟩
    | false => exact h1.ok ok1 rfl⟩⟩
theorem dw_or (h : DT X T W a mt) (h2 : DW X T W (.BoolOp .Or (b :: rest) pos) mu) : DW X T W (.BoolOp .Or (a :: b :: rest) pos) (tOrM mt mu) :=
  ⟨PW.imp (pw_or h.pt h2.pw) fun σ H Q ⟨ρ, δ, st, ok, rs, h⟩ => ⟨ρ, δ, st, ok, rs, Post.bind h fun k st1 k' H1 ρ1 g1 ok1 e h1 => by
    subst e
    cases k with
    | false => exact ⟨ρ1, δ, st1, ok1, rs.go g1, h1⟩
    | true => exact h1.ok ok1 rfl⟩⟩
theorem DW.dt (h : DW X T W a mt) : DT X T W a mt := ⟨h.pw.pt⟩
theorem dt_not (h : DT X T W a mt) : DT X T W (.UnaryOp .Not a pos) (tNotM mt) :=
  ⟨PT.imp (pt_not h.pt) fun σ H Q ⟨ρ, δ, st, ok, rs, h⟩ => ⟨ρ, δ, st, ok, rs, Post.bind h fun k st1 k' H1 ρ1 g1 ok1 e h1 => by
    subst e
    exact h1.ok ok1 rfl⟩⟩
/-- .. as values: all but the last a bool -/
def eAndM (m n : EM) : EM := fun δ st => (m δ st).bind fun x st1 => match x with
  | .bl k => if k = true then n δ st1 else .ok (.bl false) st1
  | _ => .bad
def eOrM (m n : EM) : EM := fun δ st => (m δ st).bind fun x st1 => match x with
  | .bl k => if k = true then .ok (.bl true) st1 else n δ st1
  | _ => .bad
def eNotM (m : EM) : EM := fun δ st => (m δ st).bind fun x st1 => match x with
  | .bl k => .ok (.bl (!k)) st1
  | _ => .bad
theorem de_one {op : BoolOp} (h : DE X T W a ma) : DE X T W (.BoolOp op [a] pos) ma := ⟨pe_one h.pe⟩
theorem de_and (h : DE X T W a ma) (h2 : DE X T W (.BoolOp .And (b :: rest) pos) mb) : DE X T W (.BoolOp .And (a :: b :: rest) pos) (eAndM ma mb) :=
  ⟨PE.imp (pe_and h.pe h2.pe) fun σ H Q ⟨ρ, δ, st, ok, rs, h⟩ => ⟨ρ, δ, st, ok, rs, Post.bind h fun x st1 v H1 ρ1 g1 ok1 rx h1 => by
    cases x with
    | bl k =>
      cases rx
      cases k with
      | true => exact ⟨true, rfl, by rw [if_pos rfl]; exact ⟨ρ1, δ, st1, ok1, rs.go g1, h1⟩⟩
      | false => exact ⟨false, rfl, by rw [if_neg Bool.false_ne_true]; exact h1.ok ok1 rfl⟩
    | _ => exact h1.elim⟩⟩
theorem de_or (h : DE X T W a ma) (h2 : DE X T W (.BoolOp .Or (b :: rest) pos) mb) : DE X T W (.BoolOp .Or (a :: b :: rest) pos) (eOrM ma mb) :=
  ⟨PE.imp (pe_or h.pe h2.pe) fun σ H Q ⟨ρ, δ, st, ok, rs, h⟩ => ⟨ρ, δ, st, ok, rs, Post.bind h fun x st1 v H1 ρ1 g1 ok1 rx h1 => by
    cases x with
    | bl k =>
      cases rx
      cases k with
      | false => exact ⟨false, rfl, by rw [if_neg Bool.false_ne_true]; exact ⟨ρ1, δ, st1, ok1, rs.go g1, h1⟩⟩
      | true => exact ⟨true, rfl, by rw [if_pos rfl]; exact h1.ok ok1 rfl⟩
    | _ => exact h1.elim⟩⟩
theorem de_not (h : DE X T W a ma) : DE X T W (.UnaryOp .Not a pos) (eNotM ma) :=
  ⟨PE.imp (pe_not h.pe) fun σ H Q ⟨ρ, δ, st, ok, rs, h⟩ => ⟨ρ, δ, st, ok, rs, Post.bind h fun x st1 v H1 ρ1 g1 ok1 rx h1 => by
    cases x with
    | bl k => cases rx; exact ⟨k, rfl, h1.ok ok1 rfl⟩
    | _ => exact h1.elim⟩⟩
def eIf (t : TM) (m n : EM) : EM := fun δ st => (t δ st).bind fun k st1 => if k = true then m δ st1 else n δ st1
theorem de_if {cnd : Expr} (h : DT X T W cnd mt) (ha : DE X T W a ma) (hb : DE X T W b mb) : DE X T W (.IfExp cnd a b pos) (eIf mt ma mb) :=
  ⟨PE.imp (pe_ifExp h.pt ha.pe hb.pe) fun σ H Q ⟨ρ, δ, st, ok, rs, h⟩ => ⟨ρ, δ, st, ok, rs, Post.bind h fun k st1 k' H1 ρ1 g1 ok1 e h1 => by
    subst e
    cases k with
    | true => rw [if_pos rfl]; exact ⟨ρ1, δ, st1, ok1, rs.go g1, h1⟩
    | false => rw [if_neg Bool.false_ne_true]; exact ⟨ρ1, δ, st1, ok1, rs.go g1, h1⟩⟩⟩

/-! ### arguments, displays -/
def aNil : AM := fun _ st => .ok [] st
def aCons (m : EM) (n : AM) : AM := fun δ st => (m δ st).bind fun x st1 => (n δ st1).bind fun xs st2 => .ok (x :: xs) st2
def aStar (m : EM) (n : AM) : AM := fun δ st => (m δ st).bind fun x st1 => match sqOf x st1 with
  | some xs => (n δ st1).bind fun ys st2 => .ok (xs ++ ys) st2
  | _ => .bad
theorem da_nil : DA X T W [] aNil := ⟨PA.imp pa_nil fun σ H Q ⟨ρ, δ, st, ok, rs, h⟩ => h.ok ok rfl⟩
theorem da_cons (h : DE X T W e me) (h2 : DA X T W es mas) (hs : starEach (e :: es) X.env = (false, eval e X.env) :: starEach es X.env := by rfl) : DA X T W (e :: es) (aCons me mas) :=
  ⟨PA.imp (pa_cons h.pe h2.pa hs) fun σ H Q ⟨ρ, δ, st, ok, rs, h⟩ => ⟨ρ, δ, st, ok, rs, Post.bind h fun x st1 v H1 ρ1 g1 ok1 rx h1 =>
    ⟨ρ1, δ, st1, ok1, rs.go g1, Post.bind h1 fun xs st2 vs H2 ρ2 g2 ok2 rxs h2 => h2.ok ok2 ⟨v, vs, rfl, R.go g2 x v rx, rxs⟩⟩⟩⟩
theorem da_star (h : DE X T W e me) (h2 : DA X T W es mas) (hs : starEach (.Starred e p1 :: es) X.env = (true, eval e X.env) :: starEach es X.env := by rfl) : DA X T W (.Starred e p1 :: es) (aStar me mas) :=
  ⟨PA.imp (StX.pa_star h.pe h2.pa hs) fun σ H Q ⟨ρ, δ, st, ok, rs, h⟩ => ⟨ρ, δ, st, ok, rs, Post.bind h fun x st1 v H1 ρ1 g1 ok1 rx h1 => by
    split at h1
    · rename_i xs e1
      obtain ⟨p, vs, rfl, s, r⟩ := sqAt ok1 rx e1
      exact ⟨p, vs, rfl, s.symm, ⟨ρ1, δ, st1, ok1, rs.go g1, Post.bind h1 fun ys st2 us H2 ρ2 g2 ok2 rys h2 => h2.ok ok2 ((RL.go g2 _ _ r).append rys)⟩⟩
    · exact h1.elim⟩⟩
def eTup (m : AM) : EM := fun δ st => (m δ st).bind fun xs st1 => if xs.length ≤ 1000000 then .ok (.tup xs) st1 else .bad
/-- a list that nobody changes, a list that may change -/
def eLst (m : AM) : EM := fun δ st => (m δ st).bind fun xs st1 => if xs.length ≤ 1000000 then .ok (.fl xs) st1 else .bad
theorem de_tup {x1 : Nat} (h : DA X T W es mas) : DE X T W (.Tuple es x1 pos) (eTup mas) :=
  ⟨PE.imp (pe_tup h.pa) fun σ H Q ⟨ρ, δ, st, ok, rs, h⟩ => ⟨ρ, δ, st, ok, rs, Post.bind h fun xs st1 vs H1 ρ1 g1 ok1 rx h1 => by
    split at h1
    · rename_i hz
      exact ⟨line1 (by rw [rx.len]; exact hz), Post.newT ok1 rx h1⟩
    · exact h1.elim⟩⟩
theorem de_lst (h : DA X T W es mas) : DE X T W (.List es pos) (eLst mas) :=
  ⟨PE.imp (pe_lst h.pa) fun σ H Q ⟨ρ, δ, st, ok, rs, h⟩ => ⟨ρ, δ, st, ok, rs, Post.bind h fun xs st1 vs H1 ρ1 g1 ok1 rx h1 => by
    split at h1
    · rename_i hz
      exact ⟨line1 (by rw [rx.len]; exact hz), Post.newL ok1 rx h1⟩
    · exact h1.elim⟩⟩

/-! ### subscripts, slices -/
def dIx (x y : D) (st : Store) : Res D := match y with
  | .int i => match x with
    | .str z => if z.length ≤ 1000000 then (match atI z.cps.toList i with
      | some c => .ok (.str ⟨#[c]⟩) st
      | _ => .bad) else .bad
    | x => match sqOf x st with
      | some xs => match atI xs i with
        | some d => .ok d st
        | _ => .bad
      | _ => .bad
  | _ => .bad
theorem atI_RL {K : PySem.W.Frag} {H : Hp} {ρ : Wo} {ds : List D} {vs : List V} {i : Int} {d : D} (r : RL K H ρ ds vs) (e : atI ds i = some d) : ∃ v, atI vs i = some v ∧ R K H ρ d v := by
  unfold atI at e ⊢
  rw [r.len]
  cases q : ixN ds.length i with
  | none => rw [q] at e; cases e
  | some j =>
    rw [q] at e
    exact r.get e
theorem tell_ix : Tell2 X T (rIx X.K) dIx := by
  intro W σ H ρ st x y v u Q ok rx ry h
  unfold dIx at h
  split at h
  · rename_i i
    cases ry
    split at h
    · rename_i z
      cases rx
      split at h
      · rename_i hz
        split at h
        · rename_i c e1
          exact .inr (.inr ⟨z, i, c, rfl, rfl, line1 hz, e1, h.ok ok rfl⟩)
        · exact h.elim
      · exact h.elim
    · split at h
      · rename_i xs e1
        split at h
        · rename_i d e2
          obtain ⟨p, vs, rfl, s, r⟩ := sqAt ok rx e1
          obtain ⟨w, e3, rw'⟩ := atI_RL r e2
          rcases s with s | s
          · exact .inl ⟨p, vs, i, w, rfl, rfl, s, e3, h.ok ok rw'⟩
          · exact .inr (.inl ⟨p, vs, i, w, rfl, rfl, s, e3, h.ok ok rw'⟩)
        · exact h.elim
      · exact h.elim
  · exact h.elim
theorem de_ix (ha : DE X T W a ma) (hb : DE X T W b mb) (hs : PlainIx b := by exact fun _ _ => rfl) : DE X T W (.Subscript a b pos) (e2 dIx ma mb) :=
  ⟨PE.imp (pe_ix ix_seq ha.pe hb.pe hs) fun _ _ _ h => two tell_ix h⟩
/-- an end of a slice -/
structure DO (X : Cx) (T : Tb) (W : WX) (e : Option Expr) (m : Sl → Store → Res (Option Int)) : Prop where
  po : PO X e fun σ H Q => ∃ ρ δ st, Ok X.K T H ρ st ∧ RS X.K H ρ δ σ ∧ Post X.K T W (fun _ _ a b => a = b) σ H ρ (m δ st) Q
theorem PO.imp {X : Cx} {e : Option Expr} {t t' : TO} (h : PO X e t) (k : ∀ σ H Q, t' σ H Q → t σ H Q) : PO X e t' := ⟨fun pins s σ H Q I q => h.run pins s σ H Q I (k _ _ _ q)⟩
def oNone : Sl → Store → Res (Option Int) := fun _ st => .ok none st
def oSome (m : EM) : Sl → Store → Res (Option Int) := fun δ st => (m δ st).bind fun x st1 => match x with
  | .int i => .ok (some i) st1
  | _ => .bad
theorem do_none : DO X T W none oNone := ⟨PO.imp po_none fun σ H Q ⟨ρ, δ, st, ok, rs, h⟩ => h.ok ok rfl⟩
theorem do_some (h : DE X T W a ma) : DO X T W (some a) (oSome ma) := ⟨PO.imp (po_some h.pe) fun σ H Q ⟨ρ, δ, st, ok, rs, h⟩ => ⟨ρ, δ, st, ok, rs, Post.bind h fun x st1 v H1 ρ1 g1 ok1 rx h1 => by
  cases x with
  | int i => cases rx; exact ⟨i, rfl, h1.ok ok1 rfl⟩
  | _ => exact h1.elim⟩⟩
def cutD {α : Type} (xs : List α) (lo hi : Option Int) : List α := (xs.drop (HT.sIx xs.length 0 lo)).take (HT.sIx xs.length xs.length hi - HT.sIx xs.length 0 lo)
theorem cut_RL {K : PySem.W.Frag} {H : Hp} {ρ : Wo} {ds : List D} {vs : List V} (r : RL K H ρ ds vs) (lo hi : Option Int) : RL K H ρ (cutD ds lo hi) (cutV vs lo hi) := by
  unfold cutD cutV
  rw [r.len]
  exact (r.drop _).take _
def dCut (x : D) (lo hi : Option Int) (st : Store) : Res D := match x with
  | .str z => if z.length ≤ 1000000 then .ok (.str (cutS z lo hi)) st else .bad
  | .tup xs => .ok (.tup (cutD xs lo hi)) st
  | x => match lsOf x st with
    | some xs => .ok (.fl (cutD xs lo hi)) st
    | _ => .bad
def eCut (m : EM) (l h : Sl → Store → Res (Option Int)) : EM := fun δ st => (m δ st).bind fun x st1 => (l δ st1).bind fun lo st2 => (h δ st2).bind fun hi st3 => dCut x lo hi st3
theorem de_cut {lo hi : Option Expr} {ml mh : Sl → Store → Res (Option Int)} (ha : DE X T W a ma) (hl : DO X T W lo ml) (hh : DO X T W hi mh) : DE X T W (.Subscript a (.Slice lo hi none p2) pos) (eCut ma ml mh) := by
  refine ⟨PE.imp (pe_slice (sl_str.or (sl_tupA.or sl_list)) ha.pe hl.po hh.po) fun σ H Q ⟨ρ, δ, st, ok, rs, h⟩ => ⟨ρ, δ, st, ok, rs, Post.bind h fun x st1 v H1 ρ1 g1 ok1 rx h1 =>
    ⟨ρ1, δ, st1, ok1, rs.go g1, Post.bind h1 fun l st2 l' H2 ρ2 g2 ok2 e2 h2 => ⟨ρ2, δ, st2, ok2, (rs.go g1).go g2, Post.bind h2 fun u st3 u' H3 ρ3 g3 ok3 e3 h3 => ?_⟩⟩⟩⟩
  subst e2 e3
  replace rx := R.go g3 x v (R.go g2 x v rx)
  unfold dCut at h3
  split at h3
  · rename_i z
    cases rx
    split at h3
    · rename_i hz
      exact .inl ⟨z, rfl, line1 hz, h3.ok ok3 rfl⟩
    · exact h3.elim
  · rename_i xs
    obtain ⟨p, vs, rfl, s, r⟩ := tupAt rx
    refine .inr (.inl ⟨p, vs, rfl, s, fun e => ?_, fun _ => Post.newT ok3 (cut_RL r l u) h3⟩)
    have : cutD xs l u = xs := by
      rw [r.len] at e
      unfold cutD
      rw [e.1, e.2, List.drop_zero, Nat.sub_zero, List.take_length]
    rw [this] at h3
    exact h3.ok ok3 rx
  · split at h3
    · rename_i xs e1
      obtain ⟨p, vs, rfl, s, r⟩ := lsAt ok3 rx e1
      exact .inr (.inr ⟨p, vs, rfl, s, Post.newL ok3 (cut_RL r l u) h3⟩)
    · exact h3.elim

/-! ### built-ins -/
def TellN (X : Cx) (T : Tb) (r : List V → Hp → VK → Prop) (f : List D → Store → Res D) : Prop :=
  ∀ (W : WX) (σ : L2.St) (H : Hp) (ρ : Wo) (st : Store) (xs : List D) (vs : List V) (Q : VK), Ok X.K T H ρ st → RL X.K H ρ xs vs → Post X.K T W (R X.K) σ H ρ (f xs st) Q → r vs H Q
def eN (f : List D → Store → Res D) (m : AM) : EM := fun δ st => (m δ st).bind fun xs st1 => f xs st1
theorem de_bi {x : Str} {id : String} {r : List V → Hp → VK → Prop} {f : List D → Store → Res D} (hc : CallR X (.builtin id) r) (hf : TellN X T r f) (hg : Gl X x) (hm : X.mg x = none) (hv : bootBuiltins x = some (.builtin id)) (ha : DA X T W (e :: es) mas)
    (hn : x ≠ "__name__" := by decide) (hdb : (x == ("__debug__" : Str)) = false := by decide) (he : starEach (e :: es) X.env = (false, eval e X.env) :: starEach es X.env := by rfl) (hpl : (backTo pos (starEach es X.env)).any (·.1) = false := by rfl) :
    DE X T W (.Call (.Name x p1) (e :: es) [] pos) (eN f mas) :=
  ⟨PE.imp (pe_callB hc hg hm hv ha.pa hn hdb he hpl) fun σ H Q ⟨ρ, δ, st, ok, rs, h⟩ => ⟨ρ, δ, st, ok, rs, Post.bind h fun xs st1 vs H1 ρ1 g1 ok1 rx h1 => hf W σ H1 ρ1 st1 xs vs Q ok1 rx h1⟩⟩
theorem de_bt {x : Str} {id : String} {r : List V → Hp → VK → Prop} {f : List D → Store → Res D} (hc : CallR X (.type id) r) (hf : TellN X T r f) (hg : Gl X x) (hm : X.mg x = none) (hv : bootBuiltins x = some (.type id)) (ha : DA X T W (e :: es) mas)
    (hn : x ≠ "__name__" := by decide) (hdb : (x == ("__debug__" : Str)) = false := by decide) (he : starEach (e :: es) X.env = (false, eval e X.env) :: starEach es X.env := by rfl) (hpl : (backTo pos (starEach es X.env)).any (·.1) = false := by rfl) :
    DE X T W (.Call (.Name x p1) (e :: es) [] pos) (eN f mas) :=
  ⟨PE.imp (pe_callTy hc hg hm hv ha.pa hn hdb he hpl) fun σ H Q ⟨ρ, δ, st, ok, rs, h⟩ => ⟨ρ, δ, st, ok, rs, Post.bind h fun xs st1 vs H1 ρ1 g1 ok1 rx h1 => hf W σ H1 ρ1 st1 xs vs Q ok1 rx h1⟩⟩
end
end L3

/-! ### text Le -/
namespace L3
open PySem PySem.Spec PyProof.Rows L2

/-! ### statements -/
inductive SRes where
  | nx (δ : Sl) (st : Store)
  | rt (d : D) (st : Store)
  | bk (δ : Sl) (st : Store)
  | ct (δ : Sl) (st : Store)
  | err (C : Addr) (p : Option (Str × D)) (δ : Sl) (st : Store)
  | bad
abbrev SM := Sl → Store → SRes
section
variable (K : PySem.W.Frag) (T : Tb) (W : WX)
def PostS (H : Hp) (ρ : Wo) (r : SRes) (Dn : Ends) : Prop := match r with
  | .nx δ st => ∀ σ' H' ρ', Go H ρ H' ρ' → Ok K T H' ρ' st → RS K H' ρ' δ σ' → Dn.nx σ' H'
  | .rt d st => ∀ v H' ρ', Go H ρ H' ρ' → Ok K T H' ρ' st → R K H' ρ' d v → Dn.rt v H'
  | .bk δ st => ∀ σ' H' ρ', Go H ρ H' ρ' → Ok K T H' ρ' st → RS K H' ρ' δ σ' → Dn.bk σ' H'
  | .ct δ st => ∀ σ' H' ρ', Go H ρ H' ρ' → Ok K T H' ρ' st → RS K H' ρ' δ σ' → Dn.ct σ' H'
  | .err C p δ st => ∀ σ' d H' ρ', Go H ρ H' ρ' → Ok K T H' ρ' st → RS K H' ρ' δ σ' → PayR K H' ρ' p d → W (.ref C) d σ' H'
  | .bad => False
def rS (m : SM) : TS := fun Dn σ H => ∃ ρ δ st, Ok K T H ρ st ∧ RS K H ρ δ σ ∧ PostS K T W H ρ (m δ st) Dn
end
structure DS (X : Cx) (T : Tb) (W : WX) (s : Stmt) (m : SM) : Prop where
  ps : PS X s (rS X.K T W m)
structure DB (X : Cx) (T : Tb) (W : WX) (s : List Stmt) (m : SM) : Prop where
  ps : PSs X s (rS X.K T W m)
theorem PS.imp {X : Cx} {e : Stmt} {t t' : TS} (h : PS X e t) (k : ∀ D σ H, t' D σ H → t D σ H) : PS X e t' := ⟨fun pins s σ H D I q => h.run pins s σ H D I (k _ _ _ q)⟩
theorem PSs.imp {X : Cx} {e : List Stmt} {t t' : TS} (h : PSs X e t) (k : ∀ D σ H, t' D σ H → t D σ H) : PSs X e t' := ⟨fun pins s σ H D I q => h.run pins s σ H D I (k _ _ _ q)⟩
section
variable {K : PySem.W.Frag} {T : Tb} {W : WX} {H H1 : Hp} {ρ ρ1 : Wo} {Dn D2 : Ends}
theorem PostS.go {r : SRes} (h : PostS K T W H ρ r Dn) (g : Go H ρ H1 ρ1) : PostS K T W H1 ρ1 r Dn := by
  cases r with
  | nx δ st => exact fun a b c g' => h a b c (g.trans g')
  | rt δ st => exact fun a b c g' => h a b c (g.trans g')
  | bk δ st => exact fun a b c g' => h a b c (g.trans g')
  | ct δ st => exact fun a b c g' => h a b c (g.trans g')
  | err C p δ st => exact fun a b c e g' => h a b c e (g.trans g')
  | bad => exact h
end
/-- an expression, then a statement's end -/
def sBind {α : Type} (r : Res α) (δ : Sl) (f : α → Store → SRes) : SRes := match r with
  | .ok a st => f a st
  | .err C p st => .err C p δ st
  | .bad => .bad
@[simp] theorem sBind_ok {α : Type} (a : α) (st : Store) (δ : Sl) (f : α → Store → SRes) : sBind (.ok a st) δ f = f a st := rfl
@[simp] theorem sBind_err {α : Type} (C : Addr) (p : Option (Str × D)) (st : Store) (δ : Sl) (f : α → Store → SRes) : sBind (.err C p st) δ f = .err C p δ st := rfl
@[simp] theorem sBind_bad {α : Type} (δ : Sl) (f : α → Store → SRes) : sBind (.bad) δ f = .bad := rfl
theorem PostS.bind {K : PySem.W.Frag} {T : Tb} {W : WX} {α β : Type} {Rel : Hp → Wo → α → β → Prop} {σ : L2.St} {δ : Sl} {H : Hp} {ρ : Wo} {r : Res α} {f : α → Store → SRes} {Dn : Ends} {Q1 : β → Hp → Prop}
    (h : PostS K T W H ρ (sBind r δ f) Dn) (rs : RS K H ρ δ σ) (k : ∀ a st b H' ρ', Go H ρ H' ρ' → Ok K T H' ρ' st → Rel H' ρ' a b → PostS K T W H' ρ' (f a st) Dn → Q1 b H') : Post K T W Rel σ H ρ r Q1 := by
  cases r with
  | ok a st => exact fun b H' ρ' g o rel => k a st b H' ρ' g o rel (PostS.go h g)
  | err C p st => exact fun d H' ρ' g o pr => h σ d H' ρ' g o (rs.go g) pr
  | bad => exact h
/-- one statement, then the others -/
def sSeq (m n : SM) : SM := fun δ st => match m δ st with
  | .nx δ' st' => n δ' st'
  | r => r
theorem PostS.seq {K : PySem.W.Frag} {T : Tb} {W : WX} {H : Hp} {ρ : Wo} {m n : SM} {δ : Sl} {st : Store} {Dn : Ends} (h : PostS K T W H ρ (sSeq m n δ st) Dn) :
    PostS K T W H ρ (m δ st) { Dn with nx := rS K T W n Dn } := by
  unfold sSeq at h
  cases q : m δ st with
  | nx δ' st' => rw [q] at h; exact fun σ' H' ρ' g o rs => ⟨ρ', δ', st', o, rs, PostS.go h g⟩
  | rt d st' => rw [q] at h; exact h
  | bk d st' => rw [q] at h; exact h
  | ct d st' => rw [q] at h; exact h
  | err C p d st' => rw [q] at h; exact h
  | bad => rw [q] at h; exact h
section
variable {X : Cx} {T : Tb} {W : WX} {a b c e : Expr} {es : List Expr} {s : Stmt} {ss s1 s2 : List Stmt} {ma mb mc me : EM} {mas : AM} {mt mu : TM} {m n : SM} {pos p1 p2 : Pos}
def sNil : SM := fun δ st => .nx δ st
theorem db_nil : DB X T W [] sNil := ⟨PSs.imp pss_nil fun D σ H ⟨ρ, δ, st, ok, rs, h⟩ => h σ H ρ (Go.refl _ _) ok rs⟩
theorem db_cons (h1 : DS X T W s m) (h2 : DB X T W ss n) : DB X T W (s :: ss) (sSeq m n) :=
  ⟨PSs.imp (pss_cons h1.ps h2.ps) fun D σ H ⟨ρ, δ, st, ok, rs, h⟩ => ⟨ρ, δ, st, ok, rs, PostS.seq h⟩⟩
theorem db_one (h1 : DS X T W s m) : DB X T W [s] m := ⟨pss_one h1.ps⟩
theorem ds_pass : DS X T W (.Pass pos) sNil := ⟨PS.imp ps_pass fun D σ H ⟨ρ, δ, st, ok, rs, h⟩ => h σ H ρ (Go.refl _ _) ok rs⟩
def sBrk : SM := fun δ st => .bk δ st
def sCnt : SM := fun δ st => .ct δ st
theorem ds_break : DS X T W (.Break pos) sBrk := ⟨PS.imp ps_break fun D σ H ⟨ρ, δ, st, ok, rs, h⟩ => h σ H ρ (Go.refl _ _) ok rs⟩
theorem ds_continue : DS X T W (.Continue pos) sCnt := ⟨PS.imp ps_continue fun D σ H ⟨ρ, δ, st, ok, rs, h⟩ => h σ H ρ (Go.refl _ _) ok rs⟩
theorem ds_doc {x : Str} {j : Nat} : DS X T W (.Expr (.Constant (.str x) j p1) pos) sNil := ⟨PS.imp ps_doc fun D σ H ⟨ρ, δ, st, ok, rs, h⟩ => h σ H ρ (Go.refl _ _) ok rs⟩
def sDrop (m : EM) : SM := fun δ st => sBind (m δ st) δ fun _ st1 => .nx δ st1
theorem ds_expr (h : DE X T W e me) (hs : swapsWith e none pos.line X.env = pure false := by rfl) : DS X T W (.Expr e pos) (sDrop me) :=
  ⟨PS.imp (ps_expr h.pe hs) fun D σ H ⟨ρ, δ, st, ok, rs, h⟩ => ⟨ρ, δ, st, ok, rs, PostS.bind h rs fun x st1 v H1 ρ1 g1 ok1 rx h1 => h1 σ H1 ρ1 (Go.refl _ _) ok1 (rs.go g1)⟩⟩
def sRet (m : EM) : SM := fun δ st => sBind (m δ st) δ fun d st1 => .rt d st1
theorem ds_ret (h : DE X T W e me) : DS X T W (.Return (some e) pos) (sRet me) :=
  ⟨PS.imp (ps_ret h.pe) fun D σ H ⟨ρ, δ, st, ok, rs, h⟩ => ⟨ρ, δ, st, ok, rs, PostS.bind h rs fun x st1 v H1 ρ1 g1 ok1 rx h1 => h1 v H1 ρ1 (Go.refl _ _) ok1 rx⟩⟩
def sRetN : SM := fun _ st => .rt .non st
theorem ds_retN : DS X T W (.Return none pos) sRetN := ⟨PS.imp ps_retN fun D σ H ⟨ρ, δ, st, ok, rs, h⟩ => h .non H ρ (Go.refl _ _) ok rfl⟩
def sIf (t : TM) (m n : SM) : SM := fun δ st => sBind (t δ st) δ fun k st1 => if k = true then m δ st1 else n δ st1
theorem ds_if (h : DT X T W c mt) (h1 : DB X T W s1 m) (h2 : DB X T W s2 n) : DS X T W (.If c s1 s2 pos) (sIf mt m n) :=
  ⟨PS.imp (ps_if h.pt h1.ps h2.ps) fun D σ H ⟨ρ, δ, st, ok, rs, h⟩ => ⟨ρ, δ, st, ok, rs, PostS.bind h rs fun k st1 k' H1 ρ1 g1 ok1 e h1 => by
    subst e
    cases k with
    | true => exact ⟨ρ1, δ, st1, ok1, rs.go g1, h1⟩
    | false => exact ⟨ρ1, δ, st1, ok1, rs.go g1, h1⟩⟩⟩
/-! ### targets -/
/-- a store to a target: the value, the slots and the store behind it -/
abbrev GM := D → Sl → Store → SRes
def rG (K : PySem.W.Frag) (T : Tb) (W : WX) (g : GM) : TG := fun v σ H Q => ∃ ρ δ st d, Ok K T H ρ st ∧ RS K H ρ δ σ ∧ R K H ρ d v ∧ PostS K T W H ρ (g d δ st) { nx := Q, rt := fun _ _ => False }
structure DG (X : Cx) (T : Tb) (W : WX) (tg : Expr) (g : GM) : Prop where
  pg : PG X tg (rG X.K T W g)
theorem PG.imp {X : Cx} {e : Expr} {t t' : TG} (h : PG X e t) (k : ∀ v σ H Q, t' v σ H Q → t v σ H Q) : PG X e t' := ⟨fun pins s σ H v u Q I r q => h.run pins s σ H v u Q I r (k _ _ _ _ q)⟩
def gNm (i : Nat) : GM := fun d δ st => .nx (δ.set i (some d)) st
theorem dg_name (i : Nat) {x : Str} (hN : X.N.Nodup) (hi : X.N[i]? = some x := by rfl) (hx : Loc X.env.scope x := by first | exact Or.inl rfl | exact Or.inr rfl) (hf : X.fn x = true ∨ X.env.scope.names.lookup x = some .local := by first | exact .inl rfl | exact .inr rfl) :
    DG X T W (.Name x pos) (gNm i) :=
  ⟨PG.imp (pg_name hN hi hx hf) fun v σ H Q ⟨ρ, δ, st, d, ok, rs, rd, h⟩ => h _ H ρ (Go.refl _ _) ok (rs.set rd)⟩
/-- e to a target -/
def sAsg (m : EM) (g : GM) : SM := fun δ st => sBind (m δ st) δ fun d st1 => match g d δ st1 with
  | .nx δ' st' => .nx δ' st'
  | _ => .bad
theorem ds_asg {g : GM} {tg : Expr} (h : DE X T W e me) (hg : DG X T W tg g) (hs : swapsWithSole [tg] e pos.line X.env = pure false := by rfl) (hw : swappedStores [tg] e X.env = pure none := by rfl) (h1 : (assignEach [tg] X.env).map (·.2) = [assign tg X.env] := by rfl) : DS X T W (.Assign [tg] e pos) (sAsg me g) :=
  ⟨PS.imp (ps_asg h.pe hg.pg hs hw h1) fun D σ H ⟨ρ, δ, st, ok, rs, h⟩ => ⟨ρ, δ, st, ok, rs, PostS.bind h rs fun x st1 v H1 ρ1 g1 ok1 rx h1 => by
    refine ⟨ρ1, δ, st1, x, ok1, rs.go g1, rx, ?_⟩
    cases q : g x δ st1 with
    | nx δ' st' => rw [q] at h1; exact h1
    | _ => rw [q] at h1; exact h1.elim⟩⟩
def sSet (i : Nat) (m : EM) : SM := fun δ st => sBind (m δ st) δ fun d st1 => .nx (δ.set i (some d)) st1
theorem ds_set (i : Nat) {x : Str} (hN : X.N.Nodup) (h : DE X T W e me) (hi : X.N[i]? = some x := by rfl) (hx : Loc X.env.scope x := by first | exact Or.inl rfl | exact Or.inr rfl) (hs : swapsWith e (some (.Name x p1)) pos.line X.env = pure false := by rfl)
    (hf : X.fn x = true ∨ X.env.scope.names.lookup x = some .local := by first | exact .inl rfl | exact .inr rfl) : DS X T W (.Assign [.Name x p1] e pos) (sSet i me) :=
  ⟨PS.imp (ps_set hN hi hx h.pe hs hf) fun D σ H ⟨ρ, δ, st, ok, rs, h⟩ => ⟨ρ, δ, st, ok, rs, PostS.bind h rs fun x st1 v H1 ρ1 g1 ok1 rx h1 => h1 _ H1 ρ1 (Go.refl _ _) ok1 ((rs.go g1).set rx)⟩⟩
end

/-! ### a def -/
mutual
/-- no thing of the store from n0 on is in it -/
def shut (n0 : Nat) : D → Bool
  | .loc n => decide (n < n0)
  | .tup ds => shutL n0 ds
  | .fl ds => shutL n0 ds
  | .rl ds => shutL n0 ds
  | .obj _ _ ds => shutL n0 ds
  | _ => true
def shutL (n0 : Nat) : List D → Bool
  | [] => true
  | d :: ds => shut n0 d && shutL n0 ds
end
def shutC (n0 : Nat) : Cell → Bool
  | .lst ds => shutL n0 ds
  | .dk kds => shutL n0 (kds.map (·.2))
  | .obj _ _ ds => shutL n0 ds
mutual
theorem R.shut {K : PySem.W.Frag} {H : Hp} {ρ : Wo} {n0 : Nat} : ∀ (d : D) (v : V), L3.shut n0 d = true → R K H ρ d v → R K H (ρ.cut n0) d v
  | .non, _, _, h => h
  | .bl _, _, _, h => h
  | .int _, _, _, h => h
  | .str _, _, _, h => h
  | .ref _, _, _, h => h
  | .ty _, _, _, h => h
  | .tup ds, _, c, ⟨a, xs, e, s, r⟩ => ⟨a, xs, e, s.elim (fun z => .inl ⟨z.1, Wo.cut_has z.2⟩) .inr, RL.shut ds xs c r⟩
  | .fl ds, _, c, ⟨a, xs, e, h, n, r⟩ => ⟨a, xs, e, h, Wo.cut_has n, RL.shut ds xs c r⟩
  | .rl ds, _, c, ⟨a, o, xs, e, h, n, r⟩ => ⟨a, o, xs, e, h, Wo.cut_has n, RL.shut ds xs c r⟩
  | .loc n, _, c, ⟨a, e, h⟩ => ⟨a, e, by show (ρ.m.take n0)[n]? = some a; rw [List.getElem?_take_of_lt (of_decide_eq_true c)]; exact h⟩
  | .obj C ns ds, _, c, ⟨a, dx, xs, e, h, n, l, r⟩ => ⟨a, dx, xs, e, h, Wo.cut_has n, l, RL.shut ds xs c r⟩
theorem RL.shut {K : PySem.W.Frag} {H : Hp} {ρ : Wo} {n0 : Nat} : ∀ (ds : List D) (vs : List V), shutL n0 ds = true → RL K H ρ ds vs → RL K H (ρ.cut n0) ds vs
  | [], _, _, h => h
  | d :: ds, _, c, ⟨v, r, e, h1, h2⟩ => by
    rw [shutL, Bool.and_eq_true] at c
    exact ⟨v, r, e, R.shut d v c.1 h1, RL.shut ds r c.2 h2⟩
end
theorem CellR.shut {K : PySem.W.Frag} {H : Hp} {ρ : Wo} {n0 : Nat} {a : Addr} : ∀ (c : Cell), shutC n0 c = true → CellR K H ρ a c → CellR K H (ρ.cut n0) a c
  | .lst ds, c, ⟨xs, h, r⟩ => ⟨xs, h, RL.shut _ _ c r⟩
  | .dk kds, c, ⟨kxs, h, e, r⟩ => ⟨kxs, h, e, RL.shut _ _ c r⟩
  | .obj C ns ds, c, ⟨dx, xs, h, l, r⟩ => ⟨dx, xs, h, l, RL.shut _ _ c r⟩
theorem Ok.shut {K : PySem.W.Frag} {T : Tb} {H : Hp} {ρ : Wo} {st : Store} {n0 : Nat} (ok : Ok K T H ρ st) (c : (st.take n0).all (shutC n0) = true) (al : T.Al K H (ρ.cut n0)) : Ok K T H (ρ.cut n0) (st.take n0) := by
  refine ⟨by show (ρ.m.take n0).length = _; rw [List.length_take, List.length_take, ok.len], ok.nd.sublist (List.take_sublist _ _), fun n a x h1 h2 => ?_, ok.tab, fun a ha => ⟨(ok.ext a ha).1, fun z => (ok.ext a ha).2 (List.mem_of_mem_take z)⟩, al⟩
  replace h1 : (ρ.m.take n0)[n]? = some a := h1
  have hn : n < n0 := by
    have := (List.getElem?_eq_some_iff.mp h1).1
    rw [List.length_take] at this
    omega
  have hm := List.mem_of_getElem? h2
  rw [List.getElem?_take_of_lt hn] at h1 h2
  exact (ok.cell n a x h1 h2).shut x (List.all_eq_true.mp c x hm)
/-- what leaves a def that began with n0 things: what it made itself and nobody holds goes, a list that it gives back is one that nobody changes -/
def leave (n0 : Nat) (d : D) (st : Store) : Res D :=
  if st.length = n0 then .ok d st
  else if (st.take n0).all (shutC n0) = true then
    match d with
    | .loc n => if n < n0 then .ok d (st.take n0) else match st[n]? with
      | some (.lst xs) => if shutL n0 xs = true then .ok (.fl xs) (st.take n0) else .bad
      | some (.obj C ns xs) => if shutL n0 xs = true then .ok (.obj C ns xs) (st.take n0) else .bad
      | _ => .bad
    | d => if shut n0 d = true then .ok d (st.take n0) else .bad
  else .bad
/-- .. and keeps a list, an instance that it gives back as one that may change: it is the n0-th then -/
def leaveN (n0 : Nat) (d : D) (st : Store) : Res D := match d with
  | .loc n => if n = n0 ∧ st.length = n0 + 1 then .ok d st else .bad
  | _ => .bad
def payShut (n0 : Nat) : Option (Str × D) → Bool
  | none => true
  | some (_, d) => shut n0 d
def leaveE (n0 : Nat) (C : Addr) (p : Option (Str × D)) (st : Store) : Res D :=
  if st.length = n0 then .err C p st
  else if (st.take n0).all (shutC n0) = true ∧ payShut n0 p = true then .err C p (st.take n0) else .bad
def endF (lv : Nat → D → Store → Res D) (n0 : Nat) (r : SRes) : Res D := match r with
  | .nx _ st => lv n0 .non st
  | .rt d st => lv n0 d st
  | .err C p _ st => leaveE n0 C p st
  | _ => .bad
/-- a way to leave is sound -/
def Leaves (lv : Nat → D → Store → Res D) : Prop := ∀ (K : PySem.W.Frag) (T : Tb) (W : WX) (σ : L2.St) (H0 H : Hp) (ρ0 ρ : Wo) (d : D) (v : V) (st : Store) (Q : VK),
  T.Al K H0 ρ0 → Go H0 ρ0 H ρ → Ok K T H ρ st → R K H ρ d v → Post K T W (R K) σ H0 ρ0 (lv ρ0.m.length d st) Q → Q v H
theorem Go.cut {H H1 : Hp} {ρ ρ1 : Wo} (g : Go H ρ H1 ρ1) : Go H ρ H1 (ρ1.cut ρ.m.length) := by
  obtain ⟨new, e, f⟩ := id g.pre
  exact ⟨⟨[], by show ρ1.m.take _ = _; rw [e]; simp, by simp⟩, g.ex, g.keep, g.there⟩
theorem leaves_leave : Leaves leave := by
  intro K T W σ H0 H ρ0 ρ d v st Q al0 g ok r h
  unfold leave at h
  split at h
  · exact h v H ρ g ok r
  · split at h
    · rename_i hc
      have ok2 := ok.shut hc (al0.go g.cut)
      split at h
      · rename_i n
        split at h
        · rename_i hn
          exact h v H _ g.cut ok2 (R.shut (.loc n) v (decide_eq_true hn) r)
        · rename_i hn
          have notin : ∀ a, ρ.m[n]? = some a → ¬ (ρ.cut ρ0.m.length).has a := fun a ha m => by
            rcases m with m | m
            rotate_left
            · exact (ok.ext a m).2 (List.mem_of_getElem? ha)
            replace m : a ∈ ρ.m.take ρ0.m.length := m
            obtain ⟨j, hj, e⟩ := List.getElem_of_mem m
            rw [List.length_take] at hj
            rw [List.getElem_take] at e
            have h1 : ρ.m[j]? = some a := by rw [← e]; exact List.getElem?_eq_getElem (by omega)
            obtain ⟨l1, e1⟩ := List.getElem?_eq_some_iff.mp h1
            obtain ⟨l2, e2⟩ := List.getElem?_eq_some_iff.mp ha
            have := (List.getElem_inj ok.nd).mp (e1.trans e2.symm)
            omega
          split at h
          · rename_i xs q
            split at h
            · rename_i hs
              obtain ⟨a, rfl, ha, ys, h1, r1⟩ := locAt ok r q
              exact h _ H _ g.cut ok2 ⟨a, ys, rfl, h1, notin a ha, RL.shut _ _ hs r1⟩
            · exact h.elim
          · rename_i C ns xs q
            split at h
            · rename_i hs
              obtain ⟨a, rfl, ha, dx, ys, h1, l1, r1⟩ := locAt ok r q
              exact h _ H _ g.cut ok2 ⟨a, dx, ys, rfl, h1, notin a ha, l1, RL.shut _ _ hs r1⟩
            · exact h.elim
          · exact h.elim
      · split at h
        · rename_i hs
          exact h v H _ g.cut ok2 (R.shut _ v hs r)
        · exact h.elim
    · exact h.elim
theorem leaves_leaveN : Leaves leaveN := by
  intro K T W σ H0 H ρ0 ρ d v st Q al0 g ok r h
  unfold leaveN at h
  split at h
  · split at h
    · exact h v H ρ g ok r
    · exact h.elim
  · exact h.elim
theorem leaveE_ok {K : PySem.W.Frag} {T : Tb} {W : WX} {σ : L2.St} {H0 H : Hp} {ρ0 ρ : Wo} {C : Addr} {p : Option (Str × D)} {dd : Option Addr} {st : Store} {Q : VK}
    (al0 : T.Al K H0 ρ0) (g : Go H0 ρ0 H ρ) (ok : Ok K T H ρ st) (r : PayR K H ρ p dd) (h : Post K T W (R K) σ H0 ρ0 (leaveE ρ0.m.length C p st) Q) : W (.ref C) dd σ H := by
  unfold leaveE at h
  split at h
  · exact h dd H ρ g ok r
  · split at h
    · rename_i hc
      refine h dd H _ g.cut (ok.shut hc.1 (al0.go g.cut)) ?_
      cases p with
      | none => exact r
      | some fd =>
        obtain ⟨f, d⟩ := fd
        obtain ⟨dx, v, e, h1, n, r1⟩ := r
        exact ⟨dx, v, e, h1, Wo.cut_has n, R.shut d v hc.2 r1⟩
    · exact h.elim

/-- a def's promise by data: it does what mf does -/
structure FnD (P : Program) (w : World) (K : PySem.W.Frag) (mg : Str → Option Value) (base : Heap) (tabs : List NdefX.NTab) (k : Nat) (f : Addr) (fd : FuncData) (ps : List Str) (mf : List D → Store → Res D) : Prop where
  len : ∀ ds st, ds.length ≠ ps.length → mf ds st = .bad
  run : ∀ (T : Tb) (A : Around) (outer : List Env) (s : Shared) (H : Hp) (args : Args) (us : List Value) (vs : List V) (ds : List D) (ρ : Wo) (st : Store) (Q : VK) (E : XK), T.tabs = tabs → Room k A → A.guards = some [] → Env0 P w K mg base A outer s H → BindsTo s fd args (ps.zip us) → Vals vs us →
    Ok K T H ρ st → RL K H ρ ds vs → Post K T (fun c d _ H => E c d H) (R K) [] H ρ (mf ds st) Q → codeAny (model P w) A (.call (.ref f) args) (L2.CR (L2.CX P w) outer P w H s Q E) s
theorem FnD.mono {P : Program} {w : World} {K : PySem.W.Frag} {mg : Str → Option Value} {base : Heap} {tabs : List NdefX.NTab} {j k : Nat} {f : Addr} {fd : FuncData} {ps : List Str} {mf : List D → Store → Res D} (F : FnD P w K mg base tabs j f fd ps mf) (h : j ≤ k) : FnD P w K mg base tabs k f fd ps mf :=
  ⟨F.len, fun T A outer s H args us vs ds ρ st Q E ht hr => F.run T A outer s H args us vs ds ρ st Q E ht (hr.mono h)⟩
/-- the slots at the beginning -/
def beg (n : Nat) (ds : List D) : Sl := ds.map some ++ List.replicate (n - ds.length) none
/-- what a def of n slots and k parameters does, by its body -/
def fnM (lv : Nat → D → Store → Res D) (n k : Nat) (m : SM) (ds : List D) (st : Store) : Res D := if ds.length = k then endF lv st.length (m (beg n ds) st) else .bad
theorem RS.beg {K : PySem.W.Frag} {H : Hp} {ρ : Wo} {ds : List D} {vs : List V} {N : List Str} (r : RL K H ρ ds vs) : RS K H ρ (L3.beg N.length ds) (L2.start N vs) := by
  unfold L3.beg L2.start
  refine ⟨by simp only [List.length_append, List.length_map, List.length_replicate, r.len], fun i d e => ?_⟩
  by_cases hi : i < ds.length
  · rw [List.getElem?_append_left (by rw [List.length_map]; exact hi), List.getElem?_map] at e
    cases q : ds[i]? with
    | none => rw [q] at e; cases e
    | some d' =>
      rw [q] at e
      cases e
      obtain ⟨v, h1, h2⟩ := r.get q
      exact ⟨v, by rw [List.getElem?_append_left (by rw [List.length_map, r.len]; exact hi), List.getElem?_map, h1]; rfl, h2⟩
  · rw [List.getElem?_append_right (by rw [List.length_map]; omega), List.getElem?_replicate] at e
    split at e <;> cases e
/-- the code object of the function at f -/
def codeOf (K : PySem.W.Frag) (f : Addr) : Option Value := match K.lookup f with
  | some ⟨_, _, .func fd, _⟩ => some fd.code
  | _ => none
/-- THE RULE for a def: its body -/
theorem FnD.of {P : Program} {w : World} {K : PySem.W.Frag} {mg : Str → Option Value} {base : Heap} {tabs : List NdefX.NTab} {x qual : Str} {stm : Stmt} {f : Addr} {fd : FuncData} {N ps : List Str} {k n kp : Nat} {m : SM} {lv : Nat → D → Store → Res D}
    (F : Fun K x qual stm f fd) (S : FnScope N ps (defScope stm)) (hn : N.length = n) (hp : ps.length = kp) (hl : Leaves lv)
    (hbody : ∀ (T : Tb) (cdv : Value) (A : Around) (outer : List Env) (s : Shared) (H : Hp) (E : XK) (X : Cx), T.tabs = tabs → codeOf K f = some cdv → X = cxOf (L2.CX P w) P w K mg base N qual (defScope stm) f cdv A outer s H E → Room k X.A → X.A.guards = some [] →
      Takes X (fun c d _ H => E c d H) → PassesOwn (model X.prog X.w) X.A X.env X.xe → DB X T (fun c d _ H => E c d H) (defBody stm) m) : FnD P w K mg base tabs (k + 1) f fd ps (fnM lv n kp m) := by
  subst hn hp
  refine ⟨fun ds st h => if_neg h, fun T A outer s H args us vs ds ρ st Q E hT hr hg e0 hb r ok rd h => ?_⟩
  have hlen : ds.length = ps.length := by
    by_cases q : ds.length = ps.length
    · exact q
    · rw [show fnM lv N.length ps.length m ds st = .bad from if_neg q] at h
      exact h.elim
  rw [show fnM lv N.length ps.length m ds st = endF lv st.length (m (beg N.length ds) st) from if_pos hlen] at h
  obtain ⟨oc, od, kV, doc, pm, an, cdv, ct, osl, rfl, lk, hcd⟩ := F.ex
  refine LamX.run_ofS (N := N) (ps := ps) (vs := vs) lk hcd S hr e0 hb r (by rw [rd.len, hlen]) fun hr' => ?_
  refine ⟨_, (hbody T cdv A outer s H E _ hT (by unfold codeOf; rw [lk]) rfl hr' hg (takes_of rfl rfl rfl rfl) (passes_of rfl)).ps, ρ, beg N.length ds, st, ok, RS.beg rd, ?_⟩
  rw [← ok.len] at h
  cases q : m (beg N.length ds) st with
  | nx δ' st' =>
    rw [q] at h
    exact fun σ' H' ρ' g o rs => hl _ _ _ _ _ _ _ _ .non .non st' Q ok.al g o rfl h
  | rt d st' =>
    rw [q] at h
    exact fun v H' ρ' g o rd => hl _ _ _ _ _ _ _ _ d v st' Q ok.al g o rd h
  | err C p δ' st' =>
    rw [q] at h
    exact fun σ' d H' ρ' g o rs pr => leaveE_ok (σ := []) ok.al g o pr h
  | bk d st' => rw [q] at h; exact h.elim
  | ct d st' => rw [q] at h; exact h.elim
  | bad => rw [q] at h; exact h.elim
/-! ### calls of defs -/
/-- items by their places -/
def perm {α : Type} (is : List Nat) (l : List α) : List α := is.filterMap fun i => l[i]?
theorem perm_vals {vs : List V} {us : List Value} (r : Vals vs us) : ∀ is : List Nat, Vals (perm is vs) (perm is us)
  | [] => .nil
  | i :: is => by
    unfold perm
    rw [List.filterMap_cons, List.filterMap_cons]
    cases q : vs[i]? with
    | none => rw [Vals.none_of r q]; exact perm_vals r is
    | some v =>
      obtain ⟨u, e, h⟩ := r.get q
      rw [e]
      exact .cons h (perm_vals r is)
theorem perm_RL {K : PySem.W.Frag} {H : Hp} {ρ : Wo} {ds : List D} {vs : List V} (r : RL K H ρ ds vs) : ∀ is : List Nat, RL K H ρ (perm is ds) (perm is vs)
  | [] => rfl
  | i :: is => by
    unfold perm
    rw [List.filterMap_cons, List.filterMap_cons]
    cases q : ds[i]? with
    | none =>
      have : vs[i]? = none := by
        rw [List.getElem?_eq_none_iff] at q ⊢
        rw [r.len]; exact q
      rw [this]; exact perm_RL r is
    | some d =>
      obtain ⟨v, e, h⟩ := r.get q
      rw [e]
      exact ⟨v, _, rfl, h, perm_RL r is⟩
/-- how a call binds: nu values, the keywords ks; is: which of all of them goes to which parameter -/
structure BindD (K : PySem.W.Frag) (fd : FuncData) (ps ks : List Str) (nu : Nat) (is : List Nat) : Prop where
  to : ∀ (s : Shared) (us ws : List Value), K.In s.heap → us.length = nu → ws.length = ks.length → BindsTo s fd ⟨us, ks.zip ws⟩ (ps.zip (perm is (us ++ ws)))
section
variable {X : Cx} {T : Tb} {W : WX} {e : Expr} {es : List Expr} {kws : List Keyword} {me : EM} {mas mks : AM} {pos p1 p2 kpos : Pos} {k : Nat} {f : Addr} {fd : FuncData} {ps ks : List Str} {nu : Nat} {is : List Nat} {mf : List D → Store → Res D} {x : Str} {nm : Option Str}
/-- keywords' values -/
structure DK (X : Cx) (T : Tb) (W : WX) (kws : List Keyword) (m : AM) : Prop where
  pk : PK X kws (rA X.K T W m)
theorem PK.imp {X : Cx} {e : List Keyword} {t t' : TA} (h : PK X e t) (k : ∀ σ H Q, t' σ H Q → t σ H Q) : PK X e t' := ⟨fun pos pins s σ H Q I q => h.run pos pins s σ H Q I (k _ _ _ q)⟩
theorem dk_nil : DK X T W [] aNil := ⟨PK.imp pk_nil fun σ H Q ⟨ρ, δ, st, ok, rs, h⟩ => h.ok ok rfl⟩
theorem dk_cons (h : DE X T W e me) (h2 : DK X T W kws mks) : DK X T W (⟨nm, e, kpos⟩ :: kws) (aCons me mks) :=
  ⟨PK.imp (pk_cons h.pe h2.pk) fun σ H Q ⟨ρ, δ, st, ok, rs, h⟩ => ⟨ρ, δ, st, ok, rs, Post.bind h fun x st1 v H1 ρ1 g1 ok1 rx h1 =>
    ⟨ρ1, δ, st1, ok1, rs.go g1, Post.bind h1 fun xs st2 vs H2 ρ2 g2 ok2 rxs h2 => h2.ok ok2 ⟨v, vs, rfl, R.go g2 x v rx, rxs⟩⟩⟩⟩
/-- the callee runs -/
theorem run_fnD {pins : List (Addr × Obj)} {σ : L2.St} {H : Hp} {s : Shared} {Q : VK} {us ws : List Value} {vs zs : List V} {ds es : List D} {ρ : Wo} {st : Store} (F : FnD X.prog X.w X.K X.mg X.base T.tabs k f fd ps mf) (hr : Room k X.A) (hgd : X.A.guards = some []) (tk : Takes X W)
    (hb : BindD X.K fd ps ks nu is) (I : Inv X pins σ H s) (r : Vals vs us) (rz : Vals zs ws) (l1 : vs.length = nu) (l2 : zs.length = ks.length) (ok : Ok X.K T H ρ st) (rd : RL X.K H ρ ds vs) (re : RL X.K H ρ es zs) (h : Post X.K T W (R X.K) σ H ρ (mf (perm is (ds ++ es)) st) Q) :
    wpAny (model X.prog X.w) X.A (call (.ref f) us (ks.zip ws)) (EP X pins σ Q) X.xe s := by
  refine wpAny_call (codeAny_mono (F.run T X.A X.stack s H ⟨us, ks.zip ws⟩ (perm is (us ++ ws)) (perm is (vs ++ zs)) (perm is (ds ++ es)) ρ st Q (WE W σ) rfl hr hgd I.env0 (hb.to s us ws I.kIn (by rw [← r.length]; exact l1) (by rw [← rz.length]; exact l2))
    (perm_vals (r.append rz) is) ok (perm_RL (rd.append re) is) ?_) fun r s' hq => ?_)
  · cases q : mf (perm is (ds ++ es)) st with
    | ok d st' => rw [q] at h; exact h
    | err C p st' => rw [q] at h; exact fun d H' ρ' g o pr => h d H' ρ' g o pr
    | bad => rw [q] at h; exact h
  · cases r with
    | error e => exact passAt tk σ pins H s e s' I hq
    | ok fl =>
      cases fl with
      | ret u => exact I.after hq
      | next => exact False.elim hq
      | brk => exact False.elim hq
      | cont => exact False.elim hq
def eCall (mf : List D → Store → Res D) (nu nk : Nat) (is : List Nat) (m n : AM) : EM := fun δ st => (m δ st).bind fun xs st1 => (n δ st1).bind fun ys st2 => if xs.length = nu ∧ ys.length = nk then mf (perm is (xs ++ ys)) st2 else .bad
/-- f(e, ..) -/
def eCall1 (mf : List D → Store → Res D) (m : AM) : EM := fun δ st => (m δ st).bind fun xs st1 => mf xs st1
theorem de_call (F : FnD X.prog X.w X.K X.mg X.base T.tabs k f fd ps mf) (hr : Room k X.A) (hgd : X.A.guards = some []) (tk : Takes X W) (hg : Gl X x) (hm : X.mg x = some (.ref f)) (hk : PySem.W.keepIn X.K (.ref f) = true) (hb : Binds X.K fd ps [])
    (ha : DA X T W (e :: es) mas) (hdb : (x == ("__debug__" : Str)) = false := by decide) (he : starEach (e :: es) X.env = (false, eval e X.env) :: starEach es X.env := by rfl) (hpl : (backTo pos (starEach es X.env)).any (·.1) = false := by rfl) :
    DE X T W (.Call (.Name x p1) (e :: es) [] pos) (eCall1 mf mas) := by
  refine ⟨⟨fun pins s σ H Q I ⟨ρ, δ, st, ok, rs, h⟩ => ?_⟩⟩
  refine wpAny_Call_Name_kw (ld_glob I hg hm ?_ hdb)
  refine PySem.W.callWith_K (h₀ := X.base) I.ok.mod.kin hk (thn (ha.pa.run pos pins s σ H (fun vs H1 => ∃ ρ1 ds st1, Ok X.K T H1 ρ1 st1 ∧ RL X.K H1 ρ1 ds vs ∧ Post X.K T W (R X.K) σ H1 ρ1 (mf ds st1) Q) I
    ⟨ρ, δ, st, ok, rs, Post.bind h fun xs st1 vs H1 ρ1 g1 ok1 rx h1 => ⟨ρ1, xs, st1, ok1, rx, h1⟩⟩) fun us s1 ⟨vs, H1, I1, r, ρ1, ds, st1, ok1, rd, h1⟩ => ⟨I1.kIn, ?_⟩) he hpl
  have hlen : ds.length = ps.length := by
    by_cases q : ds.length = ps.length
    · exact q
    · rw [F.len _ _ q] at h1
      exact h1.elim
  refine wpAny_call (codeAny_mono (F.run T X.A X.stack s1 H1 ⟨us, []⟩ us vs ds ρ1 st1 Q (WE W σ) rfl hr hgd I1.env0 ?_ r ok1 rd ?_) fun r s' hq => ?_)
  · have := hb s1 us I1.kIn (by rw [List.append_nil, ← r.length, rd.len, hlen])
    rwa [List.append_nil] at this
  · cases q : mf ds st1 with
    | ok d st' => rw [q] at h1; exact h1
    | err C p st' => rw [q] at h1; exact fun d H' ρ' g o pr => h1 d H' ρ' g o pr
    | bad => rw [q] at h1; exact h1
  · cases r with
    | error e => exact passAt tk σ pins H1 s1 e s' I1 hq
    | ok fl =>
      cases fl with
      | ret u => exact I1.after hq
      | next => exact False.elim hq
      | brk => exact False.elim hq
      | cont => exact False.elim hq
/-- f() -/
theorem de_call0 (F : FnD X.prog X.w X.K X.mg X.base T.tabs k f fd [] mf) (hr : Room k X.A) (hgd : X.A.guards = some []) (tk : Takes X W) (hg : Gl X x) (hm : X.mg x = some (.ref f)) (hk : PySem.W.keepIn X.K (.ref f) = true) (hb : Binds X.K fd [] [])
    (hdb : (x == ("__debug__" : Str)) = false := by decide) : DE X T W (.Call (.Name x p1) [] [] pos) (eCall1 mf aNil) := by
  refine ⟨⟨fun pins s σ H Q I ⟨ρ, δ, st, ok, rs, h1⟩ => ?_⟩⟩
  refine wpAny_Call_Name_kw (ld_glob I hg hm ?_ hdb)
  refine PySem.W.callWith_K0 I.kIn hk ?_
  refine wpAny_call (codeAny_mono (F.run T X.A X.stack s H ⟨[], []⟩ [] [] [] ρ st Q (WE W σ) rfl hr hgd I.env0 (hb s [] I.kIn rfl) .nil ok rfl ?_) fun r s' hq => ?_)
  · replace h1 : Post X.K T W (R X.K) σ H ρ (mf [] st) Q := h1
    cases q : mf [] st with
    | ok d st' => rw [q] at h1; exact h1
    | err C p st' => rw [q] at h1; exact fun d H' ρ' g o pr => h1 d H' ρ' g o pr
    | bad => rw [q] at h1; exact h1
  · cases r with
    | error e => exact passAt tk σ pins H s e s' I hq
    | ok fl =>
      cases fl with
      | ret u => exact I.after hq
      | next => exact False.elim hq
      | brk => exact False.elim hq
      | cont => exact False.elim hq
/-- f(e, .., k = v, ..) -/
theorem de_callK (F : FnD X.prog X.w X.K X.mg X.base T.tabs k f fd ps mf) (hr : Room k X.A) (hgd : X.A.guards = some []) (tk : Takes X W) (hg : Gl X x) (hm : X.mg x = some (.ref f)) (hk : PySem.W.keepIn X.K (.ref f) = true) (hb : BindD X.K fd ps ks nu is)
    (ha : DA X T W (e :: es) mas) (hkw : DK X T W kws mks) (hall : (backToKw pos (keywordEach kws X.env)).all (·.1.isSome) = true := by rfl) (hks : (backToKw pos (keywordEach kws X.env)).filterMap (·.1) = ks := by rfl)
    (hdb : (x == ("__debug__" : Str)) = false := by decide) (he : starEach (e :: es) X.env = (false, eval e X.env) :: starEach es X.env := by rfl)
    (hpl : ((backTo pos (starEach (e :: es) X.env)).any (·.1) || (backToKw pos (keywordEach kws X.env)).any (·.1.isNone)) = false := by rfl) :
    DE X T W (.Call (.Name x p1) (e :: es) kws pos) (eCall mf nu ks.length is mas mks) := by
  refine ⟨⟨fun pins s σ H Q I ⟨ρ, δ, st, ok, rs, h⟩ => ?_⟩⟩
  refine wpAny_Call_Name_kw (ld_glob I hg hm ?_ hdb)
  refine PySem.W.callWith_KW (h₀ := X.base) I.ok.mod.kin hk hall (thn (ha.pa.run pos pins s σ H (fun vs H1 => ∃ ρ1 ds st1, Ok X.K T H1 ρ1 st1 ∧ RS X.K H1 ρ1 δ σ ∧ RL X.K H1 ρ1 ds vs ∧ Post X.K T W (R X.K) σ H1 ρ1 ((mks δ st1).bind fun ys st2 => if ds.length = nu ∧ ys.length = ks.length then mf (perm is (ds ++ ys)) st2 else .bad) Q) I
    ⟨ρ, δ, st, ok, rs, Post.bind h fun xs st1 vs H1 ρ1 g1 ok1 rx h1 => ⟨ρ1, xs, st1, ok1, rs.go g1, rx, h1⟩⟩) fun us s1 ⟨vs, H1, I1, r, ρ1, ds, st1, ok1, rs1, rd, h1⟩ => ?_) hpl he
  refine thn (hkw.pk.run pos pins s1 σ H1 (fun zs H2 => ∃ ρ2 es st2, Ok X.K T H2 ρ2 st2 ∧ RL X.K H2 ρ2 ds vs ∧ RL X.K H2 ρ2 es zs ∧ ds.length = nu ∧ es.length = ks.length ∧ Post X.K T W (R X.K) σ H2 ρ2 (mf (perm is (ds ++ es)) st2) Q) I1
    ⟨ρ1, δ, st1, ok1, rs1, Post.bind h1 fun ys st2 zs H2 ρ2 g2 ok2 ry h2 => ?_⟩) fun ws s2 ⟨zs, H2, I2, rz, ρ2, es, st2, ok2, rd2, re2, l1, l2, h2⟩ => ⟨I2.kIn, ?_⟩
  · split at h2
    · rename_i hl
      exact ⟨ρ2, ys, st2, ok2, RL.go g2 _ _ rd, ry, hl.1, hl.2, h2⟩
    · exact h2.elim
  · rw [hks]
    exact run_fnD F hr hgd tk hb I2 r rz (by rw [rd2.len]; exact l1) (by rw [re2.len]; exact l2) ok2 rd2 re2 h2
/-- f(k = v, ..) -/
theorem de_callK0 (F : FnD X.prog X.w X.K X.mg X.base T.tabs k f fd ps mf) (hr : Room k X.A) (hgd : X.A.guards = some []) (tk : Takes X W) (hg : Gl X x) (hm : X.mg x = some (.ref f)) (hk : PySem.W.keepIn X.K (.ref f) = true) (hb : BindD X.K fd ps ks 0 is)
    (hkw : DK X T W kws mks) (hall : (backToKw pos (keywordEach kws X.env)).all (·.1.isSome) = true := by rfl) (hks : (backToKw pos (keywordEach kws X.env)).filterMap (·.1) = ks := by rfl)
    (hdb : (x == ("__debug__" : Str)) = false := by decide)
    (hpl : ((backTo pos (starEach [] X.env)).any (·.1) || (backToKw pos (keywordEach kws X.env)).any (·.1.isNone)) = false := by rfl) :
    DE X T W (.Call (.Name x p1) [] kws pos) (eCall mf 0 ks.length is aNil mks) := by
  refine ⟨⟨fun pins s σ H Q I ⟨ρ, δ, st, ok, rs, h⟩ => ?_⟩⟩
  refine wpAny_Call_Name_kw (ld_glob I hg hm ?_ hdb)
  refine PySem.W.callWith_KW0 (h₀ := X.base) I.ok.mod.kin hk hall ?_ hpl
  refine thn (hkw.pk.run pos pins s σ H (fun zs H2 => ∃ ρ2 es st2, Ok X.K T H2 ρ2 st2 ∧ RL X.K H2 ρ2 es zs ∧ es.length = ks.length ∧ Post X.K T W (R X.K) σ H2 ρ2 (mf (perm is ([] ++ es)) st2) Q) I
    ⟨ρ, δ, st, ok, rs, Post.bind (f := fun ys st2 => if ([] : List D).length = 0 ∧ ys.length = ks.length then mf (perm is ([] ++ ys)) st2 else .bad) h fun ys st2 zs H2 ρ2 g2 ok2 ry h2 => ?_⟩) fun ws s2 ⟨zs, H2, I2, rz, ρ2, es, st2, ok2, re2, l2, h2⟩ => ⟨I2.kIn, ?_⟩
  · split at h2
    · rename_i hl
      exact ⟨ρ2, ys, st2, ok2, ry, hl.2, h2⟩
    · exact h2.elim
  · rw [hks]
    exact run_fnD (us := []) (vs := []) (ds := []) F hr hgd tk hb I2 .nil rz rfl (by rw [re2.len]; exact l2) ok2 rfl re2 h2
end
end L3

/-! ### text Lf -/
namespace L3
open PySem PySem.Spec PyProof.Rows L2

/-! ### names as targets -/
inductive Nm where
  | one (i : Nat)
  | tup (ts : List Nm)
mutual
def Nm.slots : Nm → List Nat
  | .one i => [i]
  | .tup ts => Nm.slotsL ts
def Nm.slotsL : List Nm → List Nat
  | [] => []
  | t :: ts => t.slots ++ Nm.slotsL ts
end
mutual
/-- the names get a value -/
def Nm.put : Nm → D → Sl → Option Sl
  | .one i, d, δ => some (δ.set i (some d))
  | .tup ts, .tup ds, δ => Nm.putL ts ds δ
  | .tup _, _, _ => none
def Nm.putL : List Nm → List D → Sl → Option Sl
  | [], [], δ => some δ
  | t :: ts, d :: ds, δ => match t.put d δ with
    | some δ' => Nm.putL ts ds δ'
    | none => none
  | _, _, _ => none
end
/-- the rule of the target keeps to it: what is wanted is wanted of any slots that bear it, unlike at its own places alone -/
def rN (K : PySem.W.Frag) (t : Nm) : TG := fun v σ H Q => ∃ T ρ st δ δ' d, Ok K T H ρ st ∧ RS K H ρ δ σ ∧ R K H ρ d v ∧ t.put d δ = some δ' ∧ ∀ σ', RS K H ρ δ' σ' → wipe σ' t.slots = wipe σ t.slots → Q σ' H
structure DN (X : Cx) (tg : Expr) (t : Nm) : Prop where
  pg : PG X tg (rN X.K t)
structure DNs (X : Cx) (tgs : List Expr) (ts : List Nm) : Prop where
  pg : PGs X tgs fun vs σ H Q => ∃ T ρ st δ δ' ds, Ok X.K T H ρ st ∧ RS X.K H ρ δ σ ∧ RL X.K H ρ ds vs ∧ Nm.putL ts ds δ = some δ' ∧ ∀ σ', RS X.K H ρ δ' σ' → wipe σ' (Nm.slotsL ts) = wipe σ (Nm.slotsL ts) → Q σ' H
theorem PGs.imp {X : Cx} {e : List Expr} {t t' : TGs} (h : PGs X e t) (k : ∀ v σ H Q, t' v σ H Q → t v σ H Q) : PGs X e t' := ⟨fun pins s σ H v u Q I r q => h.run pins s σ H v u Q I r (k _ _ _ _ q)⟩
theorem wipe_set (σ : L2.St) (i : Nat) (v : Option V) (is : List Nat) (h : i ∈ is) : wipe (σ.set i v) is = wipe σ is := by
  induction is with
  | nil => cases h
  | cons j js ih =>
    unfold wipe
    by_cases hj : i = j
    · subst hj
      by_cases hm : i ∈ js
      · rw [ih hm]
      · have : ∀ (σ : L2.St) (ks : List Nat), i ∉ ks → wipe (σ.set i v) ks = (wipe σ ks).set i v := by
          intro σ ks hk
          induction ks with
          | nil => rfl
          | cons k ks ihk =>
            unfold wipe
            have h1 : i ≠ k := fun z => hk (by rw [z]; exact List.mem_cons_self)
            have h2 : i ∉ ks := fun z => hk (List.mem_cons_of_mem _ z)
            rw [ihk h2, List.set_comm _ _ h1]
        rw [this σ js hm, List.set_set]
    · rw [ih ((List.mem_cons.mp h).resolve_left hj)]
theorem wipe_app (σ : L2.St) (is js : List Nat) : wipe σ (is ++ js) = wipe (wipe σ js) is := by
  induction is with
  | nil => rfl
  | cons i is ih =>
    show (wipe σ (is ++ js)).set i none = (wipe (wipe σ js) is).set i none
    rw [ih]
theorem wipe_get (σ : L2.St) (is : List Nat) (k : Nat) (hk : k < σ.length) : (wipe σ is)[k]? = if k ∈ is then some none else σ[k]? := by
  induction is with
  | nil => rw [if_neg (by simp)]; rfl
  | cons i is ih =>
    unfold wipe
    by_cases h : i = k
    · subst h
      rw [List.getElem?_set_self (by rw [wipe_length]; exact hk), if_pos List.mem_cons_self]
    · rw [List.getElem?_set_ne h, ih]
      by_cases h2 : k ∈ is
      · rw [if_pos h2, if_pos (List.mem_cons_of_mem _ h2)]
      · rw [if_neg h2, if_neg (fun z => (List.mem_cons.mp z).elim (fun q => h q.symm) h2)]
/-- alike but at some places -/
theorem wipe_len {σ σ' : L2.St} {is : List Nat} (h : wipe σ' is = wipe σ is) : σ'.length = σ.length := by
  have := congrArg List.length h
  rw [wipe_length, wipe_length] at this
  exact this
theorem wipe_mono {σ σ' : L2.St} {is js : List Nat} (h : wipe σ' is = wipe σ is) (hs : ∀ i ∈ is, i ∈ js) : wipe σ' js = wipe σ js := by
  have hl := wipe_len h
  refine List.ext_getElem? fun k => ?_
  by_cases hk : k < σ.length
  · rw [wipe_get _ _ _ hk, wipe_get _ _ _ (by rw [hl]; exact hk)]
    by_cases hj : k ∈ js
    · rw [if_pos hj, if_pos hj]
    · rw [if_neg hj, if_neg hj]
      have this : (wipe σ' is)[k]? = (wipe σ is)[k]? := by rw [h]
      rw [wipe_get _ _ _ hk, wipe_get _ _ _ (by rw [hl]; exact hk), if_neg (fun z => hj (hs k z)), if_neg (fun z => hj (hs k z))] at this
      exact this
  · rw [List.getElem?_eq_none (by rw [wipe_length]; omega), List.getElem?_eq_none (by rw [wipe_length]; omega)]
section
variable {X : Cx} {e : Expr} {es : List Expr} {pos : Pos} {t : Nm} {ts : List Nm}
theorem dn_name (i : Nat) {x : Str} (hN : X.N.Nodup) (hi : X.N[i]? = some x := by rfl) (hx : Loc X.env.scope x := by first | exact Or.inl rfl | exact Or.inr rfl) (hf : X.fn x = true ∨ X.env.scope.names.lookup x = some .local := by first | exact .inl rfl | exact .inr rfl) :
    DN X (.Name x pos) (.one i) :=
  ⟨PG.imp (pg_name hN hi hx hf) fun v σ H Q ⟨T, ρ, st, δ, δ', d, ok, rs, rd, e, h⟩ => by
    cases e
    exact h _ (rs.set rd) (wipe_set _ _ _ _ (by simp [Nm.slots]))⟩
theorem dns_nil : DNs X [] [] := ⟨PGs.imp pgs_nil fun vs σ H Q ⟨T, ρ, st, δ, δ', ds, ok, rs, rd, e, h⟩ => by
  cases ds with
  | nil => cases e; exact ⟨rd, h _ rs rfl⟩
  | cons d ds => cases e⟩
theorem dns_cons (h1 : DN X e t) (h2 : DNs X es ts) (hs : (assignEach (e :: es) X.env).map (·.2) = assign e X.env :: (assignEach es X.env).map (·.2) := by rfl) : DNs X (e :: es) (t :: ts) :=
  ⟨PGs.imp (pgs_cons h1.pg h2.pg hs) fun vs σ H Q ⟨T, ρ, st, δ, δ', ds, ok, rs, rd, e, h⟩ => by
    cases ds with
    | nil => cases e
    | cons d ds =>
      obtain ⟨v, r, rfl, r1, r2⟩ := rd
      simp only [Nm.putL] at e
      split at e
      · rename_i δ1 e1
        refine ⟨v, r, rfl, T, ρ, st, δ, δ1, d, ok, rs, r1, e1, fun σ1 rs1 w1 => ⟨T, ρ, st, δ1, δ', ds, ok, rs1, r2, e, fun σ2 rs2 w2 => h σ2 rs2 ?_⟩⟩
        simp only [Nm.slotsL]
        exact (wipe_mono w2 fun i hi => List.mem_append_right _ hi).trans (wipe_mono w1 fun i hi => List.mem_append_left _ hi)
      · cases e⟩
theorem putL_len : ∀ {ts : List Nm} {ds : List D} {δ δ' : Sl}, Nm.putL ts ds δ = some δ' → ds.length = ts.length
  | [], [], _, _, _ => rfl
  | [], _ :: _, _, _, e => by cases e
  | _ :: _, [], _, _, e => by cases e
  | t :: ts, d :: ds, δ, δ', e => by
    simp only [Nm.putL] at e
    split at e
    · rw [List.length_cons, List.length_cons, putL_len e]
    · cases e
theorem dn_tup {k : Nat} (hc : X.calm = true) (h : DNs X es ts) (hn : (assignEach es X.env).length = ts.length := by rfl) (hst : (assignEach es X.env).findIdx? (·.1) = none := by rfl) : DN X (.Tuple es k pos) (.tup ts) :=
  ⟨PG.imp (pg_tup hc h.pg hn hst) fun v σ H Q ⟨T, ρ, st, δ, δ', d, ok, rs, rd, e, h⟩ => by
    cases d with
    | tup ds =>
      simp only [Nm.put] at e
      obtain ⟨a, xs, rfl, s, r⟩ := tupAt rd
      exact ⟨a, xs, rfl, s, by rw [r.len, putL_len e], T, ρ, st, δ, δ', ds, ok, rs, r, e, h⟩
    | _ => cases e⟩
end
def gNms (t : Nm) : GM := fun d δ st => match t.put d δ with
  | some δ' => .nx δ' st
  | none => .bad
theorem DN.dg {X : Cx} {T : Tb} {W : WX} {tg : Expr} {t : Nm} (h : DN X tg t) : DG X T W tg (gNms t) :=
  ⟨PG.imp h.pg fun v σ H Q ⟨ρ, δ, st, d, ok, rs, rd, h⟩ => by
    unfold gNms at h
    split at h
    · rename_i δ' e
      exact ⟨T, ρ, st, δ, δ', d, ok, rs, rd, e, fun σ' rs' _ => h σ' H ρ (Go.refl _ _) ok rs'⟩
    · exact h.elim⟩

/-! ### what is walked -/
structure Wk where
  items : List D
  keep : Store → Prop
/-- the iterator J gives the items of k, as long as the store keeps what it walks -/
def WkR (K : PySem.W.Frag) (T : Tb) (H : Hp) (ρ : Wo) (k : Wk) (J : It) : Prop :=
  ∃ (dd : List D) (vs : List V) (G : Hp → Prop) (Y : Nat → Hp → V → Hp → Prop), RL K H ρ dd vs ∧ Walk J k.items.length G Y ∧ (∀ H1 ρ1 st1, Ok K T H1 ρ1 st1 → RL K H1 ρ1 dd vs → k.keep st1 → G H1) ∧
    ∀ i d H1 ρ1 st1 x H2, Ok K T H1 ρ1 st1 → RL K H1 ρ1 dd vs → k.keep st1 → k.items[i]? = some d → Y i H1 x H2 → Go H1 ρ1 H2 ρ1 ∧ Ok K T H2 ρ1 st1 ∧ R K H2 ρ1 d x
abbrev IM := Sl → Store → Res Wk
structure DI (X : Cx) (T : Tb) (W : WX) (tg iter : Expr) (m : IM) : Prop where
  pi : PI X tg iter fun σ H Rr => ∃ ρ δ st, Ok X.K T H ρ st ∧ RS X.K H ρ δ σ ∧ Post X.K T W (fun H ρ k J => WkR X.K T H ρ k J) σ H ρ (m δ st) Rr
theorem PI.imp {X : Cx} {tg e : Expr} {t t' : TI} (h : PI X tg e t) (k : ∀ σ H Q, t' σ H Q → t σ H Q) : PI X tg e t' := ⟨fun pins s σ H Q I q => h.run pins s σ H Q I (k _ _ _ q)⟩
theorem piOr {X : Cx} {tg e : Expr} {t u : TI} (h : PI X tg e t) (h' : PI X tg e u) : PI X tg e (fun σ H R => t σ H R ∨ u σ H R) := ⟨fun pins s σ H Q I q => q.elim (h.run pins s σ H Q I) (h'.run pins s σ H Q I)⟩
section
variable {K : PySem.W.Frag} {T : Tb} {H : Hp} {ρ : Wo} {st : Store}
/-- what is walked stands for good, or is the n-th thing -/
def keepOf (d : D) (ds : List D) : Store → Prop := match d with
  | .loc n => fun st => st[n]? = some (.lst ds)
  | _ => fun _ => True
theorem keep_ls {d : D} {ds : List D} {st1 : Store} (e : lsOf d st = some ds) (k : keepOf d ds st1) : lsOf d st1 = some ds := by
  cases d with
  | loc n =>
    have k : st1[n]? = some (.lst ds) := k
    simp only [lsOf, k]
  | _ => exact e
theorem walk_any {a : Addr} {n : Nat} : Walk (Itl K a) n (fun H => ∃ ys, SqL K H a ys ∧ ys.length = n) (fun i H x H' => H' = H ∧ ∀ ys, SqL K H a ys → ys[i]? = some x) :=
  ⟨fun i _ hi ⟨ys, q, e⟩ => ⟨ys, ys[i]'(by omega), q, by simp [show i < ys.length by omega]⟩, fun _ ⟨ys, q, e⟩ => ⟨ys, q, Nat.le_of_eq e⟩, fun _ _ _ _ _ _ y => y⟩
theorem walk_anyE {a : Addr} {n : Nat} : Walk (Ite K a) n (fun H => ∃ ys, SqL K H a ys ∧ ys.length = n) (fun i H v H' => ∃ T x, v = .ref T ∧ H T = none ∧ H' = upd H T (.tup [.int (i : Nat), x]) ∧ ∀ xs, SqL K H a xs → xs[i]? = some x) :=
  ⟨fun i _ hi ⟨ys, q, e⟩ => ⟨ys, ys[i]'(by omega), q, by simp [show i < ys.length by omega]⟩, fun _ ⟨ys, q, e⟩ => ⟨ys, q, Nat.le_of_eq e⟩, fun _ _ _ _ _ _ y => y⟩
theorem walk_anyZ {a b : Addr} {n k : Nat} : Walk (Itz K a b) (min n k) (fun H => ∃ xs ys, SqL K H a xs ∧ SqL K H b ys ∧ xs.length = n ∧ ys.length = k)
    (fun i H v H' => ∃ T x y, v = .ref T ∧ H T = none ∧ H' = upd H T (.tup [x, y]) ∧ (∀ xs, SqL K H a xs → xs[i]? = some x) ∧ ∀ ys, SqL K H b ys → ys[i]? = some y) :=
  ⟨fun i _ hi ⟨xs, ys, p, q, e1, e2⟩ => ⟨xs, ys, xs[i]'(by omega), ys[i]'(by omega), p, q, by simp [show i < xs.length by omega], by simp [show i < ys.length by omega]⟩,
    fun _ ⟨xs, ys, p, q, e1, e2⟩ => ⟨xs, ys, p, q, by omega⟩, fun _ _ _ _ _ _ y => y⟩
theorem walk_anyZT {a b : Addr} {n k : Nat} : Walk (RZ.ItzT K a b) (min n k) (fun H => ∃ xs ys, SqT K H a xs ∧ SqT K H b ys ∧ xs.length = n ∧ ys.length = k)
    (fun i H v H' => ∃ T x y, v = .ref T ∧ H T = none ∧ H' = upd H T (.tup [x, y]) ∧ (∀ xs, SqT K H a xs → xs[i]? = some x) ∧ ∀ ys, SqT K H b ys → ys[i]? = some y) :=
  ⟨fun i _ hi ⟨xs, ys, p, q, e1, e2⟩ => ⟨xs, ys, xs[i]'(by omega), ys[i]'(by omega), p, q, by simp [show i < xs.length by omega], by simp [show i < ys.length by omega]⟩,
    fun _ ⟨xs, ys, p, q, e1, e2⟩ => ⟨xs, ys, p, q, by omega⟩, fun _ _ _ _ _ _ y => y⟩
theorem ref_inj {a b : Addr} (h : V.ref a = V.ref b) : a = b := by cases h; rfl
theorem wk_list {d : D} {a : Addr} {ds : List D} (h : R K H ρ d (.ref a)) (e : lsOf d st = some ds) : WkR K T H ρ ⟨ds, keepOf d ds⟩ (Itl K a) := by
  refine ⟨[d], [.ref a], _, _, ⟨_, _, rfl, h, rfl⟩, walk_any, fun H1 ρ1 st1 o r0 k => ?_, fun i x H1 ρ1 st1 v H2 o r0 k hi hy => ?_⟩
  all_goals
    obtain ⟨_, _, e0, h, _⟩ := r0
    cases e0
    obtain ⟨b, ys, e1, s, r⟩ := lsAt o h (keep_ls e k)
    cases ref_inj e1
  · exact ⟨ys, s, r.len⟩
  · obtain ⟨rfl, hy⟩ := hy
    obtain ⟨w, h1, h2⟩ := r.get hi
    rw [hy ys s] at h1
    cases h1
    exact ⟨Go.refl _ _, o, h2⟩
theorem walk_anyT {a : Addr} {n : Nat} : Walk (Itt K a) n (fun H => ∃ ys, SqT K H a ys ∧ ys.length = n) (fun i H x H' => H' = H ∧ ∀ ys, SqT K H a ys → ys[i]? = some x) :=
  ⟨fun i _ hi ⟨ys, q, e⟩ => ⟨ys, ys[i]'(by omega), q, by simp [show i < ys.length by omega]⟩, fun _ ⟨ys, q, e⟩ => ⟨ys, q, Nat.le_of_eq e⟩, fun _ _ _ _ _ _ y => y⟩
theorem wk_tup {a : Addr} {ds : List D} (h : R K H ρ (.tup ds) (.ref a)) : WkR K T H ρ ⟨ds, fun _ => True⟩ (Itt K a) := by
  refine ⟨[.tup ds], [.ref a], _, _, ⟨_, _, rfl, h, rfl⟩, walk_anyT, fun H1 ρ1 st1 o r0 k => ?_, fun i x H1 ρ1 st1 v H2 o r0 k hi hy => ?_⟩
  all_goals
    obtain ⟨_, _, e0, h, _⟩ := r0
    cases e0
    obtain ⟨b, ys, e1, s, r⟩ := tupAt h
    cases ref_inj e1
  · exact ⟨ys, s, r.len⟩
  · obtain ⟨rfl, hy⟩ := hy
    obtain ⟨w, h1, h2⟩ := r.get hi
    rw [hy ys s] at h1
    cases h1
    exact ⟨Go.refl _ _, o, h2⟩
theorem wk_str {z : Str} : WkR K T H ρ ⟨z.cps.toList.map fun c => .str ⟨#[c]⟩, fun _ => True⟩ (Its z) := by
  refine ⟨[], [], _, _, rfl, by have := walk_str (z := z); rw [show z.cps.size = (z.cps.toList.map fun c => D.str ⟨#[c]⟩).length by simp] at this; exact this, fun H1 ρ1 st1 o _ k => trivial, fun i x H1 ρ1 st1 v H2 o _ k hi hy => ?_⟩
  obtain ⟨rfl, c, e, rfl⟩ := hy
  refine ⟨Go.refl _ _, o, ?_⟩
  simp only [List.getElem?_map, Array.getElem?_toList, e, Option.map_some, Option.some.injEq] at hi
  subst hi
  exact rfl
theorem wk_range {lo : Int} {n : Nat} : WkR K T H ρ ⟨(List.range n).map fun i => .int (lo + (i : Nat)), fun _ => True⟩ (Itr lo n) := by
  refine ⟨[], [], _, _, rfl, by have := walk_range (lo := lo) (n := n); rw [show n = ((List.range n).map fun (i : Nat) => D.int (lo + i)).length by simp] at this; simp only [List.length_map, List.length_range] at this; simp only [List.length_map, List.length_range]; exact this, fun H1 ρ1 st1 o _ k => trivial, fun i x H1 ρ1 st1 v H2 o _ k hi hy => ?_⟩
  obtain ⟨rfl, rfl⟩ := hy
  refine ⟨Go.refl _ _, o, ?_⟩
  have hlt : i < n := by
    have := (List.getElem?_eq_some_iff.mp hi).1
    simpa using this
  simp only [List.getElem?_map, List.getElem?_range hlt, Option.map_some, Option.some.injEq] at hi
  subst hi
  exact rfl
/-- (i, x) at each turn -/
def enumD (k : Nat) : List D → List D
  | [] => []
  | d :: ds => .tup [.int (k : Nat), d] :: enumD (k + 1) ds
theorem enumD_len : ∀ (k : Nat) (ds : List D), (enumD k ds).length = ds.length
  | _, [] => rfl
  | k, _ :: ds => by rw [enumD, List.length_cons, List.length_cons, enumD_len (k + 1) ds]
theorem enumD_get : ∀ (ds : List D) (k i : Nat) (x : D), (enumD k ds)[i]? = some x → ∃ d, ds[i]? = some d ∧ x = .tup [.int ((k + i : Nat) : Int), d]
  | [], _, _, _, h => by simp [enumD] at h
  | d :: ds, k, 0, x, h => by simp [enumD] at h; exact ⟨d, by simp, by rw [← h]; simp⟩
  | d :: ds, k, i + 1, x, h => by
    simp only [enumD, List.getElem?_cons_succ] at h
    obtain ⟨e, h1, h2⟩ := enumD_get ds (k + 1) i x h
    exact ⟨e, by simpa using h1, by rw [h2]; congr 3; omega⟩
/-- a new pair -/
theorem new_pair {H1 : Hp} {ρ1 : Wo} {st1 : Store} {p : Addr} {x y : D} {v u : V} (ok : Ok K T H1 ρ1 st1) (hp : H1 p = none) (rx : R K H1 ρ1 x v) (ry : R K H1 ρ1 y u) :
    Go H1 ρ1 (upd H1 p (.tup [v, u])) ρ1 ∧ Ok K T (upd H1 p (.tup [v, u])) ρ1 st1 ∧ R K (upd H1 p (.tup [v, u])) ρ1 (.tup [x, y]) (.ref p) :=
  ⟨go_new hp, ok.alloc hp, p, [v, u], rfl, .inl ⟨.inl upd_same, ok.new hp⟩, v, [u], rfl, R.go (go_new hp) _ _ rx, u, [], rfl, R.go (go_new hp) _ _ ry, rfl⟩
theorem wk_enum {d : D} {a : Addr} {ds : List D} (h : R K H ρ d (.ref a)) (e : lsOf d st = some ds) : WkR K T H ρ ⟨enumD 0 ds, keepOf d ds⟩ (Ite K a) := by
  refine ⟨[d], [.ref a], _, _, ⟨_, _, rfl, h, rfl⟩, walk_anyE, fun H1 ρ1 st1 o r0 k => ?_, fun i x H1 ρ1 st1 v H2 o r0 k hi hy => ?_⟩
  all_goals
    obtain ⟨_, _, e0, h, _⟩ := r0
    cases e0
    obtain ⟨b, ys, e1, s, r⟩ := lsAt o h (keep_ls e k)
    cases ref_inj e1
  · exact ⟨ys, s, by rw [r.len, enumD_len]⟩
  · obtain ⟨p, y, rfl, hp, rfl, hy⟩ := hy
    obtain ⟨d', h0, rfl⟩ := enumD_get _ _ _ _ hi
    obtain ⟨w, h1, h2⟩ := r.get h0
    rw [hy ys s] at h1
    cases h1
    have := new_pair o hp (x := .int ((0 + i : Nat) : Int)) (v := .int (i : Nat)) (by rw [Nat.zero_add]; exact rfl) h2
    exact this
/-- pairs -/
def zipD : List D → List D → List D
  | x :: xs, y :: ys => .tup [x, y] :: zipD xs ys
  | _, _ => []
theorem zipD_len : ∀ (xs ys : List D), (zipD xs ys).length = min xs.length ys.length
  | [], ys => by simp [zipD]
  | _ :: _, [] => by simp [zipD]
  | x :: xs, y :: ys => by rw [zipD, List.length_cons, zipD_len xs ys, List.length_cons, List.length_cons]; omega
theorem zipD_get : ∀ (xs ys : List D) (i : Nat) (z : D), (zipD xs ys)[i]? = some z → ∃ x y, xs[i]? = some x ∧ ys[i]? = some y ∧ z = .tup [x, y]
  | [], _, _, _, h => by simp [zipD] at h
  | _ :: _, [], _, _, h => by simp [zipD] at h
  | x :: xs, y :: ys, 0, z, h => by simp [zipD] at h; exact ⟨x, y, by simp, by simp, h.symm⟩
  | x :: xs, y :: ys, i + 1, z, h => by
    simp only [zipD, List.getElem?_cons_succ] at h
    obtain ⟨a, b, h1, h2, h3⟩ := zipD_get xs ys i z h
    exact ⟨a, b, by simpa using h1, by simpa using h2, h3⟩
theorem wk_zip {d d' : D} {a b : Addr} {ds es : List D} (h : R K H ρ d (.ref a)) (h' : R K H ρ d' (.ref b)) (e : lsOf d st = some ds) (e' : lsOf d' st = some es) :
    WkR K T H ρ ⟨zipD ds es, fun st => keepOf d ds st ∧ keepOf d' es st⟩ (Itz K a b) := by
  refine ⟨[d, d'], [.ref a, .ref b], _, _, ⟨_, _, rfl, h, _, _, rfl, h', rfl⟩, by have := walk_anyZ (K := K) (a := a) (b := b) (n := ds.length) (k := es.length); rw [← zipD_len ds es] at this; exact this, fun H1 ρ1 st1 o r0 k => ?_, fun i x H1 ρ1 st1 v H2 o r0 k hi hy => ?_⟩
  all_goals
    obtain ⟨_, _, e0, h, _, _, e00, h', _⟩ := r0
    cases e00
    cases e0
    obtain ⟨a', xs, e1, s, r⟩ := lsAt o h (keep_ls e k.1)
    cases ref_inj e1
    obtain ⟨b', ys, e2, s2, r2⟩ := lsAt o h' (keep_ls e' k.2)
    cases ref_inj e2
  · exact ⟨xs, ys, s, s2, r.len, r2.len⟩
  · obtain ⟨p, y, z, rfl, hp, rfl, hy, hz⟩ := hy
    obtain ⟨x1, y1, h0, h00, rfl⟩ := zipD_get _ _ _ _ hi
    obtain ⟨w, q1, q2⟩ := r.get h0
    obtain ⟨w2, q3, q4⟩ := r2.get h00
    rw [hy xs s] at q1
    cases q1
    rw [hz ys s2] at q3
    cases q3
    exact new_pair o hp q2 q4
theorem wk_zipT {a b : Addr} {ds es : List D} (h : R K H ρ (.tup ds) (.ref a)) (h' : R K H ρ (.tup es) (.ref b)) :
    WkR K T H ρ ⟨zipD ds es, fun st => True⟩ (RZ.ItzT K a b) := by
  refine ⟨[.tup ds, .tup es], [.ref a, .ref b], _, _, ⟨_, _, rfl, h, _, _, rfl, h', rfl⟩, by have := walk_anyZT (K := K) (a := a) (b := b) (n := ds.length) (k := es.length); rw [← zipD_len ds es] at this; exact this, fun H1 ρ1 st1 o r0 k => ?_, fun i x H1 ρ1 st1 v H2 o r0 k hi hy => ?_⟩
  all_goals
    obtain ⟨_, _, e0, h, _, _, e00, h', _⟩ := r0
    cases e00
    cases e0
    obtain ⟨a', xs, e1, s, r⟩ := tupAt h
    cases ref_inj e1
    obtain ⟨b', ys, e2, s2, r2⟩ := tupAt h'
    cases ref_inj e2
  · exact ⟨xs, ys, s, s2, r.len, r2.len⟩
  · obtain ⟨p, y, z, rfl, hp, rfl, hy, hz⟩ := hy
    obtain ⟨x1, y1, h0, h00, rfl⟩ := zipD_get _ _ _ _ hi
    obtain ⟨w, q1, q2⟩ := r.get h0
    obtain ⟨w2, q3, q4⟩ := r2.get h00
    rw [hy xs s] at q1
    cases q1
    rw [hz ys s2] at q3
    cases q3
    exact new_pair o hp q2 q4
end
section
variable {X : Cx} {T : Tb} {W : WX} {a b c e e2 : Expr} {tg : Expr} {ma mb me : EM} {pos p1 p2 tpos : Pos}
/-- the items of a list, a tuple, a text -/
def iSeq (m : EM) : IM := fun δ st => (m δ st).bind fun d st1 => match d with
  | .tup ds => .ok ⟨ds, fun _ => True⟩ st1
  | .str z => .ok ⟨z.cps.toList.map fun c => .str ⟨#[c]⟩, fun _ => True⟩ st1
  | d => match lsOf d st1 with
    | some ds => .ok ⟨ds, keepOf d ds⟩ st1
    | none => .bad
theorem di_seq (h : DE X T W e me) : DI X T W tg e (iSeq me) := by
  refine ⟨PI.imp (piOr (pi_list h.pe) (piOr (pi_tup h.pe) (pi_str h.pe))) fun σ H Rr ⟨ρ, δ, st, ok, rs, h⟩ => ?_⟩
  unfold iSeq at h
  cases q : me δ st with
  | bad => rw [q] at h; exact h.elim
  | err C p st1 =>
    rw [q] at h
    exact .inl ⟨ρ, δ, st, ok, rs, by rw [q]; exact h⟩
  | ok d st1 =>
    rw [q, Res.bind_ok] at h
    split at h
    · rename_i ds
      refine .inr (.inl ⟨ρ, δ, st, ok, rs, by
        rw [q]
        intro v H1 ρ1 g1 ok1 rd
        obtain ⟨a, xs, rfl, s, r⟩ := id rd
        exact ⟨a, rfl, ⟨xs, s.sq⟩, h _ H1 ρ1 g1 ok1 (wk_tup rd)⟩⟩)
    · rename_i z
      refine .inr (.inr ⟨ρ, δ, st, ok, rs, by
        rw [q]
        intro v H1 ρ1 g1 ok1 rd
        cases rd
        exact ⟨z, rfl, h _ H1 ρ1 g1 ok1 wk_str⟩⟩)
    · split at h
      · rename_i ds e1
        refine .inl ⟨ρ, δ, st, ok, rs, by
          rw [q]
          intro v H1 ρ1 g1 ok1 rd
          obtain ⟨a, xs, rfl, s, r⟩ := lsAt ok1 rd e1
          exact ⟨a, rfl, ⟨xs, s⟩, h _ H1 ρ1 g1 ok1 (wk_list rd e1)⟩⟩
      · exact h.elim
def rangeD (lo : Int) (n : Nat) : List D := (List.range n).map fun i => .int (lo + (i : Nat))
def iRange1 (m : AM) : IM := fun δ st => (m δ st).bind fun xs st1 => match xs with
  | [.int j] => if -(2 ^ 62) ≤ j ∧ j < 2 ^ 62 then .ok ⟨rangeD 0 j.toNat, fun _ => True⟩ st1 else .bad
  | _ => .bad
def iRange2 (m : AM) : IM := fun δ st => (m δ st).bind fun xs st1 => match xs with
  | [.int i, .int j] => if -(2 ^ 62) ≤ i ∧ i < 2 ^ 62 ∧ -(2 ^ 62) ≤ j ∧ j < 2 ^ 62 then .ok ⟨rangeD i (j - i).toNat, fun _ => True⟩ st1 else .bad
  | _ => .bad
def iEnum (m : AM) : IM := fun δ st => (m δ st).bind fun xs st1 => match xs with
  | [d] => match lsOf d st1 with
    | some ds => .ok ⟨enumD 0 ds, keepOf d ds⟩ st1
    | none => .bad
  | _ => .bad
def iZip (m : AM) : IM := fun δ st => (m δ st).bind fun xs st1 => match xs with
  | [.tup ds, .tup es] => .ok ⟨zipD ds es, fun _ => True⟩ st1
  | [d, d'] => match lsOf d st1, lsOf d' st1 with
    | some ds, some es => .ok ⟨zipD ds es, fun st => keepOf d ds st ∧ keepOf d' es st⟩ st1
    | _, _ => .bad
  | _ => .bad
variable {mas : AM}
theorem RL.one {K : PySem.W.Frag} {H : Hp} {ρ : Wo} {d : D} {vs : List V} (h : RL K H ρ [d] vs) : ∃ v, vs = [v] ∧ R K H ρ d v := by
  obtain ⟨v, r, e, h1, h2⟩ := h
  cases h2
  exact ⟨v, e, h1⟩
theorem RL.two {K : PySem.W.Frag} {H : Hp} {ρ : Wo} {d d' : D} {vs : List V} (h : RL K H ρ [d, d'] vs) : ∃ v u, vs = [v, u] ∧ R K H ρ d v ∧ R K H ρ d' u := by
  obtain ⟨v, r, e, h1, u, r2, e2, h2, h3⟩ := h
  cases h3
  subst e2
  exact ⟨v, u, e, h1, h2⟩
theorem RL.three {K : PySem.W.Frag} {H : Hp} {ρ : Wo} {d d' d'' : D} {vs : List V} (h : RL K H ρ [d, d', d''] vs) : ∃ v u w, vs = [v, u, w] ∧ R K H ρ d v ∧ R K H ρ d' u ∧ R K H ρ d'' w := by
  obtain ⟨v, r, e, h1, h2⟩ := h
  obtain ⟨u, w, e2, h3, h4⟩ := RL.two h2
  subst e2
  exact ⟨v, u, w, e, h1, h3, h4⟩
theorem di_range1 (hg : Gl X "range") (hm : X.mg "range" = none) (h : DA X T W [a] mas) (hs : starEach [a] X.env = [(false, eval a X.env)] := by rfl) : DI X T W tg (.Call (.Name "range" p1) [a] [] pos) (iRange1 mas) := by
  refine ⟨PI.imp (pi_range1 hg hm h.pa hs) fun σ H Rr ⟨ρ, δ, st, ok, rs, h⟩ => ?_⟩
  unfold iRange1 at h
  refine ⟨ρ, δ, st, ok, rs, Post.bind h fun xs st1 vs H1 ρ1 g1 ok1 rx h => ?_⟩
  split at h
  · split at h
    · rename_i j hz
      obtain ⟨v, rfl, r1⟩ := RL.one rx
      cases r1
      exact ⟨j, rfl, hz.1, hz.2, h _ H1 ρ1 (Go.refl _ _) ok1 wk_range⟩
    · exact h.elim
  · exact h.elim
theorem di_range2 (hg : Gl X "range") (hm : X.mg "range" = none) (h : DA X T W [a, b] mas) (hs : starEach [a, b] X.env = [(false, eval a X.env), (false, eval b X.env)] := by rfl) (hs2 : starEach [b] X.env = [(false, eval b X.env)] := by rfl) :
    DI X T W tg (.Call (.Name "range" p1) [a, b] [] pos) (iRange2 mas) := by
  refine ⟨PI.imp (pi_range2 hg hm h.pa hs hs2) fun σ H Rr ⟨ρ, δ, st, ok, rs, h⟩ => ?_⟩
  unfold iRange2 at h
  refine ⟨ρ, δ, st, ok, rs, Post.bind h fun xs st1 vs H1 ρ1 g1 ok1 rx h => ?_⟩
  split at h
  · split at h
    · rename_i i j hz
      obtain ⟨v, u, rfl, r1, r2⟩ := RL.two rx
      cases r1
      cases r2
      exact ⟨i, j, rfl, hz, h _ H1 ρ1 (Go.refl _ _) ok1 wk_range⟩
    · exact h.elim
  · exact h.elim
theorem di_enum {elts : List Expr} {kk : Nat} (hg : Gl X "enumerate") (hm : X.mg "enumerate" = none) (h : DA X T W [e] mas) (hs : starEach [e] X.env = [(false, eval e X.env)] := by rfl) :
    DI X T W (.Tuple elts kk tpos) (.Call (.Name "enumerate" p1) [e] [] pos) (iEnum mas) := by
  refine ⟨PI.imp (pi_enum hg hm h.pa hs) fun σ H Rr ⟨ρ, δ, st, ok, rs, h⟩ => ?_⟩
  unfold iEnum at h
  refine ⟨ρ, δ, st, ok, rs, Post.bind h fun xs st1 vs H1 ρ1 g1 ok1 rx h => ?_⟩
  split at h
  · split at h
    · rename_i d ds e1
      obtain ⟨v, rfl, r1⟩ := RL.one rx
      obtain ⟨a, xs, rfl, s, r⟩ := lsAt ok1 r1 e1
      exact ⟨a, xs, rfl, s, h _ H1 ρ1 (Go.refl _ _) ok1 (wk_enum r1 e1)⟩
    · exact h.elim
  · exact h.elim
theorem di_zip {elts : List Expr} {kk : Nat} (hg : Gl X "zip") (hm : X.mg "zip" = none) (h : DA X T W [e, e2] mas)
    (hs : starEach (e :: [e2]) X.env = (false, eval e X.env) :: starEach [e2] X.env := by rfl) (hpl : (backTo pos (starEach [e2] X.env)).any (·.1) = false := by rfl) :
    DI X T W (.Tuple elts kk tpos) (.Call (.Name "zip" p1) [e, e2] [] pos) (iZip mas) := by
  refine ⟨PI.imp (RZ.pi_zipA hg hm h.pa hs hpl) fun σ H Rr ⟨ρ, δ, st, ok, rs, h⟩ => ?_⟩
  unfold iZip at h
  refine ⟨ρ, δ, st, ok, rs, Post.bind h fun xs st1 vs H1 ρ1 g1 ok1 rx h => ?_⟩
  split at h
  · rename_i ds es
    obtain ⟨v, u, rfl, r1, r2⟩ := RL.two rx
    obtain ⟨a, xs, rfl, s, r⟩ := tupAt r1
    obtain ⟨b, ys, rfl, s', r'⟩ := tupAt r2
    exact ⟨a, b, xs, ys, rfl, .inr ⟨s, s', h _ H1 ρ1 (Go.refl _ _) ok1 (wk_zipT r1 r2)⟩⟩
  · split at h
    · rename_i ds es e1 e2'
      obtain ⟨v, u, rfl, r1, r2⟩ := RL.two rx
      obtain ⟨a, xs, rfl, s, r⟩ := lsAt ok1 r1 e1
      obtain ⟨b, ys, rfl, s', r'⟩ := lsAt ok1 r2 e2'
      exact ⟨a, b, xs, ys, rfl, .inl ⟨s, s', h _ H1 ρ1 (Go.refl _ _) ok1 (wk_zip r1 r2 e1 e2')⟩⟩
    · exact h.elim
  · exact h.elim
end
/-! ### for -/
/-- behind a turn that began with n0 things: what it made goes -/
def tidy (n0 : Nat) (δ : Sl) (st : Store) : Option (Sl × Store) :=
  if st.length = n0 then some (δ, st)
  else if (st.take n0).all (shutC n0) = true then some (δ.map fun o => o.bind fun d => if shut n0 d = true then some d else none, st.take n0)
  else none
theorem tidy_ok {K : PySem.W.Frag} {T : Tb} {H0 H : Hp} {ρ0 ρ : Wo} {δ δ' : Sl} {σ : L2.St} {st st' : Store} (al0 : T.Al K H0 ρ0) (g : Go H0 ρ0 H ρ) (ok : Ok K T H ρ st) (rs : RS K H ρ δ σ)
    (h : tidy ρ0.m.length δ st = some (δ', st')) : ∃ ρ1, Go H0 ρ0 H ρ1 ∧ ρ1.m.length = ρ0.m.length ∧ Ok K T H ρ1 st' ∧ RS K H ρ1 δ' σ := by
  unfold tidy at h
  split at h
  · rename_i hl
    cases h
    exact ⟨ρ, g, by rw [ok.len, hl], ok, rs⟩
  · split at h
    · rename_i hc
      cases h
      obtain ⟨new, e, f⟩ := id g.pre
      refine ⟨ρ.cut ρ0.m.length, g.cut, by show (ρ.m.take _).length = _; rw [e]; simp, ok.shut hc (al0.go g.cut), by rw [List.length_map]; exact rs.len, fun i d hd => ?_⟩
      rw [List.getElem?_map] at hd
      cases q : δ[i]? with
      | none => rw [q] at hd; cases hd
      | some o =>
        rw [q] at hd
        cases o with
        | none => cases hd
        | some d' =>
          simp only [Option.map_some, Option.bind_some, Option.some.injEq] at hd
          split at hd
          · rename_i hs
            cases hd
            obtain ⟨v, h1, h2⟩ := rs.at' i d q
            exact ⟨v, h1, R.shut d v hs h2⟩
          · cases hd
    · cases h
open Classical in
noncomputable def loop (keep : Store → Prop) (t : Nm) (m : SM) (n0 : Nat) : List D → Sl → Store → SRes
  | [], δ, st => if keep st then .nx δ st else .bad
  | d :: ds, δ, st => if keep st then match t.put d δ with
      | some δ1 => match m δ1 st with
        | .nx δ' st' => match tidy n0 δ' st' with
          | some (δ2, st2) => loop keep t m n0 ds δ2 st2
          | none => .bad
        | .ct δ' st' => match tidy n0 δ' st' with
          | some (δ2, st2) => loop keep t m n0 ds δ2 st2
          | none => .bad
        | .bk δ' st' => .nx δ' st'
        | r => r
      | none => .bad
    else .bad
noncomputable def sFor (mi : IM) (t : Nm) (m : SM) : SM := fun δ st => sBind (mi δ st) δ fun k st1 => loop k.keep t m st1.length k.items δ st1
section
variable {X : Cx} {T : Tb} {W : WX} {tg iter : Expr} {body : List Stmt} {pos : Pos} {mi : IM} {t : Nm} {m : SM}
theorem ds_for (hp : PassesOwn (model X.prog X.w) X.A X.env X.xe) (hc : X.calm = true) (hi : DI X T W tg iter mi) (hg : DN X tg t) (hb : DB X T W body m) (hs : ∀ x, foldedSetIterable iter X.env x = pure x := by intro _; rfl) :
    DS X T W (.For tg iter body [] pos) (sFor mi t m) := by
  refine ⟨PS.imp (ps_for hp hc hi.pi hg.pg hb.ps hs) fun Dn σ H ⟨ρ, δ, st, ok, rs, h⟩ => ⟨ρ, δ, st, ok, rs, PostS.bind h rs fun k st1 J H1 ρ1 g1 ok1 wk h1 => ?_⟩⟩
  obtain ⟨dd, dvs, G, Y, rdd, wl, hG, hY⟩ := wk
  have kept : ∀ {H2 : Hp} {ρ2 : Wo} {ds : List D} {δ2 : Sl} {st2 : Store}, PostS X.K T W H2 ρ2 (loop k.keep t m st1.length ds δ2 st2) Dn → k.keep st2 := fun {H2 ρ2 ds δ2 st2} hh => by
    by_cases q : k.keep st2
    · exact q
    · cases ds with
      | nil => rw [loop, if_neg q] at hh; exact hh.elim
      | cons d ds => rw [loop, if_neg q] at hh; exact hh.elim
  refine for_it (D := Dn) (g := rN X.K t) (tb := rS X.K T W m) wl (fun i σ' H' => ∃ ρ' δ' st', Ok X.K T H' ρ' st' ∧ RS X.K H' ρ' δ' σ' ∧ Go H1 ρ1 H' ρ' ∧ ρ'.m.length = st1.length ∧ PostS X.K T W H' ρ' (loop k.keep t m st1.length (k.items.drop i) δ' st') Dn)
    ⟨ρ1, δ, st1, ok1, rs.go g1, Go.refl _ _, ok1.len, h1⟩ (fun i σ' H' _ ⟨ρ', δ', st', ok', rs', g', _, h'⟩ => hG H' ρ' st' ok' (RL.go g' _ _ rdd) (kept h')) ?_ ?_
  · rintro i x σ' H' H2 hlt ⟨ρ', δ', st', ok', rs', g', hl', h'⟩ hy
    have hk := kept h'
    have hd : k.items[i]? = some k.items[i] := List.getElem?_eq_getElem hlt
    obtain ⟨g2, ok2, r2⟩ := hY i k.items[i] H' ρ' st' x H2 ok' (RL.go g' _ _ rdd) hk hd hy
    rw [List.drop_eq_getElem_cons hlt, loop, if_pos hk] at h'
    split at h'
    · rename_i δ1 e1
      refine ⟨T, ρ', st', δ', δ1, k.items[i], ok2, rs'.go g2, r2, e1, fun σ2 rs2 _ => ⟨ρ', δ1, st', ok2, rs2, ?_⟩⟩
      replace h' := PostS.go h' g2
      have again : ∀ {δ3 : Sl} {st3 : Store}, PostS X.K T W H2 ρ' (match tidy st1.length δ3 st3 with | some (δ2, st2) => loop k.keep t m st1.length (k.items.drop (i + 1)) δ2 st2 | none => .bad) Dn → ∀ σ3 H3 ρ3, Go H2 ρ' H3 ρ3 → Ok X.K T H3 ρ3 st3 → RS X.K H3 ρ3 δ3 σ3 →
          ∃ ρ' δ' st', Ok X.K T H3 ρ' st' ∧ RS X.K H3 ρ' δ' σ3 ∧ Go H1 ρ1 H3 ρ' ∧ ρ'.m.length = st1.length ∧ PostS X.K T W H3 ρ' (loop k.keep t m st1.length (k.items.drop (i + 1)) δ' st') Dn := fun {δ3 st3} hh σ3 H3 ρ3 g3 ok3 rs3 => by
        split at hh
        · rename_i δ4 st4 e4
          rw [← hl'] at e4
          obtain ⟨ρ4, g4, l4, ok4, rs4⟩ := tidy_ok ok2.al g3 ok3 rs3 e4
          exact ⟨ρ4, δ4, st4, ok4, rs4, (g'.trans g2).trans g4, l4.trans hl', PostS.go hh g4⟩
        · exact hh.elim
      cases q : m δ1 st' with
      | nx δ3 st3 => rw [q] at h'; exact again h'
      | ct δ3 st3 => rw [q] at h'; exact again h'
      | bk δ3 st3 => rw [q] at h'; exact h'
      | rt d st3 => rw [q] at h'; exact h'
      | err C p δ3 st3 => rw [q] at h'; exact h'
      | bad => rw [q] at h'; exact h'
    · exact h'.elim
  · rintro σ' H' ⟨ρ', δ', st', ok', rs', g', _, h'⟩
    have hk := kept h'
    rw [List.drop_length, loop, if_pos hk] at h'
    exact h' σ' H' ρ' (Go.refl _ _) ok' rs'
end
/-! ### [e for x in .. if ..] -/
open Classical in
noncomputable def lcLoop (keep : Store → Prop) (t : Nm) (tt : TM) (m : EM) (δ : Sl) : List D → List D → Store → Res (List D)
  | [], acc, st => if keep st then .ok acc st else .bad
  | d :: ds, acc, st => if keep st ∧ acc.length ≤ 1000000 then match t.put d δ with
      | some δ1 => (tt δ1 st).bind fun b st1 => if b = true then (m δ1 st1).bind fun x st2 => lcLoop keep t tt m δ ds (acc ++ [x]) st2 else lcLoop keep t tt m δ ds acc st1
      | none => .bad
    else .bad
/-- places forgotten -/
def wipeD (δ : Sl) : List Nat → Sl
  | [] => δ
  | i :: is => (wipeD δ is).set i none
theorem RS.wipe {K : PySem.W.Frag} {H : Hp} {ρ : Wo} {δ : Sl} {σ : L2.St} (r : RS K H ρ δ σ) : ∀ is : List Nat, RS K H ρ (wipeD δ is) (L2.wipe σ is)
  | [] => r
  | _ :: is => (RS.wipe r is).unset
noncomputable def eLc (mi : IM) (t : Nm) (tt : TM) (m : EM) (own : List Nat) : EM := fun δ st => (mi δ st).bind fun k st1 => (lcLoop k.keep t tt m (wipeD δ own) k.items [] st1).bind fun xs st2 => .ok (.fl xs) st2
def tYesM : TM := fun _ st => .ok true st
structure DTs (X : Cx) (T : Tb) (W : WX) (ifs : List Expr) (m : TM) : Prop where
  pt : PTs X ifs (rT X.K T W m)
theorem dts_nil {X : Cx} {T : Tb} {W : WX} : DTs X T W [] tYesM := ⟨⟨fun pins s σ H Q I ⟨ρ, δ, st, ok, rs, h⟩ => pts_nil.run pins s σ H Q I (h.ok ok rfl)⟩⟩
theorem dts_one {X : Cx} {T : Tb} {W : WX} {c : Expr} {m : TM} (h : DT X T W c m) : DTs X T W [c] m := ⟨pts_one h.pt⟩
/-! ### one more thing that may change -/
section
variable {K : PySem.W.Frag} {T : Tb} {H : Hp} {ρ : Wo} {st : Store} {p : Addr} {o : HO}
def Wo.also (ρ : Wo) (p : Addr) : Wo := ⟨ρ.m, p :: ρ.x⟩
theorem Wo.also_has {ρ : Wo} {p a : Addr} (h : ¬ ρ.has a) (n : a ≠ p) : ¬ (ρ.also p).has a := fun z => z.elim (fun q => h (.inl q)) fun q => (List.mem_cons.mp q).elim n fun q => h (.inr q)
theorem Wo.of_also {ρ : Wo} {p a : Addr} (h : ¬ (ρ.also p).has a) : ¬ ρ.has a := fun z => h (z.elim .inl fun q => .inr (List.mem_cons_of_mem _ q))
mutual
theorem R.also (hp : H p = none) : ∀ (d : D) (v : V), R K H ρ d v → R K (upd H p o) (ρ.also p) d v
  | .non, _, h => h
  | .bl _, _, h => h
  | .int _, _, h => h
  | .str _, _, h => h
  | .ref _, _, h => h
  | .ty _, _, h => h
  | .tup ds, _, ⟨a, xs, e, s, r⟩ => ⟨a, xs, e, s.elim (fun ⟨z, n⟩ => by
      rcases z with z | ⟨u, z⟩
      · exact .inl ⟨.inl (by rw [upd_ne (ne_of_none z hp)]; exact z), Wo.also_has n (ne_of_none z hp)⟩
      · exact .inl ⟨.inr ⟨u, by rw [upd_ne (ne_of_none z hp)]; exact z⟩, Wo.also_has n (ne_of_none z hp)⟩) .inr, RL.also hp ds xs r⟩
  | .fl ds, _, ⟨a, xs, e, h, n, r⟩ => ⟨a, xs, e, by rw [upd_ne (ne_of_none h hp)]; exact h, Wo.also_has n (ne_of_none h hp), RL.also hp ds xs r⟩
  | .rl ds, _, ⟨a, u, xs, e, h, n, r⟩ => ⟨a, u, xs, e, by rw [upd_ne (ne_of_none h hp)]; exact h, Wo.also_has n (ne_of_none h hp), RL.also hp ds xs r⟩
  | .loc _, _, h => h
  | .obj C ns ds, _, ⟨a, dx, xs, e, h, n, l, r⟩ => ⟨a, dx, xs, e, by rw [upd_ne (ne_of_none h hp)]; exact h, Wo.also_has n (ne_of_none h hp), l, RL.also hp ds xs r⟩
theorem RL.also (hp : H p = none) : ∀ (ds : List D) (vs : List V), RL K H ρ ds vs → RL K (upd H p o) (ρ.also p) ds vs
  | [], _, h => h
  | d :: ds, _, ⟨v, r, e, h1, h2⟩ => ⟨v, r, e, R.also hp d v h1, RL.also hp ds r h2⟩
end
mutual
theorem R.less : ∀ (d : D) (v : V), R K H (ρ.also p) d v → R K H ρ d v
  | .non, _, h => h
  | .bl _, _, h => h
  | .int _, _, h => h
  | .str _, _, h => h
  | .ref _, _, h => h
  | .ty _, _, h => h
  | .tup ds, _, ⟨a, xs, e, s, r⟩ => ⟨a, xs, e, s.elim (fun ⟨z, n⟩ => .inl ⟨z, Wo.of_also n⟩) .inr, RL.less ds xs r⟩
  | .fl ds, _, ⟨a, xs, e, h, n, r⟩ => ⟨a, xs, e, h, Wo.of_also n, RL.less ds xs r⟩
  | .rl ds, _, ⟨a, u, xs, e, h, n, r⟩ => ⟨a, u, xs, e, h, Wo.of_also n, RL.less ds xs r⟩
  | .loc _, _, h => h
  | .obj C ns ds, _, ⟨a, dx, xs, e, h, n, l, r⟩ => ⟨a, dx, xs, e, h, Wo.of_also n, l, RL.less ds xs r⟩
theorem RL.less : ∀ (ds : List D) (vs : List V), RL K H (ρ.also p) ds vs → RL K H ρ ds vs
  | [], _, h => h
  | d :: ds, _, ⟨v, r, e, h1, h2⟩ => ⟨v, r, e, R.less d v h1, RL.less ds r h2⟩
end
theorem CellR.also (hp : H p = none) {a : Addr} : ∀ (c : Cell), CellR K H ρ a c → CellR K (upd H p o) (ρ.also p) a c
  | .lst ds, ⟨xs, h, r⟩ => ⟨xs, by rw [upd_ne (ne_of_none h hp)]; exact h, RL.also hp _ _ r⟩
  | .dk kds, ⟨kxs, h, e, r⟩ => ⟨kxs, by rw [upd_ne (ne_of_none h hp)]; exact h, e, RL.also hp _ _ r⟩
  | .obj C ns ds, ⟨dx, xs, h, l, r⟩ => ⟨dx, xs, by rw [upd_ne (ne_of_none h hp)]; exact h, l, RL.also hp _ _ r⟩
theorem CellR.less {a : Addr} : ∀ (c : Cell), CellR K H (ρ.also p) a c → CellR K H ρ a c
  | .lst ds, ⟨xs, h, r⟩ => ⟨xs, h, RL.less _ _ r⟩
  | .dk kds, ⟨kxs, h, e, r⟩ => ⟨kxs, h, e, RL.less _ _ r⟩
  | .obj C ns ds, ⟨dx, xs, h, l, r⟩ => ⟨dx, xs, h, l, RL.less _ _ r⟩
theorem Tb.Al.also (x : T.Al K H ρ) (hp : H p = none) : T.Al K (upd H p o) (ρ.also p) :=
  ⟨fun q hq => let ⟨h, n, t⟩ := x.o q hq; ⟨by rw [upd_ne (ne_of_none h hp)]; exact h, fun z => by
    rcases z with z | z
    · exact n (.inl z)
    · rcases List.mem_cons.mp z with e | z
      · rw [e, hp] at h; cases h
      · exact n (.inr z), t⟩, fun q hq => R.also hp _ _ (x.v q hq)⟩
theorem Tb.Al.less (x : T.Al K H (ρ.also p)) : T.Al K H ρ := ⟨fun q hq => let ⟨h, n, t⟩ := x.o q hq; ⟨h, Wo.of_also n, t⟩, fun q hq => R.less _ _ (x.v q hq)⟩
theorem Ok.also (ok : Ok K T H ρ st) (hp : H p = none) (ho : cellO o = true) : Ok K T (upd H p o) (ρ.also p) st :=
  ⟨ok.len, ok.nd, fun n a c h1 h2 => (ok.cell n a c h1 h2).also hp, ok.tab.ext fun b u e => by rw [upd_ne (ne_of_none e hp)]; exact e, fun a ha => by
    rcases List.mem_cons.mp ha with rfl | ha
    · exact ⟨⟨o, upd_same, ho⟩, fun z => ok.new hp (.inl z)⟩
    · obtain ⟨⟨u, e, z⟩, n⟩ := ok.ext a ha
      exact ⟨⟨u, by rw [upd_ne (ne_of_none e hp)]; exact e, z⟩, n⟩, ok.al.also hp⟩
theorem Ok.less (ok : Ok K T H (ρ.also p) st) : Ok K T H ρ st :=
  ⟨ok.len, ok.nd, fun n a c h1 h2 => (ok.cell n a c h1 h2).less, ok.tab, fun a ha => ok.ext a (List.mem_cons_of_mem _ ha), ok.al.less⟩
theorem RS.also {δ : Sl} {σ : L2.St} (r : RS K H ρ δ σ) (hp : H p = none) : RS K (upd H p o) (ρ.also p) δ σ := ⟨r.len, fun i d e => let ⟨v, h1, h2⟩ := r.at' i d e; ⟨v, h1, R.also hp d v h2⟩⟩
/-- it changes -/
theorem ne_has {a p : Addr} (h : p ∈ ρ.x) (n : ¬ ρ.has a) : a ≠ p := fun z => n (.inr (z ▸ h))
mutual
theorem R.chg (hp : p ∈ ρ.x) : ∀ (d : D) (v : V), R K H ρ d v → R K (upd H p o) ρ d v
  | .non, _, h => h
  | .bl _, _, h => h
  | .int _, _, h => h
  | .str _, _, h => h
  | .ref _, _, h => h
  | .ty _, _, h => h
  | .tup ds, _, ⟨a, xs, e, s, r⟩ => ⟨a, xs, e, s.elim (fun ⟨z, n⟩ => by
      rcases z with z | ⟨u, z⟩
      · exact .inl ⟨.inl (by rw [upd_ne (ne_has hp n)]; exact z), n⟩
      · exact .inl ⟨.inr ⟨u, by rw [upd_ne (ne_has hp n)]; exact z⟩, n⟩) .inr, RL.chg hp ds xs r⟩
  | .fl ds, _, ⟨a, xs, e, h, n, r⟩ => ⟨a, xs, e, by rw [upd_ne (ne_has hp n)]; exact h, n, RL.chg hp ds xs r⟩
  | .rl ds, _, ⟨a, u, xs, e, h, n, r⟩ => ⟨a, u, xs, e, by rw [upd_ne (ne_has hp n)]; exact h, n, RL.chg hp ds xs r⟩
  | .loc _, _, h => h
  | .obj C ns ds, _, ⟨a, dx, xs, e, h, n, l, r⟩ => ⟨a, dx, xs, e, by rw [upd_ne (ne_has hp n)]; exact h, n, l, RL.chg hp ds xs r⟩
theorem RL.chg (hp : p ∈ ρ.x) : ∀ (ds : List D) (vs : List V), RL K H ρ ds vs → RL K (upd H p o) ρ ds vs
  | [], _, h => h
  | d :: ds, _, ⟨v, r, e, h1, h2⟩ => ⟨v, r, e, R.chg hp d v h1, RL.chg hp ds r h2⟩
end
theorem Tb.Al.chg (x : T.Al K H ρ) (hp : p ∈ ρ.x) : T.Al K (upd H p o) ρ := ⟨fun q hq => let ⟨h, n, t⟩ := x.o q hq; ⟨by rw [upd_ne (ne_has hp n)]; exact h, n, t⟩, fun q hq => R.chg hp _ _ (x.v q hq)⟩
theorem CellR.chg (hp : p ∈ ρ.x) {a : Addr} (n : a ≠ p) : ∀ (c : Cell), CellR K H ρ a c → CellR K (upd H p o) ρ a c
  | .lst ds, ⟨xs, h, r⟩ => ⟨xs, by rw [upd_ne n]; exact h, RL.chg hp _ _ r⟩
  | .dk kds, ⟨kxs, h, e, r⟩ => ⟨kxs, by rw [upd_ne n]; exact h, e, RL.chg hp _ _ r⟩
  | .obj C ns ds, ⟨dx, xs, h, l, r⟩ => ⟨dx, xs, by rw [upd_ne n]; exact h, l, RL.chg hp _ _ r⟩
end
end L3

/-! ### text Lg -/
namespace L3
open PySem PySem.Spec PyProof.Rows L2

section
variable {K : PySem.W.Frag} {T : Tb} {H : Hp} {ρ : Wo} {st : Store} {p : Addr} {o : HO}
theorem tabs_chg {tabs : List NdefX.NTab} (t : NdefX.TabsN tabs H) {xs : List V} (hp : H p = some (.lst xs)) : NdefX.TabsN tabs (upd H p o) := fun q hq => by
  obtain ⟨ps, h1, h2, h3⟩ := t q hq
  refine ⟨ps, by rw [upd_ne (fun z => by rw [z, hp] at h1; cases h1)]; exact h1, h2, fun pos cv hc => ?_⟩
  obtain ⟨c, e1, e2⟩ := h3 pos cv hc
  exact ⟨c, e1, by rw [upd_ne (fun z => by rw [z, hp] at e2; unfold LamX.CodeO at e2; cases e2)]; exact e2⟩
theorem Ok.chg (ok : Ok K T H ρ st) (hp : p ∈ ρ.x) {xs : List V} (h : H p = some (.lst xs)) (ho : cellO o = true) : Ok K T (upd H p o) ρ st :=
  ⟨ok.len, ok.nd, fun n a c h1 h2 => (ok.cell n a c h1 h2).chg hp (fun z => (ok.ext p hp).2 (z ▸ List.mem_of_getElem? h1)), tabs_chg ok.tab h, fun a ha => by
    by_cases q : a = p
    · subst q; exact ⟨⟨o, upd_same, ho⟩, (ok.ext a ha).2⟩
    · obtain ⟨⟨u, e, z⟩, n⟩ := ok.ext a ha
      exact ⟨⟨u, by rw [upd_ne q]; exact e, z⟩, n⟩, ok.al.chg hp⟩
theorem RS.chg {δ : Sl} {σ : L2.St} (r : RS K H ρ δ σ) (hp : p ∈ ρ.x) : RS K (upd H p o) ρ δ σ := ⟨r.len, fun i d e => let ⟨v, h1, h2⟩ := r.at' i d e; ⟨v, h1, R.chg hp d v h2⟩⟩
/-- from a world with one more thing that may change -/
theorem Go.less {H1 H2 : Hp} {ρ1 ρ2 : Wo} (g : Go H ρ H1 ρ1) (hp : H p = none) (g2 : Go H1 (ρ1.also p) H2 ρ2) : ∃ ρ3, ρ2 = ρ3.also p ∧ Go H ρ H2 ρ3 := by
  obtain ⟨m2, x2⟩ := ρ2
  have ex : x2 = p :: ρ1.x := g2.ex
  subst ex
  refine ⟨⟨m2, ρ1.x⟩, rfl, ?_⟩
  obtain ⟨n1, e1, f1⟩ := id g.pre
  obtain ⟨n2, e2, f2⟩ := id g2.pre
  refine ⟨⟨n1 ++ n2, ?_, fun a ha => ?_⟩, g.ex, fun a u h n nt => ?_, fun a h => g.there a (g2.there a h)⟩
  · show m2 = ρ.m ++ (n1 ++ n2)
    rw [show m2 = ρ1.m ++ n2 from e2, e1, List.append_assoc]
  · rcases List.mem_append.mp ha with h | h
    · exact f1 a h
    · exact g.there a (f2 a h)
  · exact g2.keep a u (g.keep a u h n nt) (g.notInM h n) nt
/-- .. and it changes -/
theorem Go.lessC {H1 : Hp} {ρ1 : Wo} (g : Go H ρ H1 ρ1) (hp : H p = none) {u : HO} (h1 : H1 p = some u) : Go H ρ (upd H1 p o) ρ1 :=
  ⟨g.pre, g.ex, fun a v h n nt => by rw [upd_ne (ne_of_none h hp)]; exact g.keep a v h n nt, fun a h => by
    by_cases q : a = p
    · subst q; exact hp
    · rw [upd_ne q] at h; exact g.there a h⟩
end
/-- nothing is let out -/
abbrev W0 : WX := fun _ _ _ _ => False
def noErr {α : Type} (r : Res α) : Res α := match r with
  | .err _ _ _ => .bad
  | r => r
theorem Post.noErr {K : PySem.W.Frag} {T : Tb} {W : WX} {α β : Type} {Rel : Hp → Wo → α → β → Prop} {σ σ' : L2.St} {H : Hp} {ρ : Wo} {r : Res α} {Q : β → Hp → Prop} (h : Post K T W Rel σ H ρ (L3.noErr r) Q) : Post K T W0 Rel σ' H ρ r Q := by
  cases r with
  | ok a st => exact h
  | err C p st => exact h.elim
  | bad => exact h
open Classical in
noncomputable def lcL (keep : Store → Prop) (t : Nm) (tt : TM) (m : EM) (δ : Sl) : List D → List D → Store → Res (List D)
  | [], acc, st => if keep st then .ok acc st else .bad
  | d :: ds, acc, st => if keep st ∧ acc.length ≤ 1000000 then match t.put d δ with
      | some δ1 => (noErr (tt δ1 st)).bind fun b st1 => if b = true then (noErr (m δ1 st1)).bind fun x st2 => lcL keep t tt m δ ds (acc ++ [x]) st2 else lcL keep t tt m δ ds acc st1
      | none => .bad
    else .bad
noncomputable def eLC (mi : IM) (t : Nm) (tt : TM) (m : EM) (own : List Nat) : EM := fun δ st => (mi δ st).bind fun k st1 => (lcL k.keep t tt m (wipeD δ own) k.items [] st1).bind fun xs st2 => .ok (.fl xs) st2
theorem wipe_idem (σ : L2.St) (is : List Nat) : wipe (wipe σ is) is = wipe σ is := by
  refine List.ext_getElem? fun k => ?_
  by_cases hk : k < σ.length
  · rw [wipe_get _ _ _ (by rw [wipe_length]; exact hk), wipe_get _ _ _ hk]
    by_cases h : k ∈ is
    · rw [if_pos h, if_pos h]
    · rw [if_neg h]
  · rw [List.getElem?_eq_none (by rw [wipe_length, wipe_length]; omega), List.getElem?_eq_none (by rw [wipe_length]; omega)]
section
variable {X : Cx} {T : Tb} {W : WX} {elt tg iter c : Expr} {ifs : List Expr} {scope : Scope} {own : List (Str × Nat)} {pos p1 : Pos} {mi : IM} {t : Nm} {m : EM} {tt : TM}
/-- the reading of a comprehension -/
theorem lc_read (hsub : ∀ i ∈ t.slots, i ∈ own.map (·.2)) {σ : L2.St} {H : Hp} {Q : VK} (h : rE X.K T W (eLC mi t tt m (own.map (·.2))) σ H Q) :
    tLc (fun σ H Rr => ∃ ρ δ st, Ok X.K T H ρ st ∧ RS X.K H ρ δ σ ∧ Post X.K T W (fun H ρ k J => WkR X.K T H ρ k J) σ H ρ (mi δ st) Rr) (rN X.K t) (rT X.K T W0 tt) (rE X.K T W0 m) (own.map (·.2)) σ H Q := by
  obtain ⟨ρ, δ, st, ok, rs, h⟩ := h
  refine ⟨ρ, δ, st, ok, rs, Post.bind h fun k st1 J H1 ρ1 g1 ok1 wk h1 dst hD => ?_⟩
  obtain ⟨dd, dvs, G, Y, rdd, wl, hG, hY⟩ := wk
  have rs1 := rs.go g1
  have kept : ∀ {ds acc : List D} {st2 : Store}, Post X.K T W (R X.K) σ H1 ρ1 ((lcL k.keep t tt m (wipeD δ (own.map (·.2))) ds acc st2).bind fun xs st2 => .ok (.fl xs) st2) Q → k.keep st2 := fun {ds acc st2} hh => by
    by_cases q : k.keep st2
    · exact q
    · cases ds with
      | nil => rw [lcL, if_neg q] at hh; exact hh.elim
      | cons d ds => rw [lcL, if_neg (fun z => q z.1)] at hh; exact hh.elim
  refine lc_it (g := rN X.K t) (tt := rT X.K T W0 tt) (te := rE X.K T W0 m) wl (fun i H' => ∃ ρ' acc vs st', Go H1 ρ1 H' ρ' ∧ Ok X.K T H' (ρ'.also dst) st' ∧ H' dst = some (.lst vs) ∧ RL X.K H' (ρ'.also dst) acc vs ∧ RS X.K H' (ρ'.also dst) (wipeD δ (own.map (·.2))) (wipe σ (own.map (·.2))) ∧
      RL X.K H' (ρ'.also dst) dd dvs ∧ Post X.K T W (R X.K) σ H1 ρ1 ((lcL k.keep t tt m (wipeD δ (own.map (·.2))) (k.items.drop i) acc st').bind fun xs st2 => .ok (.fl xs) st2) Q)
    ⟨ρ1, [], [], st1, go_new hD, ok1.also hD rfl, upd_same, rfl, (rs1.wipe _).also hD, RL.also hD _ _ rdd, h1⟩
    (fun i H' _ ⟨ρ', acc, vs, st', g', ok', hv, ra, rs', rd', h'⟩ => hG H' _ st' ok' rd' (kept h')) ?_ ?_
  · rintro i x H' H2 hlt ⟨ρ', acc, vs, st', g', ok', hv, ra, rs', rd', h'⟩ hy
    have hk := kept h'
    have hd : k.items[i]? = some k.items[i] := List.getElem?_eq_getElem hlt
    obtain ⟨g2, ok2, r2⟩ := hY i k.items[i] H' _ st' x H2 ok' rd' hk hd hy
    have nD : ∀ {ρ3 : Wo} {H3 : Hp} {st3 : Store}, Ok X.K T H3 (ρ3.also dst) st3 → dst ∉ (ρ3.also dst).m := fun {ρ3 H3 st3} o3 => (o3.ext dst List.mem_cons_self).2
    have hv2 : H2 dst = some (.lst vs) := g2.keep dst _ hv (nD ok') (fun ps q => by cases q)
    rw [List.drop_eq_getElem_cons hlt, lcL] at h'
    by_cases hz : k.keep st' ∧ acc.length ≤ 1000000
    · rw [if_pos hz] at h'
      cases e1 : t.put k.items[i] (wipeD δ (own.map (·.2))) with
      | none => rw [e1] at h'; exact h'.elim
      | some δ1 =>
        rw [e1] at h'
        simp only at h'
        refine ⟨T, ρ'.also dst, st', _, δ1, k.items[i], ok2, rs'.go g2, r2, e1, fun σ2 rs2 w2 => ⟨?_, ρ'.also dst, δ1, st', ok2, rs2, ?_⟩⟩
        · exact (wipe_mono w2 hsub).trans (wipe_idem _ _)
        · cases q : tt δ1 st' with
          | bad => rw [q] at h'; exact h'.elim
          | err C p st3 => rw [q] at h'; exact h'.elim
          | ok b st3 =>
            rw [q] at h'
            intro b' H3 ρ3 g3 ok3 e3
            subst e3
            obtain ⟨ρ4, rfl, g4⟩ := Go.less g' hD (g2.trans g3)
            have hv3 : H3 dst = some (.lst vs) := g3.keep dst _ hv2 (nD ok2) (fun ps q => by cases q)
            replace h' : Post X.K T W (R X.K) σ H1 ρ1 ((if b = true then (noErr (m δ1 st3)).bind fun x st2 => lcL k.keep t tt m (wipeD δ (own.map (·.2))) (k.items.drop (i + 1)) (acc ++ [x]) st2 else lcL k.keep t tt m (wipeD δ (own.map (·.2))) (k.items.drop (i + 1)) acc st3).bind fun xs st2 => .ok (.fl xs) st2) Q := h'
            cases b with
            | false =>
              exact ⟨ρ4, acc, vs, st3, g4, ok3, hv3, RL.go (g2.trans g3) _ _ ra, (rs'.go g2).go g3, RL.go (g2.trans g3) _ _ rd', h'⟩
            | true =>
              rw [if_pos rfl] at h'
              refine ⟨ρ4.also dst, δ1, st3, ok3, rs2.go g3, ?_⟩
              cases q2 : m δ1 st3 with
              | bad => rw [q2] at h'; exact h'.elim
              | err C p st4 => rw [q2] at h'; exact h'.elim
              | ok y st4 =>
                rw [q2] at h'
                intro v H5 ρ5 g5 ok5 ry
                obtain ⟨ρ6, rfl, g6⟩ := Go.less g4 hD g5
                have hv5 : H5 dst = some (.lst vs) := g5.keep dst _ hv3 (nD ok3) (fun ps q => by cases q)
                have mD : dst ∈ (ρ6.also dst).x := List.mem_cons_self
                have ga := (g2.trans g3).trans g5
                refine ⟨vs, hv5, Nat.lt_of_le_of_lt (by rw [ra.len]; exact hz.2) (by rw [sizeLine_eq]; decide), ρ6, acc ++ [y], vs ++ [v], st4, g6.lessC hD hv5, ok5.chg mD hv5 rfl, upd_same, ?_, ?_, ?_, h'⟩
                · exact RL.chg mD _ _ ((RL.go ga _ _ ra).append ⟨v, [], rfl, ry, rfl⟩)
                · exact (rs'.go ga).chg mD
                · exact RL.chg mD _ _ (RL.go ga _ _ rd')
    · rw [if_neg hz] at h'; exact h'.elim
  · rintro H' ⟨ρ', acc, vs, st', g', ok', hv, ra, rs', rd', h'⟩
    have hk := kept h'
    rw [List.drop_length, lcL, if_pos hk] at h'
    refine h' (.ref dst) H' ρ' g' ok'.less ⟨dst, vs, rfl, hv, fun z => ?_, RL.less _ _ ra⟩
    rcases z with z | z
    · exact (ok'.ext dst List.mem_cons_self).2 z
    · rw [g'.ex] at z
      exact ok1.new hD (.inr z)
theorem de_lc (hc : X.calm = true) (hN : X.N.Nodup) (hi : DI X T W tg iter mi) (ok : BlkOk X.N X.env.scope scope own) (hsub : ∀ i ∈ t.slots, i ∈ own.map (·.2))
    (hg : ∀ (s : Shared) (H : Hp) (C : Addr) (cl : List (Str × Addr)) (fp : List Addr), DN (X.blk s H scope (compEnvC scope cl C X.env) fp) tg t)
    (ht : ∀ (s : Shared) (H : Hp) (C : Addr) (cl : List (Str × Addr)) (fp : List Addr), DTs (X.blk s H scope (compEnvC scope cl C X.env) fp) T W0 ifs tt)
    (he : ∀ (s : Shared) (H : Hp) (C : Addr) (cl : List (Str × Addr)) (fp : List Addr), DE (X.blk s H scope (compEnvC scope cl C X.env) fp) T W0 elt m) (hs : ∀ x, foldedSetIterable iter X.env x = pure x := by intro _; rfl) :
    DE X T W (.ListComp elt [⟨tg, iter, ifs, 0⟩] scope pos) (eLC mi t tt m (own.map (·.2))) :=
  ⟨PE.imp (pe_lc hc hN hi.pi ok (fun s H C cl fp => (hg s H C cl fp).pg) (fun s H C cl fp => (ht s H C cl fp).pt) (fun s H C cl fp => (he s H C cl fp).pe) hs) fun _ _ _ h => lc_read hsub h⟩
/-- name = [..] on one line -/
theorem ds_setLc {i : Nat} {y : Str} {py spos : Pos} (hc : X.calm = true) (hN : X.N.Nodup) (hy : X.N[i]? = some y) (hyl : X.env.scope.names.lookup y = some .local)
    (hsw : swapsWith (.ListComp elt [⟨tg, iter, ifs, 0⟩] scope pos) (some (.Name y py)) spos.line X.env = pure true) (hi : DI X T W tg iter mi) (ok : BlkOk X.N X.env.scope scope own) (hsub : ∀ i ∈ t.slots, i ∈ own.map (·.2))
    (hg : ∀ (s : Shared) (H : Hp) (C : Addr) (cl : List (Str × Addr)) (fp : List Addr), DN (X.blk s H scope (compEnvC scope cl C X.env) fp) tg t)
    (ht : ∀ (s : Shared) (H : Hp) (C : Addr) (cl : List (Str × Addr)) (fp : List Addr), DTs (X.blk s H scope (compEnvC scope cl C X.env) fp) T W0 ifs tt)
    (he : ∀ (s : Shared) (H : Hp) (C : Addr) (cl : List (Str × Addr)) (fp : List Addr), DE (X.blk s H scope (compEnvC scope cl C X.env) fp) T W0 elt m) (hs : ∀ x, foldedSetIterable iter X.env x = pure x := by intro _; rfl) :
    DS X T W (.Assign [.Name y py] (.ListComp elt [⟨tg, iter, ifs, 0⟩] scope pos) spos) (sSet i (eLC mi t tt m (own.map (·.2)))) :=
  ⟨PS.imp (ps_setLc hc hN hy hyl hsw hi.pi ok (fun s H C cl fp => (hg s H C cl fp).pg) (fun s H C cl fp => (ht s H C cl fp).pt) (fun s H C cl fp => (he s H C cl fp).pe) hs) fun D σ H ⟨ρ, δ, st, ok, rs, h⟩ =>
    lc_read hsub ⟨ρ, δ, st, ok, rs, PostS.bind h rs fun x st1 v H1 ρ1 g1 ok1 rx h1 => h1 _ H1 ρ1 (Go.refl _ _) ok1 ((rs.go g1).set rx)⟩⟩
end
end L3

/-! ### text Lh -/
namespace L3
open PySem PySem.Spec PyProof.Rows L2

/-! ### the store grows, a thing of it changes -/
section
variable {K : PySem.W.Frag} {T : Tb} {H : Hp} {ρ : Wo} {st : Store} {p a : Addr} {o : HO} {c c' : Cell} {n : Nat}
def Wo.more (ρ : Wo) (p : Addr) : Wo := ⟨ρ.m ++ [p], ρ.x⟩
theorem go_more (ok : Ok K T H ρ st) (hp : H p = none) : Go H ρ (upd H p o) (ρ.more p) :=
  ⟨⟨[p], rfl, fun a ha => by rw [List.mem_singleton.mp ha]; exact hp⟩, rfl, fun a u e _ _ => by rw [upd_ne (ne_of_none e hp)]; exact e, fun a e => by
    by_cases q : a = p
    · subst q; rw [upd_same] at e; cases e
    · rw [upd_ne q] at e; exact e⟩
theorem Ok.more (ok : Ok K T H ρ st) (hp : H p = none) (hc : CellR K (upd H p o) (ρ.more p) p c) : Ok K T (upd H p o) (ρ.more p) (st ++ [c]) := by
  refine ⟨by show (ρ.m ++ [p]).length = _; simp [ok.len], ?_, fun n a x h1 h2 => ?_, ok.tab.ext fun b u e => by rw [upd_ne (ne_of_none e hp)]; exact e, fun a ha => ?_, ok.al.go (go_more ok hp)⟩
  · show (ρ.m ++ [p]).Nodup
    rw [List.nodup_append]
    exact ⟨ok.nd, by simp, fun a ha b hb => by rw [List.mem_singleton.mp hb]; rintro rfl; exact ok.new hp (.inl ha)⟩
  · replace h1 : (ρ.m ++ [p])[n]? = some a := h1
    by_cases hn : n < ρ.m.length
    · rw [List.getElem?_append_left hn] at h1
      rw [List.getElem?_append_left (by rw [← ok.len]; exact hn)] at h2
      exact (ok.cell n a x h1 h2).go (go_more ok hp) fun u e => by rw [upd_ne (ne_of_none e hp)]; exact e
    · rw [List.getElem?_append_right (by omega)] at h1
      rw [List.getElem?_append_right (by rw [← ok.len]; omega)] at h2
      rw [← ok.len] at h2
      cases q : n - ρ.m.length with
      | zero => rw [q] at h1 h2; simp at h1 h2; subst h1 h2; exact hc
      | succ j => rw [q] at h1; simp at h1
  · obtain ⟨⟨u, e, ze⟩, n⟩ := ok.ext a ha
    refine ⟨⟨u, by rw [upd_ne (ne_of_none e hp)]; exact e, ze⟩, fun z => ?_⟩
    rcases List.mem_append.mp (show a ∈ ρ.m ++ [p] from z) with z | z
    · exact n z
    · rw [List.mem_singleton.mp z, hp] at e; cases e
theorem CellR.cellO {c : Cell} (h : CellR K H ρ a c) : ∃ o, H a = some o ∧ L3.cellO o = true := by
  cases c with
  | lst ds => obtain ⟨xs, h, _⟩ := h; exact ⟨_, h, rfl⟩
  | dk ds => obtain ⟨xs, h, _⟩ := h; exact ⟨_, h, rfl⟩
  | obj C ns ds => obtain ⟨dx, xs, h, _⟩ := h; exact ⟨_, h, rfl⟩
theorem tabs_chgO {tabs : List NdefX.NTab} (t : NdefX.TabsN tabs H) {u : HO} (hp : H p = some u) (hu : cellO u = true) : NdefX.TabsN tabs (upd H p o) := fun q hq => by
  obtain ⟨ps, h1, h2, h3⟩ := t q hq
  refine ⟨ps, by rw [upd_ne (fun z => by rw [z, hp] at h1; cases h1; cases hu)]; exact h1, h2, fun pos cv hc => ?_⟩
  obtain ⟨c, e1, e2⟩ := h3 pos cv hc
  exact ⟨c, e1, by rw [upd_ne (fun z => by rw [z, hp] at e2; unfold LamX.CodeO at e2; cases e2; cases hu)]; exact e2⟩
theorem go_put (h1 : ρ.m[n]? = some a) (he : ∃ u, H a = some u) : Go H ρ (upd H a o) ρ :=
  ⟨⟨[], by simp, by simp⟩, rfl, fun b u e hn _ => by rw [upd_ne (fun z => hn (by rw [z]; exact List.mem_of_getElem? h1))]; exact e, fun b e => by
    by_cases q : b = a
    · subst q; rw [upd_same] at e; cases e
    · rw [upd_ne q] at e; exact e⟩
theorem Ok.put (ok : Ok K T H ρ st) (h1 : ρ.m[n]? = some a) (h2 : st[n]? = some c) (hc : CellR K (upd H a o) ρ a c') : Ok K T (upd H a o) ρ (st.set n c') := by
  obtain ⟨u, hu, hk⟩ := (ok.cell n a c h1 h2).cellO
  have g := go_put (H := H) (o := o) h1 ⟨u, hu⟩
  have hn : n < st.length := (List.getElem?_eq_some_iff.mp h2).1
  refine ⟨by rw [List.length_set]; exact ok.len, ok.nd, fun j b x q1 q2 => ?_, tabs_chgO ok.tab hu hk, fun b hb => ?_, ok.al.go g⟩
  · by_cases hj : n = j
    · subst hj
      rw [h1] at q1
      cases q1
      rw [List.getElem?_set_self hn] at q2
      cases q2
      exact hc
    · rw [List.getElem?_set_ne hj] at q2
      refine (ok.cell j b x q1 q2).go g fun v e => ?_
      rw [upd_ne (fun z => ?_)]
      · exact e
      · obtain ⟨l1, e1⟩ := List.getElem?_eq_some_iff.mp h1
        obtain ⟨l2, e2⟩ := List.getElem?_eq_some_iff.mp q1
        exact hj ((List.getElem_inj ok.nd).mp (e1.trans (z.symm.trans e2.symm)))
  · obtain ⟨⟨v, e, ze⟩, m⟩ := ok.ext b hb
    exact ⟨⟨v, by rw [upd_ne (fun z => m (by rw [z]; exact List.mem_of_getElem? h1))]; exact e, ze⟩, m⟩
end
section
variable {X : Cx} {T : Tb} {W : WX} {a b c e o i tg : Expr} {es : List Expr} {s : Stmt} {ss s1 s2 body : List Stmt} {ma mb mc me mo mi : EM} {mas : AM} {mt mu : TM} {m n : SM} {pos p1 p2 apos cpos tpos : Pos}
/-- a list that may change -/
def eLstN (m : AM) : EM := fun δ st => (m δ st).bind fun xs st1 => if xs.length ≤ 1000000 then .ok (.loc st1.length) (st1 ++ [.lst xs]) else .bad
theorem Post.newN {K : PySem.W.Frag} {σ : L2.St} {H : Hp} {ρ : Wo} {st : Store} {Q : VK} {ds : List D} {xs : List V} (ok : Ok K T H ρ st) (r : RL K H ρ ds xs) (h : Post K T W (R K) σ H ρ (.ok (.loc st.length) (st ++ [.lst ds])) Q) : ∀ p, H p = none → Q (.ref p) (upd H p (.lst xs)) := fun p hp =>
  h (.ref p) _ (ρ.more p) (go_more ok hp) (ok.more hp ⟨xs, upd_same, RL.go (go_more ok hp) _ _ r⟩) ⟨p, rfl, by show (ρ.m ++ [p])[st.length]? = _; rw [← ok.len]; simp⟩
theorem de_lstN (h : DA X T W es mas) : DE X T W (.List es pos) (eLstN mas) :=
  ⟨PE.imp (pe_lst h.pa) fun σ H Q ⟨ρ, δ, st, ok, rs, h⟩ => ⟨ρ, δ, st, ok, rs, Post.bind h fun xs st1 vs H1 ρ1 g1 ok1 rx h1 => by
    split at h1
    · rename_i hz
      exact ⟨line1 (by rw [rx.len]; exact hz), Post.newN ok1 rx h1⟩
    · exact h1.elim⟩⟩
/-! ### x[i] = e -/
def dSetIx (o i d : D) (st : Store) : Option Store := match o, i with
  | .loc n, .int k => match st[n]? with
    | some (.lst xs) => match ixN xs.length k with
      | some j => some (st.set n (.lst (xs.set j d)))
      | none => none
    | _ => none
  | _, _ => none
def gSubM (mo mi : EM) : GM := fun d δ st => sBind (mo δ st) δ fun o st1 => sBind (mi δ st1) δ fun i st2 => match dSetIx o i d st2 with
  | some st3 => .nx δ st3
  | none => .bad
/-- o[i] = v is stored as it is written -/
def SubPlain (X : Cx) (o i : Expr) (pos : Pos) : Prop := ∀ v, assign (.Subscript o i pos) X.env v = (do let ov ← holding [v] (eval o X.env); let iv ← holding [v, ov] (eval i X.env); standAt pos; holding [v, ov, iv] (setItem ov iv v); release [v, ov, iv] [])
theorem dg_sub (ho : DE X T W o mo) (hi : DE X T W i mi) (hA : SubPlain X o i pos := by intro _; rfl) : DG X T W (.Subscript o i pos) (gSubM mo mi) :=
  ⟨PG.imp (pg_sub ho.pe hi.pe set_list hA) fun v σ H Q ⟨ρ, δ, st, d, ok, rs, rd, h⟩ => ⟨ρ, δ, st, ok, rs, PostS.bind h rs fun x st1 xv H1 ρ1 g1 ok1 rx h1 => ⟨ρ1, δ, st1, ok1, rs.go g1, PostS.bind h1 (rs.go g1) fun y st2 yv H2 ρ2 g2 ok2 ry h2 => by
    have rd2 := R.go (g1.trans g2) d v rd
    have rs2 := rs.go (g1.trans g2)
    replace rx := R.go g2 x xv rx
    split at h2
    · rename_i st3 e
      unfold dSetIx at e
      split at e
      · rename_i n k
        split at e
        · rename_i xs q
          split at e
          · rename_i j ej
            cases e
            cases ry
            obtain ⟨a, rfl, ha, ys, hy, ry⟩ := locAt ok2 rx q
            have g := go_put (H := H2) (o := .lst (ys.set j v)) ha ⟨_, hy⟩
            refine ⟨a, ys, k, j, rfl, rfl, hy, by rw [ry.len]; exact ej, ?_⟩
            exact h2 σ _ ρ2 g (ok2.put ha q ⟨_, upd_same, RL.set (R.go g d v rd2) j (RL.go g _ _ ry)⟩) (rs2.go g)
          · cases e
        · cases e
      · cases e
    · exact h2.elim⟩⟩⟩
/-! ### targets side by side, of any kind -/
abbrev GMs := List D → Sl → Store → SRes
def rGs (K : PySem.W.Frag) (T : Tb) (W : WX) (g : GMs) : TGs := fun vs σ H Q => ∃ ρ δ st ds, Ok K T H ρ st ∧ RS K H ρ δ σ ∧ RL K H ρ ds vs ∧ PostS K T W H ρ (g ds δ st) { nx := Q, rt := fun _ _ => False }
structure DGs (X : Cx) (T : Tb) (W : WX) (tgs : List Expr) (g : GMs) : Prop where
  pg : PGs X tgs (rGs X.K T W g)
def gsNil : GMs := fun ds δ st => match ds with
  | [] => .nx δ st
  | _ => .bad
def gsCons (g : GM) (gs : GMs) : GMs := fun ds δ st => match ds with
  | d :: ds => match g d δ st with
    | .nx δ' st' => gs ds δ' st'
    | .err C p δ' st' => .err C p δ' st'
    | _ => .bad
  | _ => .bad
theorem dgs_nil : DGs X T W [] gsNil := ⟨PGs.imp pgs_nil fun vs σ H Q ⟨ρ, δ, st, ds, ok, rs, rd, h⟩ => by
  unfold gsNil at h
  split at h
  · exact ⟨rd, h σ H ρ (Go.refl _ _) ok rs⟩
  · exact h.elim⟩
theorem dgs_cons {g : GM} {gs : GMs} (h1 : DG X T W e g) (h2 : DGs X T W es gs) (hs : (assignEach (e :: es) X.env).map (·.2) = assign e X.env :: (assignEach es X.env).map (·.2) := by rfl) : DGs X T W (e :: es) (gsCons g gs) :=
  ⟨PGs.imp (pgs_cons h1.pg h2.pg hs) fun vs σ H Q ⟨ρ, δ, st, ds, ok, rs, rd, h⟩ => by
    unfold gsCons at h
    split at h
    · rename_i d ds
      obtain ⟨v, r, rfl, r1, r2⟩ := rd
      refine ⟨v, r, rfl, ρ, δ, st, d, ok, rs, r1, ?_⟩
      cases q : g d δ st with
      | nx δ' st' => rw [q] at h; exact fun σ' H' ρ' g' ok' rs' => ⟨ρ', δ', st', ds, ok', rs', RL.go g' _ _ r2, PostS.go h g'⟩
      | err C p δ' st' => rw [q] at h; exact h
      | _ => rw [q] at h; exact h.elim
    · exact h.elim⟩
def gTupM (gs : GMs) (k : Nat) : GM := fun d δ st => match d with
  | .tup ds => if ds.length = k then gs ds δ st else .bad
  | _ => .bad
theorem dg_tup {k kk : Nat} {gs : GMs} (hc : X.calm = true) (h : DGs X T W es gs) (hn : (assignEach es X.env).length = k := by rfl) (hst : (assignEach es X.env).findIdx? (·.1) = none := by rfl) : DG X T W (.Tuple es kk pos) (gTupM gs k) :=
  ⟨PG.imp (pg_tup hc h.pg hn hst) fun v σ H Q ⟨ρ, δ, st, d, ok, rs, rd, h⟩ => by
    unfold gTupM at h
    split at h
    · rename_i ds
      split at h
      · rename_i hk
        obtain ⟨a, xs, rfl, s, r⟩ := tupAt rd
        exact ⟨a, xs, rfl, s, by rw [r.len, hk], ρ, δ, st, ds, ok, rs, r, h⟩
      · exact h.elim
    · exact h.elim⟩
/-- a, b = x, y: two names of the def -/
def sPar (i j : Nat) (m : AM) : SM := fun δ st => sBind (m δ st) δ fun ds st1 => match ds with
  | [d, d'] => .nx ((δ.set i (some d)).set j (some d')) st1
  | _ => .bad
theorem ds_par {i j : Nat} {x y : Str} {px py pt : Pos} {kt k2 : Nat} {pt2 : Pos} (hc : X.calm = true) (hN : X.N.Nodup) (ha : DA X T W [a, b] mas) (hi : X.N[i]? = some x := by rfl) (hj : X.N[j]? = some y := by rfl) (hij : i ≠ j := by decide)
    (hx : X.env.scope.names.lookup x = some .local := by rfl) (hy : X.env.scope.names.lookup y = some .local := by rfl)
    (hw : swappedStores [.Tuple [.Name x px, .Name y py] kt pt] (.Tuple [a, b] k2 pt2) X.env = pure (some [x, y]) := by rfl)
    (hs : swapsWithSole [.Tuple [.Name x px, .Name y py] kt pt] (.Tuple [a, b] k2 pt2) pos.line X.env = pure false := by rfl) :
    DS X T W (.Assign [.Tuple [.Name x px, .Name y py] kt pt] (.Tuple [a, b] k2 pt2) pos) (sPar i j mas) :=
  ⟨PS.imp (ps_par hc hN hi hj hij hx hy ha.pa hw hs) fun D σ H ⟨ρ, δ, st, ok, rs, h⟩ => ⟨ρ, δ, st, ok, rs, PostS.bind h rs fun ds st1 vs H1 ρ1 g1 ok1 rx h1 => by
    split at h1
    · obtain ⟨v, u, rfl, r1, r2⟩ := RL.two rx
      exact ⟨v, u, rfl, h1 _ H1 ρ1 (Go.refl _ _) ok1 (((rs.go g1).set r1).set r2)⟩
    · exact h1.elim⟩⟩
/-! ### methods of built-in types -/
def eBM (ty : D → Store → Bool) (f : D → List D → Store → Res D) (mo : EM) (mas : AM) : EM := fun δ st => (mo δ st).bind fun x st1 => if ty x st1 = true then (mas δ st1).bind fun xs st2 => f x xs st2 else .bad
def TellM (X : Cx) (T : Tb) (r : V → List V → Hp → VK → Prop) (f : D → List D → Store → Res D) : Prop :=
  ∀ (W : WX) (σ : L2.St) (H : Hp) (ρ : Wo) (st : Store) (x : D) (v : V) (xs : List D) (vs : List V) (Q : VK), Ok X.K T H ρ st → R X.K H ρ x v → RL X.K H ρ xs vs → Post X.K T W (R X.K) σ H ρ (f x xs st) Q → r v vs H Q
def TyD (X : Cx) (T : Tb) (Ty : String) (ty : D → Store → Bool) : Prop := ∀ (H : Hp) (ρ : Wo) (st : Store) (x : D) (v : V), Ok X.K T H ρ st → R X.K H ρ x v → ty x st = true → tyV X.K Ty v H
def isLs (d : D) (st : Store) : Bool := (lsOf d st).isSome
theorem ty_list : TyD X T "list" isLs := fun H ρ st x v ok r h => by
  unfold isLs at h
  cases q : lsOf x st with
  | none => rw [q] at h; cases h
  | some ds =>
    obtain ⟨a, xs, rfl, s, _⟩ := lsAt ok r q
    exact .inl ⟨rfl, xs, s⟩
def isStD (d : D) (_ : Store) : Bool := match d with
  | .str _ => true
  | _ => false
theorem ty_str : TyD X T "str" isStD := fun H ρ st x v ok r h => by
  cases x with
  | str z => cases r; exact rfl
  | _ => cases h
theorem de_bm {Ty id : String} {name : Str} {r : V → List V → Hp → VK → Prop} {ty : D → Store → Bool} {f : D → List D → Store → Res D} (hty : TyD X T Ty ty) (hf : TellM X T r f) (pa : PlainAttrs Ty) (slot : Slot Ty name id) (htd : typeOf (.builtin id) = pure (.type "method_descriptor")) (hm : MtR X id r)
    (ho : DE X T W o mo) (ha : DA X T W (e :: es) mas)
    (hbase : attributeBase o name X.env (eval o X.env) = eval o X.env := by rfl)
    (hfew : ((backTo cpos (starEach (e :: es) X.env)).all (fun x => !x.1) && (backToKw cpos (keywordEach [] X.env)).all (fun x => x.1.isSome)
      && decide ((e :: es).length + ([] : List Keyword).length + (if ([] : List Keyword).isEmpty then 0 else 1) < 30)) = true := by rfl)
    (hline : (apos.endLine == cpos.line) = true := by rfl) (hs : starEach (e :: es) X.env = (false, eval e X.env) :: starEach es X.env := by rfl) (hplain : (backTo cpos (starEach es X.env)).any (·.1) = false := by rfl) :
    DE X T W (.Call (.Attribute o name apos) (e :: es) [] cpos) (eBM ty f mo mas) :=
  ⟨PE.imp (pe_bm pa slot htd hm ho.pe ha.pa hbase hfew hline hs hplain) fun σ H Q ⟨ρ, δ, st, ok, rs, h⟩ => ⟨ρ, δ, st, ok, rs, Post.bind h fun x st1 v H1 ρ1 g1 ok1 rx h1 => by
    split at h1
    · rename_i ht
      exact ⟨hty _ _ _ _ _ ok1 rx ht, ρ1, δ, st1, ok1, rs.go g1, Post.bind h1 fun xs st2 vs H2 ρ2 g2 ok2 rxs h2 => hf W σ H2 ρ2 st2 x v xs vs Q ok2 (R.go g2 x v rx) rxs h2⟩
    · exact h1.elim⟩⟩
def dAppend (x : D) (xs : List D) (st : Store) : Res D := match x, xs with
  | .loc n, [d] => match st[n]? with
    | some (.lst ys) => if ys.length < 1000000 then .ok .non (st.set n (.lst (ys ++ [d]))) else .bad
    | _ => .bad
  | _, _ => .bad
theorem tell_append : TellM X T rAppend dAppend := fun W σ H ρ st x v xs vs Q ok rx rxs h => by
  unfold dAppend at h
  split at h
  · rename_i n d
    split at h
    · rename_i ys q
      split at h
      · rename_i hz
        obtain ⟨a, rfl, ha, us, hu, ru⟩ := locAt ok rx q
        obtain ⟨w, rfl, rw'⟩ := RL.one rxs
        have g := go_put (H := H) (o := .lst (us ++ [w])) ha ⟨_, hu⟩
        refine ⟨a, us, w, rfl, rfl, hu, Nat.lt_of_lt_of_le (by rw [ru.len]; exact hz) (by rw [sizeLine_eq]; decide), ?_⟩
        exact h .non _ ρ g (ok.put ha q ⟨_, upd_same, (RL.go g _ _ ru).append ⟨w, [], rfl, R.go g _ _ rw', rfl⟩⟩) rfl
      · exact h.elim
    · exact h.elim
  · exact h.elim
theorem de_append (ho : DE X T W o mo) (ha : DA X T W [e] mas)
    (hbase : attributeBase o "append" X.env (eval o X.env) = eval o X.env := by rfl)
    (hfew : ((backTo cpos (starEach [e] X.env)).all (fun x => !x.1) && (backToKw cpos (keywordEach [] X.env)).all (fun x => x.1.isSome)
      && decide ([e].length + ([] : List Keyword).length + (if ([] : List Keyword).isEmpty then 0 else 1) < 30)) = true := by rfl)
    (hline : (apos.endLine == cpos.line) = true := by rfl) (hs : starEach [e] X.env = (false, eval e X.env) :: starEach [] X.env := by rfl) :
    DE X T W (.Call (.Attribute o "append" apos) [e] [] cpos) (eBM isLs dAppend mo mas) :=
  de_bm ty_list tell_append PySem.F.plainAttrs_list PySem.F.slot_list_append PySem.F.type_list_append mt_append ho ha hbase hfew hline hs
def dPopAt (x : D) (xs : List D) (st : Store) : Res D := match x, xs with
  | .loc n, [.int i] => match st[n]? with
    | some (.lst ys) => if ys.length ≤ 1000000 then match ixN ys.length i with
      | some k => match ys[k]? with
        | some d => .ok d (st.set n (.lst (ys.eraseIdx k)))
        | none => .bad
      | none => .bad else .bad
    | _ => .bad
  | _, _ => .bad
theorem tell_popAt : TellM X T rPopAt dPopAt := fun W σ H ρ st x v xs vs Q ok rx rxs h => by
  unfold dPopAt at h
  split at h
  · rename_i n i
    split at h
    · rename_i ys q
      split at h
      rotate_left
      · exact h.elim
      rename_i hz
      split at h
      · rename_i k ek
        split at h
        · rename_i d ed
          obtain ⟨a, rfl, ha, us, hu, ru⟩ := locAt ok rx q
          obtain ⟨w, rfl, rw'⟩ := RL.one rxs
          cases rw'
          obtain ⟨u, e1, r1⟩ := ru.get ed
          have g := go_put (H := H) (o := .lst (us.eraseIdx k)) ha ⟨_, hu⟩
          have hk : ixN us.length i = some k := by rw [ru.len]; exact ek
          obtain ⟨h1, h2, h3, h4⟩ := ixN_seq hk
          rw [ru.len] at h3 h4
          refine ⟨a, us, i, k, u, rfl, rfl, hu, by omega, by omega, h1, e1, ?_⟩
          exact h u _ ρ g (ok.put ha q ⟨_, upd_same, RL.erase k (RL.go g _ _ ru)⟩) (R.go g _ _ r1)
        · exact h.elim
      · exact h.elim
    · exact h.elim
  · exact h.elim
end
end L3

/-! ### text Li -/
namespace L3
open PySem PySem.Spec PyProof.Rows L2

/-! ### a lambda's object -/
/-- the object at f is the lambda F (its words but the body), whose body is b -/
def LamO (f : Addr) (F : NdefX.NF) (b : Expr) : HO := .ext fun h => ∃ (od : Option Addr) (sl : Array (Option Value)) (pm ctv : Value), h.get? f = some (⟨.type "function", od, .func (PySem.W.kla_fn "<lambda>" F.qual F.params b F.scope F.cl pm (.ref F.c) ctv), sl⟩ : Obj)
theorem lamO_ne {f : Addr} {F : NdefX.NF} {b : Expr} (ps : Array Value) : LamO f F b ≠ .tbl ps := fun z => by
  unfold LamO at z
  cases z
theorem lamO_at {P : Program} {w : World} {H : Hp} {h : Heap} {f : Addr} {F : NdefX.NF} {b : Expr} (hok : HOk P w H h) (e : H f = some (LamO f F b)) : ∃ (od : Option Addr) (sl : Array (Option Value)) (pm ctv : Value), h.get? f = some (⟨.type "function", od, .func (PySem.W.kla_fn "<lambda>" F.qual F.params b F.scope F.cl pm (.ref F.c) ctv), sl⟩ : Obj) := by
  obtain ⟨z, _, _⟩ := hok f _ e
  exact z
section
variable {X : Cx} {pins : List (Addr × Obj)} {σ : L2.St} {H : Hp} {s : Shared}
theorem inv_lam {F : NdefX.NF} {b : Expr} {o : Obj} {t' : Nat} {pm ctv : Value} (I : Inv X pins σ H s) (ho : o = { cls := .type "function", data := .func (PySem.W.kla_fn "<lambda>" F.qual F.params b F.scope F.cl pm (.ref F.c) ctv) }) :
    Inv X pins σ (upd H s.heap.objs.size (LamO s.heap.objs.size F b)) { s with heap := s.heap.push o, toks := t' } := by
  subst ho
  refine I.laid (a := s.heap.objs.size) (fun b u e => Heap.get?_push_of_some _ e) (Nat.le_refl _) ?_
  have e : (s.heap.push ({ cls := .type "function", data := .func (PySem.W.kla_fn "<lambda>" F.qual F.params b F.scope F.cl pm (.ref F.c) ctv) } : Obj)).get? s.heap.objs.size = some ({ cls := .type "function", data := .func (PySem.W.kla_fn "<lambda>" F.qual F.params b F.scope F.cl pm (.ref F.c) ctv) } : Obj) := Heap.get?_push_size _ rfl
  exact ⟨⟨_, _, pm, ctv, e⟩, ⟨_, e⟩, fun h1 h2 ⟨od, sl, p, t, z⟩ st => ⟨od, sl, p, t, st _ z⟩⟩
/-- a lambda is made: its code object is new, or found in the table -/
theorem lam_makeN {T : List NdefX.NTab} {nm : Nat → Nat → Str} {c P : Addr} {params : Arguments} {body : Expr} {scope : Scope} {pos : Pos} {E : Value → Shared → Prop} {Q : Value → Shared → Prop} (I : Inv X pins σ H s) (TB : LamX.TabB X.base X.mg c P) (hcode : X.env.code = .ref c)
    (hm : (P, nm) ∈ T) (hn : nm pos.line pos.col = X.env.qual ++ "<lambda>") (hu : ∀ p ∈ T, p.1 = P → p.2 = nm) (hT : NdefX.TabsN T H) (hdef : defaultsOf params X.env = ([], [])) (hfree : ∀ y ∈ scope.names, y.2 = .free → ∃ c, X.env.cells.lookup y.1 = some c)
    (h : ∀ (f c' : Addr) (H1 : Hp) (s' : Shared), Inv X pins σ H1 s' → LamX.ExtN H H1 → (∀ b, H1 b = Option.none → H b = Option.none) → NdefX.TabsN T H1 → H f = none → H1 f = some (LamO f ⟨"<lambda>", X.env.qual ++ "<lambda>", params, [], scope, cloFrom X.env.cells scope.names [], c'⟩ body) → H1 c' = some (LamX.CodeO c' (X.env.qual ++ "<lambda>")) → Q (.ref f) s') :
    wpAny (model X.prog X.w) X.A (eval (.Lambda params body scope pos) X.env) Q E s := by
  refine PySem.W.kla_eval hdef ?_
  obtain ⟨ps, hP, ht, ha⟩ := (show NdefX.TabN H P nm from hT _ hm)
  have bP : s.heap.BuiltinsAt X.mg P := TB.bm.keeps I.bk
  have hP' : s.heap.get? P = some { cls := .none, data := .fields ps } := I.hok P _ hP
  cases hc : codeAmong pos ps.toList with
  | none =>
    refine PySem.W.kla_makeFunction (mg := X.mg) (c := c) (P := P) (ps := ps) (closure_ok hfree) I.ok.glob (I.mod.glob.keeps I.bk) hcode (TB.code.keeps I.bk) hP' ht hc TB.gP bP fun c' ctv h' tk hx hge hlt hrec htb => ?_
    obtain ⟨c2, oc, vs, t, e2, hoc, hd, hv⟩ := hrec
    cases e2
    have nC : H c' = none := I.hok.fresh hge
    have I1 := LamX.inv_table (t' := tk) (more := #[rawInt pos.line, rawInt pos.col, .ref c']) (h' := h') I hP (fun b o hb e => hx b o hb e) htb hge ⟨oc, vs, t, hoc, hd, hv⟩
    have hE : LamX.ExtN H (upd (upd H P (.tbl (ps ++ #[rawInt pos.line, rawInt pos.col, .ref c']))) c' (LamX.CodeO c' (X.env.qual ++ "<lambda>"))) := fun b o e n => by
      rw [upd_ne (ne_of_none e nC), upd_ne (fun z => n ps (Option.some.inj (e.symm.trans (by rw [z]; exact hP))))]
      exact e
    have eL : (ps ++ #[rawInt pos.line, rawInt pos.col, .ref c']).toList = ps.toList ++ [rawInt pos.line, rawInt pos.col, .ref c'] := by simp
    have T1 : NdefX.TabsN T (upd (upd H P (.tbl (ps ++ #[rawInt pos.line, rawInt pos.col, .ref c']))) c' (LamX.CodeO c' (X.env.qual ++ "<lambda>"))) := fun p hp => by
      by_cases hb : p.1 = P
      · rw [hu p hp hb, hb]
        refine ⟨_, by rw [upd_ne (ne_of_none hP nC), upd_same], by rw [eL]; exact PySem.TriplesOk_snoc _ _ _ _ ht, fun p' cv hcv => ?_⟩
        rw [eL] at hcv
        rcases NdefX.among_app2 _ ht hcv with z | ⟨z, z1, z2⟩
        · obtain ⟨c0, e1, e2⟩ := ha p' cv z
          exact ⟨c0, e1, hE _ _ e2 LamX.codeO_ne⟩
        · refine ⟨c', z, ?_⟩
          rw [← z1, ← z2, hn]
          exact upd_same
      · obtain ⟨ps', a1, a2, a3⟩ := hT p hp
        refine ⟨ps', by rw [upd_ne (ne_of_none a1 nC), upd_ne hb]; exact a1, a2, fun p' cv hcv => ?_⟩
        obtain ⟨c0, e1, e2⟩ := a3 p' cv hcv
        exact ⟨c0, e1, hE _ _ e2 LamX.codeO_ne⟩
    have nF := I1.hok.fresh (Nat.le_refl _)
    have I2 := inv_lam (F := ⟨"<lambda>", X.env.qual ++ "<lambda>", params, [], scope, cloFrom X.env.cells scope.names [], c'⟩) (b := body) (t' := tk) (pm := (X.mg "__name__").getD .none) (ctv := ctv) I1 rfl
    refine h h'.objs.size c' _ _ I2 (fun b o e n => ?_) (fun b e => NdefX.upd_none (NdefX.upd_none (NdefX.upd_none e))) (T1.ext fun b o e => ?_) (I.hok.fresh (Nat.le_trans hge (Nat.le_of_lt hlt))) upd_same ?_
    · have e1 := hE b o e n
      exact (upd_ne (ne_of_none e1 nF)).trans e1
    · exact (upd_ne (ne_of_none e nF)).trans e
    · exact (upd_ne (Nat.ne_of_lt hlt)).trans upd_same
  | some cv =>
    obtain ⟨c', e, hco⟩ := ha pos cv hc
    subst e
    rw [hn] at hco
    refine PySem.W.kla_makeFunctionHit (mg := X.mg) (c := c) (P := P) (ps := ps) (closure_ok hfree) I.ok.glob (I.mod.glob.keeps I.bk) hcode (TB.code.keeps I.bk) hP' ht hc bP fun ctv h' tk hx hsz => ?_
    have I1 : Inv X pins σ H { s with heap := h', toks := tk } := I.kept hx
    have nF : H h'.objs.size = none := I1.hok.fresh (Nat.le_refl _)
    have I2 := inv_lam (F := ⟨"<lambda>", X.env.qual ++ "<lambda>", params, [], scope, cloFrom X.env.cells scope.names [], c'⟩) (b := body) (t' := tk) (pm := (X.mg "__name__").getD .none) (ctv := ctv) I1 rfl
    refine h h'.objs.size c' _ _ I2 (fun b o e n => ?_) (fun b e => NdefX.upd_none e) (hT.ext fun b o e => ?_) nF upd_same ?_
    · exact (upd_ne (ne_of_none e nF)).trans e
    · exact (upd_ne (ne_of_none e nF)).trans e
    · exact (upd_ne (ne_of_none hco nF)).trans hco
end
end L3

/-! ### text Lj -/
namespace L3
open PySem PySem.Spec PyProof.Rows L2

/-! ### closures handed on -/
/-- what is the same at every address -/
noncomputable def anyF {α : Type} (bad : α) (r : Addr → α) : α := open Classical in if h : ∃ x, ∀ f, r f = x then h.choose else bad
@[simp] theorem anyF_const {α : Type} (bad x : α) : anyF bad (fun _ => x) = x := by
  unfold anyF
  have h : ∃ y, ∀ f : Addr, (fun _ : Addr => x) f = y := ⟨x, fun _ => rfl⟩
  rw [dif_pos h]
  exact (h.choose_spec 0).symm
theorem anyF_eq {α : Type} {bad x : α} {r : Addr → α} (h : ∀ f, r f = x) : anyF bad r = x := by
  rw [show r = fun _ => x from funext h, anyF_const]
theorem anyF_at {α : Type} {bad : α} {r : Addr → α} {p : α → Prop} (h : p (anyF bad r)) (nb : ¬ p bad) (f : Addr) : p (r f) := by
  unfold anyF at h
  split at h
  · rename_i q
    rw [q.choose_spec f]
    exact h
  · exact (nb h).elim
theorem Post.sig {K : PySem.W.Frag} {T : Tb} {E : XK} {α β : Type} {Rel : Hp → Wo → α → β → Prop} {σ σ' : L2.St} {H : Hp} {ρ : Wo} {r : Res α} {Q : β → Hp → Prop} (h : Post K T (fun c d _ H => E c d H) Rel σ H ρ r Q) : Post K T (fun c d _ H => E c d H) Rel σ' H ρ r Q := by
  cases r with
  | ok a st => exact h
  | err C p st => exact h
  | bad => exact h
theorem Post.weak {K : PySem.W.Frag} {T T' : Tb} {W : WX} {α β : Type} {Rel : Hp → Wo → α → β → Prop} {σ : L2.St} {H : Hp} {ρ : Wo} {r : Res α} {Q : β → Hp → Prop} (w : ∀ H ρ st, Ok K T' H ρ st → Ok K T H ρ st) (h : Post K T W Rel σ H ρ r Q) : Post K T' W Rel σ H ρ r Q := by
  cases r with
  | ok a st => exact fun b H' ρ' g o rel => h b H' ρ' g (w _ _ _ o) rel
  | err C p st => exact fun d H' ρ' g o pr => h d H' ρ' g (w _ _ _ o) pr
  | bad => exact h
theorem cells_later {fs : List Addr} {H H1 : Hp} {h h1 : Heap} {cl : List (Str × Addr)} {fr : List Str} {ws : List (Option V)} (un : Un fs [] H H1 h h1) (C : NdefX.CellsAt cl fr ws h H) : NdefX.CellsAt cl fr ws h1 H1 := by
  have kp : ∀ y c, cl.lookup y = some c → ∀ v, h.IsCell c v → h1.IsCell c v := fun y c e v ⟨o, ho, hd⟩ => by
    obtain ⟨sl, q⟩ := un.any ho (C.all y c e).1 (by simp)
    exact ⟨_, q, hd⟩
  refine ⟨C.len, fun y c e => ?_, C.inj, fun i y e => ?_⟩
  · obtain ⟨n, v, z⟩ := C.all y c e
    refine ⟨?_, v, kp y c e v z⟩
    obtain ⟨o, ho, _⟩ := z
    exact un.free c o ho n (by simp)
  · obtain ⟨c, hc, hv⟩ := C.has i y e
    refine ⟨c, hc, fun v ev => ?_⟩
    obtain ⟨u, r, z⟩ := hv v ev
    exact ⟨u, r, kp y c hc _ z⟩
/-- the captured cells held so when the context was entered -/
structure CloAt (X : Cx) (cl : List (Str × Addr)) (fr : List Str) (ws : List (Option V)) : Prop where
  ex : X.ex = []
  c : NdefX.CellsAt cl fr ws X.s_0.heap X.H_0
theorem CloAt.at {X : Cx} {cl : List (Str × Addr)} {fr : List Str} {ws : List (Option V)} {pins : List (Addr × Obj)} {σ : L2.St} {H : Hp} {s : Shared} (C : CloAt X cl fr ws) (I : Inv X pins σ H s) : NdefX.CellsAt cl fr ws s.heap H := by
  have u := I.base
  rw [C.ex] at u
  exact cells_later u C.c
theorem CloAt.tr {X : Cx} {cl : List (Str × Addr)} {fr : List Str} {ws : List (Option V)} {pn : List (Addr × Obj)} {xe : Value → Shared → Prop} (C : CloAt X cl fr ws) : CloAt (X.tr pn xe) cl fr ws := ⟨C.ex, C.c⟩
/-- the promise of a function that was handed on: it does ap -/
structure Clo (P : Program) (w : World) (K : PySem.W.Frag) (mg : Str → Option Value) (base : Heap) (T : Tb) (k : Nat) (g : Addr) (cl : List (Str × Addr)) (fr : List Str) (ws : List (Option V)) (ap : List D → Store → Res D) : Prop where
  fn : ∀ (H : Hp) (ρ : Wo) (h : Heap), T.Al K H ρ → HOk P w H h → PySem.W.FnAt g h
  run : ∀ (A : Around) (outer : List Env) (s : Shared) (H : Hp) (us : List Value) (vs : List V) (ds : List D) (ρ : Wo) (st : Store) (Q : VK) (E : XK), Room k A → A.guards = some [] → Env0 P w K mg base A outer s H → NdefX.CellsAt cl fr ws s.heap H → Vals vs us →
    Ok K T H ρ st → RL K H ρ ds vs → Post K T (fun c d _ H => E c d H) (R K) [] H ρ (ap ds st) Q → codeAny (model P w) A (.call (.ref g) ⟨us, []⟩) (L2.CR (L2.CX P w) outer P w H s Q E) s
/-- the slots of a closure's body at its begin -/
def begF (n : Nat) (ds : List D) (caps : Sl) : Sl := ds.map some ++ (caps ++ List.replicate (n - ds.length - caps.length) none)
def lamM (n k : Nat) (me : EM) (caps : Sl) (ds : List D) (st : Store) : Res D := if ds.length = k then me (begF n ds caps) st else .bad
def cloM (lv : Nat → D → Store → Res D) (n k : Nat) (m : SM) (caps : Sl) (ds : List D) (st : Store) : Res D := if ds.length = k then endF lv st.length (m (begF n ds caps) st) else .bad
/-- captured slots: what they are worth, what is known of them -/
structure CapsR (vs : List (D × V)) (caps : Sl) (ws : List (Option V)) : Prop where
  len : caps.length = ws.length
  at' : ∀ (i : Nat) (d : D), caps[i]? = some (some d) → ∃ v, ws[i]? = some (some v) ∧ (d, v) ∈ vs
theorem RS.begF {K : PySem.W.Frag} {T : Tb} {H : Hp} {ρ : Wo} {ds : List D} {vs : List V} {caps : Sl} {ws : List (Option V)} {N : List Str} (r : RL K H ρ ds vs) (c : CapsR T.vs caps ws) (al : T.Al K H ρ) : RS K H ρ (L3.begF N.length ds caps) (NdefX.startF N vs ws) := by
  unfold L3.begF NdefX.startF
  have lv := r.len
  have lc := c.len
  refine ⟨by simp only [List.length_append, List.length_map, List.length_replicate, lv, lc], fun i d e => ?_⟩
  by_cases hi : i < ds.length
  · rw [List.getElem?_append_left (by rw [List.length_map]; exact hi), List.getElem?_map] at e
    cases q : ds[i]? with
    | none => rw [q] at e; cases e
    | some d' =>
      rw [q] at e
      cases e
      obtain ⟨v, h1, h2⟩ := r.get q
      exact ⟨v, by rw [List.getElem?_append_left (by rw [List.length_map, lv]; exact hi), List.getElem?_map, h1]; rfl, h2⟩
  · rw [List.getElem?_append_right (by rw [List.length_map]; omega), List.length_map] at e
    rw [List.getElem?_append_right (by rw [List.length_map]; omega), List.length_map, lv]
    by_cases h2 : i - ds.length < caps.length
    · rw [List.getElem?_append_left h2] at e
      rw [List.getElem?_append_left (by omega)]
      obtain ⟨v, h3, h4⟩ := c.at' _ _ e
      exact ⟨v, h3, al.v _ h4⟩
    · rw [List.getElem?_append_right (by omega), List.getElem?_replicate] at e
      split at e <;> cases e
section
variable {P : Program} {w : World} {K : PySem.W.Frag} {mg : Str → Option Value} {base : Heap} {T : Tb} {N ps fr : List Str} {F : NdefX.NF} {f : Addr} {k n kp : Nat} {caps : Sl} {ws : List (Option V)}
/-- THE RULE for a lambda that is handed on -/
theorem Clo.of_lam {b : Expr} {me : EM} (S : NdefX.NScope N ps fr F.scope) (hn : N.length = n) (hp : ps.length = kp) (hb : ∀ (pm ctv : Value) (us : List Value), us.length = ps.length → bindArgs (PySem.W.kla_fn "<lambda>" F.qual F.params b F.scope F.cl pm (.ref F.c) ctv) ⟨us, []⟩ = pure (ps.zip us))
    (hf : (f, LamO f F b) ∈ T.hs) (hc : (F.c, LamX.CodeO F.c F.qual) ∈ T.hs) (hw : CapsR T.vs caps ws)
    (hbody : ∀ (A : Around) (outer : List Env) (s : Shared) (H : Hp) (E : XK) (X : Cx), X = NdefX.ncx (L2.CX P w) P w K mg base N F f A outer s H E → Room k X.A → X.A.guards = some [] → Takes X (fun c d _ H => E c d H) → DE X T (fun c d _ H => E c d H) b me) :
    Clo P w K mg base T (k + 1) f F.cl fr ws (lamM n kp me caps) := by
  subst hn hp
  refine ⟨fun H ρ h al hok => ?_, fun A outer s H us vs ds ρ st Q E hr hg e0 C r ok rd h => ?_⟩
  · obtain ⟨od, sl, pm, ctv, ho⟩ := lamO_at hok (al.o _ hf).1
    exact ⟨_, od, _, sl, ho⟩
  · unfold lamM at h
    split at h
    · rename_i hlen
      have hl : vs.length = ps.length := by rw [rd.len, hlen]
      have lim : s.heap.NoLimit := e0.mod.nolimit.keeps fun b o e => (e0.bs b o e).1
      obtain ⟨od, sl, pm, ctv, ho⟩ := lamO_at e0.hok (ok.al.o _ hf).1
      refine PySem.W.kla_callFunE hr.depth ho rfl S.co S.gen rfl (NdefX.codeO_at e0.hok (ok.al.o _ hc).1) ?_
      rw [hb pm ctv us (by rw [← r.length]; exact hl)]
      refine wpAny_pure (wpAny_newFunctionEnv S.nocell (fun ⟨n, _⟩ hy => S.par n (List.of_mem_zip hy).1) (fun h₁ hns hsb => ⟨lim.fresh _ hsb, ?_⟩) S.kind)
      have kp : ∀ b o, s.heap.get? b = some o → h₁.get? b = some o := fun b o e => hsb.extBut b o (Nat.ne_of_lt (Heap.lt_size e)) (Heap.get?_push_of_some _ e)
      have I : Inv (NdefX.ncx (L2.CX P w) P w K mg base N F f A outer s H E) [] (NdefX.startF N vs ws) H { s with heap := h₁, toks := s.toks + (ps.zip us).length } := NdefX.inv_startN S hr.hd e0 hl r C hns kp
      show codeAny _ _ (.expr b (NdefX.envF F f s.heap.objs.size)) _ _
      refine PySem.W.kla_codeExpr (wpAny_mono ((hbody A outer s H E _ rfl (hr.deeper _) hg (takes_of rfl rfl rfl rfl)).pe.run [] _ (NdefX.startF N vs ws) H Q I ⟨ρ, _, st, ok, RS.begF rd hw ok.al, h.sig⟩) (fun v s' hq => ?_) fun e s' hq => hq)
      obtain ⟨w', H', J', rv, q⟩ := hq
      exact ⟨w', H', J'.os, J'.bare, J'.base, J'.hok, rv, q⟩
    · exact h.elim
/-- THE RULE for a nested def that is handed on -/
theorem Clo.of_def {m : SM} {lv : Nat → D → Store → Res D} (S : NdefX.NScope N ps fr F.scope) (hn : N.length = n) (hp : ps.length = kp) (hl : Leaves lv) (hb : ∀ (doc pm ctv : Value) (us : List Value), us.length = ps.length → bindArgs (F.fd doc pm ctv) ⟨us, []⟩ = pure (ps.zip us))
    (hf : (f, NdefX.FnO f F) ∈ T.hs) (hc : (F.c, LamX.CodeO F.c F.qual) ∈ T.hs) (hw : CapsR T.vs caps ws)
    (hbody : ∀ (A : Around) (outer : List Env) (s : Shared) (H : Hp) (E : XK) (X : Cx), X = NdefX.ncx (L2.CX P w) P w K mg base N F f A outer s H E → Room k X.A → X.A.guards = some [] → Takes X (fun c d _ H => E c d H) → PassesOwn (model X.prog X.w) X.A X.env X.xe → DB X T (fun c d _ H => E c d H) F.body m) :
    Clo P w K mg base T (k + 1) f F.cl fr ws (cloM lv n kp m caps) := by
  subst hn hp
  refine ⟨fun H ρ h al hok => ?_, fun A outer s H us vs ds ρ st Q E hr hg e0 C r ok rd h => ?_⟩
  · obtain ⟨od, sl, doc, pm, ctv, ho⟩ := NdefX.fnO_at hok (al.o _ hf).1
    exact ⟨_, od, _, sl, ho⟩
  · unfold cloM at h
    split at h
    · rename_i hlen
      have hl' : vs.length = ps.length := by rw [rd.len, hlen]
      have lim : s.heap.NoLimit := e0.mod.nolimit.keeps fun b o e => (e0.bs b o e).1
      obtain ⟨od, sl, doc, pm, ctv, ho⟩ := NdefX.fnO_at e0.hok (ok.al.o _ hf).1
      refine codeAny_call_function hr.depth ho rfl S.co S.gen rfl (NdefX.codeO_at e0.hok (ok.al.o _ hc).1) ?_
      rw [hb doc pm ctv us (by rw [← r.length]; exact hl')]
      refine wpAny_pure (wpAny_newFunctionEnv S.nocell (fun ⟨n, _⟩ hy => S.par n (List.of_mem_zip hy).1) (fun h₁ hns hsb => ⟨lim.fresh _ hsb, ?_⟩) S.kind)
      show codeAny _ _ (.func F.body (NdefX.envF F f s.heap.objs.size)) _ _
      refine codeAny_func ?_
      have kp : ∀ b o, s.heap.get? b = some o → h₁.get? b = some o := fun b o e => hsb.extBut b o (Nat.ne_of_lt (Heap.lt_size e)) (Heap.get?_push_of_some _ e)
      have I : Inv (NdefX.ncx (L2.CX P w) P w K mg base N F f A outer s H E) [] (NdefX.startF N vs ws) H { s with heap := h₁, toks := s.toks + (ps.zip us).length } := NdefX.inv_startN S hr.hd e0 hl' r C hns kp
      have run := (hbody A outer s H E _ rfl (hr.deeper _) hg (takes_of rfl rfl rfl rfl) (passes_of rfl)).ps.run [] _ (NdefX.startF N vs ws) H { nx := fun _ H' => Q .non H', rt := Q } I ⟨ρ, L3.begF N.length ds caps, st, ok, RS.begF rd hw ok.al, ?_⟩
      · refine wpAny_mono run (fun fl s' hs => ?_) fun e s' hs => hs
        have fin : ∀ {σ' : L2.St} {H' : Hp} {v : V} {u : Value}, Inv (NdefX.ncx (L2.CX P w) P w K mg base N F f A outer s H E) [] σ' H' s' → L2.RelV v u → Q v H' → CE outer P w H s Q u s' :=
          fun {σ' H' v u} J rv q => ⟨v, H', J.os, J.bare, J.base, J.hok, rv, q⟩
        cases fl with
        | ret u =>
          obtain ⟨v, σ', H', J, rv, q⟩ := hs
          exact fin J rv q
        | next =>
          obtain ⟨σ', H', J, q⟩ := hs
          exact fin (v := V.non) (u := Value.none) J rfl q
        | brk =>
          obtain ⟨_, _, _, q⟩ := hs
          exact False.elim q
        | cont =>
          obtain ⟨_, _, _, q⟩ := hs
          exact False.elim q
      · rw [← ok.len] at h
        cases q : m (L3.begF N.length ds caps) st with
        | nx δ' st' =>
          rw [q] at h
          exact fun σ' H' ρ' g o rs => hl _ _ _ _ _ _ _ _ .non .non st' Q ok.al g o rfl h
        | rt d st' =>
          rw [q] at h
          exact fun v H' ρ' g o rd => hl _ _ _ _ _ _ _ _ d v st' Q ok.al g o rd h
        | err C p δ' st' =>
          rw [q] at h
          exact fun σ' d H' ρ' g o rs pr => leaveE_ok (σ := []) ok.al g o pr h
        | bk d st' => rw [q] at h; exact h.elim
        | ct d st' => rw [q] at h; exact h.elim
        | bad => rw [q] at h; exact h.elim
    · exact h.elim
end
/-! ### defs that take a function -/
/-- a def's promise that takes the function g, which does ap -/
structure FnC (P : Program) (w : World) (K : PySem.W.Frag) (mg : Str → Option Value) (base : Heap) (tabs : List NdefX.NTab) (kc k : Nat) (f : Addr) (fd : FuncData) (ps : List Str) (mf : Addr → (List D → Store → Res D) → List D → Store → Res D) : Prop where
  len : ∀ g ap ds st, ds.length ≠ ps.length → mf g ap ds st = .bad
  run : ∀ (T : Tb) (A : Around) (outer : List Env) (s : Shared) (H : Hp) (args : Args) (us : List Value) (vs : List V) (ds : List D) (ρ : Wo) (st : Store) (Q : VK) (E : XK) (g : Addr) (cl : List (Str × Addr)) (fr : List Str) (ws : List (Option V)) (ap : List D → Store → Res D), T.tabs = tabs →
    Clo P w K mg base T kc g cl fr ws ap → NdefX.CellsAt cl fr ws s.heap H → Room k A → A.guards = some [] → Env0 P w K mg base A outer s H → BindsTo s fd args (ps.zip us) → Vals vs us →
    Ok K T H ρ st → RL K H ρ ds vs → Post K T (fun c d _ H => E c d H) (R K) [] H ρ (mf g ap ds st) Q → codeAny (model P w) A (.call (.ref f) args) (L2.CR (L2.CX P w) outer P w H s Q E) s
/-- THE RULE for a def that takes a function -/
theorem FnC.of {P : Program} {w : World} {K : PySem.W.Frag} {mg : Str → Option Value} {base : Heap} {tabs : List NdefX.NTab} {x qual : Str} {stm : Stmt} {f : Addr} {fd : FuncData} {N ps : List Str} {kc k n kp : Nat} {m : Addr → (List D → Store → Res D) → SM} {lv : Nat → D → Store → Res D}
    (F : Fun K x qual stm f fd) (S : FnScope N ps (defScope stm)) (hn : N.length = n) (hp : ps.length = kp) (hl : Leaves lv)
    (hbody : ∀ (T : Tb) (g : Addr) (cl : List (Str × Addr)) (fr : List Str) (ws : List (Option V)) (ap : List D → Store → Res D) (cdv : Value) (A : Around) (outer : List Env) (s : Shared) (H : Hp) (E : XK) (X : Cx), T.tabs = tabs → codeOf K f = some cdv → X = cxOf (L2.CX P w) P w K mg base N qual (defScope stm) f cdv A outer s H E →
      Clo P w K mg base T kc g cl fr ws ap → CloAt X cl fr ws → Room k X.A → X.A.guards = some [] → Takes X (fun c d _ H => E c d H) → PassesOwn (model X.prog X.w) X.A X.env X.xe → DB X T (fun c d _ H => E c d H) (defBody stm) (m g ap)) :
    FnC P w K mg base tabs kc (k + 1) f fd ps (fun g ap => fnM lv n kp (m g ap)) := by
  subst hn hp
  refine ⟨fun g ap ds st h => if_neg h, fun T A outer s H args us vs ds ρ st Q E g cl fr ws ap hT hc hC hr hg e0 hb r ok rd h => ?_⟩
  have hlen : ds.length = ps.length := by
    by_cases q : ds.length = ps.length
    · exact q
    · rw [show fnM lv N.length ps.length (m g ap) ds st = .bad from if_neg q] at h
      exact h.elim
  rw [show fnM lv N.length ps.length (m g ap) ds st = endF lv st.length (m g ap (beg N.length ds) st) from if_pos hlen] at h
  obtain ⟨oc, od, kV, doc, pm, an, cdv, ct, osl, rfl, lk, hcd⟩ := F.ex
  refine LamX.run_ofS (N := N) (ps := ps) (vs := vs) lk hcd S hr e0 hb r (by rw [rd.len, hlen]) fun hr' => ?_
  refine ⟨_, (hbody T g cl fr ws ap cdv A outer s H E _ hT (by unfold codeOf; rw [lk]) rfl hc ⟨rfl, hC⟩ hr' hg (takes_of rfl rfl rfl rfl) (passes_of rfl)).ps, ρ, beg N.length ds, st, ok, RS.beg rd, ?_⟩
  rw [← ok.len] at h
  cases q : m g ap (beg N.length ds) st with
  | nx δ' st' =>
    rw [q] at h
    exact fun σ' H' ρ' g o rs => hl _ _ _ _ _ _ _ _ .non .non st' Q ok.al g o rfl h
  | rt d st' =>
    rw [q] at h
    exact fun v H' ρ' g o rd => hl _ _ _ _ _ _ _ _ d v st' Q ok.al g o rd h
  | err C p δ' st' =>
    rw [q] at h
    exact fun σ' d H' ρ' g o rs pr => leaveE_ok (σ := []) ok.al g o pr h
  | bk d st' => rw [q] at h; exact h.elim
  | ct d st' => rw [q] at h; exact h.elim
  | bad => rw [q] at h; exact h.elim
section
variable {X : Cx} {T : Tb} {W : WX} {e : Expr} {es : List Expr} {me : EM} {mas : AM} {pos p1 p2 lpos : Pos} {k kc : Nat} {f g : Addr} {fd : FuncData} {ps fr : List Str} {mf : Addr → (List D → Store → Res D) → List D → Store → Res D} {ap : List D → Store → Res D} {x a : Str} {i : Nat} {cl : List (Str × Addr)} {ws : List (Option V)}
/-- what a call of a closure ends as -/
theorem after_call {pins : List (Addr × Obj)} {σ : L2.St} {H : Hp} {s : Shared} {Q : VK} {v : Value} {us : List Value} {ks : List (Str × Value)} (tk : Takes X W) (I : Inv X pins σ H s)
    (h : codeAny (model X.prog X.w) X.A (.call v ⟨us, ks⟩) (L2.CR (L2.CX X.prog X.w) X.stack X.prog X.w H s Q (WE W σ)) s) : wpAny (model X.prog X.w) X.A (call v us ks) (EP X pins σ Q) X.xe s := by
  refine wpAny_call (codeAny_mono h fun r s' hq => ?_)
  cases r with
  | error e => exact passAt tk σ pins H s e s' I hq
  | ok fl =>
    cases fl with
    | ret u => exact I.after hq
    | next => exact False.elim hq
    | brk => exact False.elim hq
    | cont => exact False.elim hq
theorem Post.we {σ : L2.St} {H : Hp} {ρ : Wo} {r : Res D} {Q : VK} (h : Post X.K T W (R X.K) σ H ρ r Q) : Post X.K T (fun c d _ H => WE W σ c d H) (R X.K) [] H ρ r Q := by
  cases r with
  | ok d st' => exact h
  | err C p st' => exact h
  | bad => exact h
/-- a(e, ..), a holds the function g -/
def eClo (i : Nat) (g : Addr) (ap : List D → Store → Res D) (m : AM) : EM := fun δ st => match δ[i]? with
  | some (some (.ref b)) => if b = g then (m δ st).bind ap else .bad
  | _ => .bad
theorem clo_slot {σ : L2.St} {H : Hp} {ρ : Wo} {δ : Sl} {st : Store} {Q : VK} (rs : RS X.K H ρ δ σ) (h : Post X.K T W (R X.K) σ H ρ (eClo i g ap mas δ st) Q) : σ[i]? = some (some (.ref g)) ∧ Post X.K T W (R X.K) σ H ρ ((mas δ st).bind ap) Q := by
  unfold eClo at h
  split at h
  · rename_i b eb
    split at h
    · rename_i hbg
      subst hbg
      obtain ⟨v, h2, h3⟩ := rs.at' _ _ eb
      exact ⟨by rw [h2, show v = .ref b from h3], h⟩
    · exact h.elim
  · exact h.elim
theorem de_clo (i : Nat) (hc : Clo X.prog X.w X.K X.mg X.base T k g cl fr ws ap) (C : CloAt X cl fr ws) (hr : Room k X.A) (hgd : X.A.guards = some []) (tk : Takes X W) (ha : DA X T W (e :: es) mas) (hN : X.N[i]? = some a := by rfl) (hv : Vis X.env.scope a := by first | exact Or.inl rfl | exact Or.inr (Or.inl rfl) | exact Or.inr (Or.inr rfl))
    (hd : (a == ("__debug__" : Str)) = false := by decide) (hcd : (a == ("__classdict__" : Str)) = false := by decide)
    (he : starEach (e :: es) X.env = (false, eval e X.env) :: starEach es X.env := by rfl) (hpl : (backTo pos (starEach es X.env)).any (·.1) = false := by rfl) : DE X T W (.Call (.Name a p1) (e :: es) [] pos) (eClo i g ap mas) := by
  refine ⟨⟨fun pins s σ H Q I ⟨ρ, δ, st, ok, rs, h⟩ => ?_⟩⟩
  obtain ⟨hs, h⟩ := clo_slot rs h
  refine wpAny_Call_Name_kw (thn ((pe_var (pos := p1) hN hv hd hcd).run pins s σ H (fun v H1 => v = .ref g ∧ H1 = H) I ⟨.ref g, hs, rfl, rfl⟩) fun u s1 ⟨v, H1, I1, r1, q1⟩ => ?_)
  obtain ⟨ev, eH⟩ := q1
  subst ev
  rw [eH] at I1
  obtain rfl : u = Value.ref g := r1
  refine PySem.W.callWith_F (first := []) (hc.fn H ρ _ ok.al I1.hok) (thn (ha.pa.run pos pins s1 σ H (fun vs H2 => ∃ ρ2 ds st2, Ok X.K T H2 ρ2 st2 ∧ RL X.K H2 ρ2 ds vs ∧ Post X.K T W (R X.K) σ H2 ρ2 (ap ds st2) Q) I1
    ⟨ρ, δ, st, ok, rs, Post.bind h fun xs st1 vs H1 ρ1 g1 ok1 rx h1 => ⟨ρ1, xs, st1, ok1, rx, h1⟩⟩) fun us s2 ⟨vs, H2, I2, r, ρ2, ds, st2, ok2, rd, h2⟩ => ⟨hc.fn H2 ρ2 _ ok2.al I2.hok, ?_⟩) he hpl
  show wpAny _ _ (call (.ref g) us) _ _ _
  exact after_call tk I2 (hc.run X.A X.stack s2 H2 us vs ds ρ2 st2 Q (WE W σ) hr hgd I2.env0 (C.at I2) r ok2 rd h2.we)
/-- a() -/
theorem de_clo0 (i : Nat) (hc : Clo X.prog X.w X.K X.mg X.base T k g cl fr ws ap) (C : CloAt X cl fr ws) (hr : Room k X.A) (hgd : X.A.guards = some []) (tk : Takes X W) (hN : X.N[i]? = some a := by rfl) (hv : Vis X.env.scope a := by first | exact Or.inl rfl | exact Or.inr (Or.inl rfl) | exact Or.inr (Or.inr rfl))
    (hd : (a == ("__debug__" : Str)) = false := by decide) (hcd : (a == ("__classdict__" : Str)) = false := by decide) : DE X T W (.Call (.Name a p1) [] [] pos) (eClo i g ap aNil) := by
  refine ⟨⟨fun pins s σ H Q I ⟨ρ, δ, st, ok, rs, h⟩ => ?_⟩⟩
  obtain ⟨hs, h⟩ := clo_slot rs h
  refine wpAny_Call_Name_kw (thn ((pe_var (pos := p1) hN hv hd hcd).run pins s σ H (fun v H1 => v = .ref g ∧ H1 = H) I ⟨.ref g, hs, rfl, rfl⟩) fun u s1 ⟨v, H1, I1, r1, q1⟩ => ?_)
  obtain ⟨ev, eH⟩ := q1
  subst ev
  rw [eH] at I1
  obtain rfl : u = Value.ref g := r1
  refine PySem.W.callWith_F0 (first := []) (hc.fn H ρ _ ok.al I1.hok) ?_
  show wpAny _ _ (call (.ref g) []) _ _ _
  exact after_call tk I1 (hc.run X.A X.stack s1 H [] [] [] ρ st Q (WE W σ) hr hgd I1.env0 (C.at I1) .nil ok rfl (Post.we h))
/-- f(e, .., a, ..): the function that was handed on is handed on -/
theorem de_callC (F : FnC X.prog X.w X.K X.mg X.base T.tabs kc k f fd ps mf) (hc : Clo X.prog X.w X.K X.mg X.base T kc g cl fr ws ap) (C : CloAt X cl fr ws) (hr : Room k X.A) (hgd : X.A.guards = some []) (tk : Takes X W) (hg : Gl X x) (hm : X.mg x = some (.ref f)) (hk : PySem.W.keepIn X.K (.ref f) = true) (hb : Binds X.K fd ps [])
    (ha : DA X T W (e :: es) mas) (hdb : (x == ("__debug__" : Str)) = false := by decide) (he : starEach (e :: es) X.env = (false, eval e X.env) :: starEach es X.env := by rfl) (hpl : (backTo pos (starEach es X.env)).any (·.1) = false := by rfl) :
    DE X T W (.Call (.Name x p1) (e :: es) [] pos) (eCall1 (mf g ap) mas) := by
  refine ⟨⟨fun pins s σ H Q I ⟨ρ, δ, st, ok, rs, h⟩ => ?_⟩⟩
  refine wpAny_Call_Name_kw (ld_glob I hg hm ?_ hdb)
  refine PySem.W.callWith_K (h₀ := X.base) I.ok.mod.kin hk (thn (ha.pa.run pos pins s σ H (fun vs H1 => ∃ ρ1 ds st1, Ok X.K T H1 ρ1 st1 ∧ RL X.K H1 ρ1 ds vs ∧ Post X.K T W (R X.K) σ H1 ρ1 (mf g ap ds st1) Q) I
    ⟨ρ, δ, st, ok, rs, Post.bind h fun xs st1 vs H1 ρ1 g1 ok1 rx h1 => ⟨ρ1, xs, st1, ok1, rx, h1⟩⟩) fun us s1 ⟨vs, H1, I1, r, ρ1, ds, st1, ok1, rd, h1⟩ => ⟨I1.kIn, ?_⟩) he hpl
  have hlen : ds.length = ps.length := by
    by_cases q : ds.length = ps.length
    · exact q
    · rw [F.len _ _ _ _ q] at h1
      exact h1.elim
  have hbd := hb s1 us I1.kIn (by rw [List.append_nil, ← r.length, rd.len, hlen])
  rw [List.append_nil] at hbd
  exact after_call tk I1 (F.run T X.A X.stack s1 H1 ⟨us, []⟩ us vs ds ρ1 st1 Q (WE W σ) g cl fr ws ap rfl hc (C.at I1) hr hgd I1.env0 hbd r ok1 rd h1.we)
end
end L3

/-! ### text Lk -/
namespace L3
open PySem PySem.Spec PyProof.Rows L2

/-! ### a lambda is made and handed on -/
/-- the slots that are captured -/
def capsOf (js : List Nat) (δ : Sl) : Sl := js.map fun j => (δ[j]?).join
def capsV (js : List Nat) (δ : Sl) (σ : L2.St) : List (D × V) := js.filterMap fun j => match δ[j]?, σ[j]? with
  | some (some d), some (some v) => some (d, v)
  | _, _ => none
theorem capsR {K : PySem.W.Frag} {H : Hp} {ρ : Wo} {δ : Sl} {σ : L2.St} (rs : RS K H ρ δ σ) (js : List Nat) : CapsR (capsV js δ σ) (capsOf js δ) (js.map (NdefX.slotAt σ)) := by
  refine ⟨by simp [capsOf], fun i d e => ?_⟩
  unfold capsOf at e
  rw [List.getElem?_map] at e
  cases q : js[i]? with
  | none => rw [q] at e; cases e
  | some j =>
    rw [q] at e
    simp only [Option.map_some, Option.some.injEq] at e
    have e2 : δ[j]? = some (some d) := by
      cases p : δ[j]? with
      | none => rw [p] at e; cases e
      | some o => rw [p] at e; simp at e; rw [e]
    obtain ⟨v, h1, h2⟩ := rs.at' j d e2
    refine ⟨v, by rw [List.getElem?_map, q]; show some (NdefX.slotAt σ j) = _; rw [NdefX.slotAt_of h1], ?_⟩
    unfold capsV
    rw [List.mem_filterMap]
    exact ⟨j, List.mem_of_getElem? q, by rw [e2, h1]⟩
theorem capsV_R {K : PySem.W.Frag} {H : Hp} {ρ : Wo} {δ : Sl} {σ : L2.St} (rs : RS K H ρ δ σ) (js : List Nat) : ∀ q ∈ capsV js δ σ, R K H ρ q.1 q.2 := fun q hq => by
  unfold capsV at hq
  rw [List.mem_filterMap] at hq
  obtain ⟨j, _, e⟩ := hq
  split at e
  · rename_i d v e1 e2
    cases e
    obtain ⟨v', h1, h2⟩ := rs.at' j _ e1
    rw [e2] at h1
    cases h1
    exact h2
  · cases e
/-- more is known -/
def Tb.plus (T : Tb) (hs : List (Addr × HO)) (vs : List (D × V)) : Tb := ⟨T.tabs, hs ++ T.hs, vs ++ T.vs⟩
theorem Ok.plus {K : PySem.W.Frag} {T : Tb} {H : Hp} {ρ : Wo} {st : Store} {hs : List (Addr × HO)} {vs : List (D × V)} (ok : Ok K T H ρ st) (h : ∀ p ∈ hs, H p.1 = some p.2 ∧ ¬ ρ.has p.1 ∧ ∀ ps, p.2 ≠ .tbl ps) (v : ∀ q ∈ vs, R K H ρ q.1 q.2) : Ok K (T.plus hs vs) H ρ st :=
  ⟨ok.len, ok.nd, ok.cell, ok.tab, ok.ext, ⟨fun p hp => (List.mem_append.mp hp).elim (h p) (ok.al.o p), fun q hq => (List.mem_append.mp hq).elim (v q) (ok.al.v q)⟩⟩
theorem Ok.minus {K : PySem.W.Frag} {T : Tb} {H : Hp} {ρ : Wo} {st : Store} {hs : List (Addr × HO)} {vs : List (D × V)} (ok : Ok K (T.plus hs vs) H ρ st) : Ok K T H ρ st :=
  ⟨ok.len, ok.nd, ok.cell, ok.tab, ok.ext, ⟨fun p hp => ok.al.o p (List.mem_append.mpr (.inr hp)), fun q hq => ok.al.v q (List.mem_append.mpr (.inr hq))⟩⟩
/-- the heap grew by a function -/
theorem Ok.grow {K : PySem.W.Frag} {T : Tb} {H H1 : Hp} {ρ : Wo} {st : Store} (ok : Ok K T H ρ st) (e : LamX.ExtN H H1) (n : ∀ b, H1 b = none → H b = none) (t : NdefX.TabsN T.tabs H1) : Go H ρ H1 ρ ∧ Ok K T H1 ρ st := by
  have g : Go H ρ H1 ρ := ⟨⟨[], by simp, by simp⟩, rfl, fun a o h _ nt => e a o h nt, n⟩
  have ke : ∀ a o, H a = some o → cellO o = true → H1 a = some o := fun a o h c => e a o h (fun ps z => by rw [z] at c; cases c)
  refine ⟨g, ⟨ok.len, ok.nd, fun m a c h1 h2 => ?_, t, fun a ha => ?_, ok.al.go g⟩⟩
  · have hc := ok.cell m a c h1 h2
    obtain ⟨o, ho, hco⟩ := hc.cellO
    exact hc.go g fun u hu => ke a u hu (by rw [ho] at hu; cases hu; exact hco)
  · obtain ⟨⟨o, ho, hco⟩, m⟩ := ok.ext a ha
    exact ⟨⟨o, ke a o ho hco, hco⟩, m⟩
theorem Ok.notExt {K : PySem.W.Frag} {T : Tb} {H : Hp} {ρ : Wo} {st : Store} (ok : Ok K T H ρ st) {a : Addr} {o : HO} (h : H a = some o) (n : cellO o = false) : ¬ ρ.has a := fun z => by
  obtain ⟨u, e, c⟩ := ok.thereC z
  rw [h] at e
  cases e
  rw [n] at c
  cases c
/-- the words of a lambda made in X -/
abbrev lamF (X : Cx) (params : Arguments) (scope : Scope) (c' : Addr) : NdefX.NF := ⟨"<lambda>", X.env.qual ++ "<lambda>", params, [], scope, cloFrom X.env.cells scope.names [], c'⟩
def tLamN (X : Cx) (tabs : List NdefX.NTab) (params : Arguments) (body : Expr) (scope : Scope) : TE := fun σ H Q => NdefX.TabsN tabs H ∧ ∀ (f c' : Addr) (H1 : Hp), LamX.ExtN H H1 → (∀ b, H1 b = none → H b = none) → NdefX.TabsN tabs H1 → H1 f = some (LamO f (lamF X params scope c') body) → H1 c' = some (LamX.CodeO c' (X.env.qual ++ "<lambda>")) → Q (.ref f) H1
/-- where a def keeps its code objects: its code object c, the table P; the names by places -/
structure LamK (X : Cx) (tabs : List NdefX.NTab) (nm : Nat → Nat → Str) : Prop where
  ex : ∃ c P : Addr, LamX.TabB X.base X.mg c P ∧ X.env.code = .ref c ∧ (P, nm) ∈ tabs ∧ ∀ p ∈ tabs, p.1 = P → p.2 = nm
section
variable {X : Cx} {T : Tb} {W : WX} {e b : Expr} {es : List Expr} {me : EM} {mas : AM} {pos p1 p2 lpos : Pos} {k kc n kp : Nat} {f g : Addr} {fd : FuncData} {N ps qs fr : List Str} {js : List Nat} {mf : Addr → (List D → Store → Res D) → List D → Store → Res D} {x a : Str} {params : Arguments} {scope : Scope} {nm : Nat → Nat → Str}
theorem pe_lam (L : LamK X T.tabs nm) (hn : nm lpos.line lpos.col = X.env.qual ++ "<lambda>") (hdef : defaultsOf params X.env = ([], [])) (hfree : ∀ y ∈ scope.names, y.2 = .free → X.env.scope.names.lookup y.1 = some .cell ∨ X.env.scope.names.lookup y.1 = some .free) :
    PE X (.Lambda params b scope lpos) (tLamN X T.tabs params b scope) := by
  refine ⟨fun pins s σ H Q I h => ?_⟩
  obtain ⟨hT, h⟩ := h
  obtain ⟨c, P, TB, hcode, hm, hu⟩ := L.ex
  exact lam_makeN I TB hcode hm hn hu hT hdef (fun y hy e => (hfree y hy e).elim (fun z => I.ok.has _ (.inl z)) fun z => I.ok.has _ (.inr z)) fun f c' H1 s' I1 eN nN T1 _ hf hc => ⟨.ref f, H1, I1, rfl, h f c' H1 eN nN T1 hf hc⟩
/-- arguments, a lambda the last of them -/
structure DAL (X : Cx) (T : Tb) (W : WX) (es : List Expr) (params : Arguments) (b : Expr) (scope : Scope) (m : AM) : Prop where
  pa : PA X es fun σ H Q => ∃ ρ δ st, Ok X.K T H ρ st ∧ RS X.K H ρ δ σ ∧ Post X.K T W (RL X.K) σ H ρ (m δ st) fun vs H1 => NdefX.TabsN T.tabs H1 ∧ ∀ (f c' : Addr) (H2 : Hp), LamX.ExtN H1 H2 → (∀ b, H2 b = none → H1 b = none) → NdefX.TabsN T.tabs H2 → H2 f = some (LamO f (lamF X params scope c') b) → H2 c' = some (LamX.CodeO c' (X.env.qual ++ "<lambda>")) → Q (vs ++ [.ref f]) H2
theorem PA.imp' {X : Cx} {es : List Expr} {t t' : TA} (h : PA X es t) (k : ∀ σ H Q, t' σ H Q → t σ H Q) : PA X es t' := ⟨fun pos pins s σ H Q I q => h.run pos pins s σ H Q I (k _ _ _ q)⟩
theorem dal_one (L : LamK X T.tabs nm) (hn : nm lpos.line lpos.col = X.env.qual ++ "<lambda>") (hdef : defaultsOf params X.env = ([], [])) (hfree : ∀ y ∈ scope.names, y.2 = .free → X.env.scope.names.lookup y.1 = some .cell ∨ X.env.scope.names.lookup y.1 = some .free) :
    DAL X T W [.Lambda params b scope lpos] params b scope aNil :=
  ⟨PA.imp' (pa_cons (pe_lam (T := T) L hn hdef hfree) pa_nil) fun σ H Q ⟨ρ, δ, st, ok, rs, h⟩ => by
    obtain ⟨t, h⟩ := h.ok ok rfl
    exact ⟨t, fun f c' H1 e1 e2 e3 e4 e5 => h f c' H1 e1 e2 e3 e4 e5⟩⟩
theorem dal_cons {mes : AM} (h : DE X T W e me) (h2 : DAL X T W es params b scope mes) (hs : starEach (e :: es) X.env = (false, eval e X.env) :: starEach es X.env := by rfl) : DAL X T W (e :: es) params b scope (aCons me mes) :=
  ⟨PA.imp' (pa_cons h.pe h2.pa hs) fun σ H Q ⟨ρ, δ, st, ok, rs, h⟩ => ⟨ρ, δ, st, ok, rs, Post.bind h fun x st1 v H1 ρ1 g1 ok1 rx h1 => ⟨ρ1, δ, st1, ok1, rs.go g1, Post.bind h1 fun xs st2 vs H2 ρ2 g2 ok2 rxs h2 => by
    exact h2.ok ok2 ⟨v, vs, rfl, R.go g2 x v rx, rxs⟩⟩⟩⟩
/-- f(e, .., lambda ..: b) -/
noncomputable def eCallL (mf : Addr → (List D → Store → Res D) → List D → Store → Res D) (n k : Nat) (js : List Nat) (me : EM) (m : AM) : EM := fun δ st => (m δ st).bind fun xs st1 => anyF .bad fun f => mf f (lamM n k me (capsOf js δ)) (xs ++ [.ref f]) st1
/-- the derivation of a lambda's body -/
abbrev LamB (X : Cx) (tabs : List NdefX.NTab) (kc : Nat) (N : List Str) (params : Arguments) (b : Expr) (scope : Scope) (me : EM) : Prop :=
  ∀ (T' : Tb) (f c' : Addr) (A : Around) (outer : List Env) (s : Shared) (H : Hp) (E : XK) (X' : Cx), T'.tabs = tabs → X' = NdefX.ncx (L2.CX X.prog X.w) X.prog X.w X.K X.mg X.base N (lamF X params scope c') f A outer s H E → Room kc X'.A → X'.A.guards = some [] → Takes X' (fun c d _ H => E c d H) → DE X' T' (fun c d _ H => E c d H) b me
theorem de_callL (F : FnC X.prog X.w X.K X.mg X.base T.tabs (kc + 1) k f fd ps mf) (S : NdefX.NScope N qs fr scope) (hn : N.length = n) (hp : qs.length = kp) (hfr : ∀ y ∈ fr, (y, NameKind.free) ∈ scope.names)
    (hfree : ∀ y ∈ scope.names, y.2 = .free → X.env.scope.names.lookup y.1 = some .cell ∨ X.env.scope.names.lookup y.1 = some .free) (hjs : js.map (fun j => X.N[j]?) = fr.map some)
    (hbind : ∀ (c' : Addr) (pm ctv : Value) (us : List Value), us.length = qs.length → bindArgs (PySem.W.kla_fn "<lambda>" (X.env.qual ++ "<lambda>") params b scope (cloFrom X.env.cells scope.names []) pm (.ref c') ctv) ⟨us, []⟩ = pure (qs.zip us))
    (hbody : LamB X T.tabs kc N params b scope me) (hr : Room k X.A) (hgd : X.A.guards = some []) (tk : Takes X W) (hg : Gl X x) (hm : X.mg x = some (.ref f)) (hk : PySem.W.keepIn X.K (.ref f) = true) (hb : Binds X.K fd ps [])
    (ha : DAL X T W (e :: es) params b scope mas) (hdb : (x == ("__debug__" : Str)) = false := by decide) (he : starEach (e :: es) X.env = (false, eval e X.env) :: starEach es X.env := by rfl) (hpl : (backTo pos (starEach es X.env)).any (·.1) = false := by rfl) :
    DE X T W (.Call (.Name x p1) (e :: es) [] pos) (eCallL mf n kp js me mas) := by
  refine ⟨⟨fun pins s σ H Q I ⟨ρ, δ, st, ok, rs, h⟩ => ?_⟩⟩
  refine wpAny_Call_Name_kw (ld_glob I hg hm ?_ hdb)
  refine PySem.W.callWith_K (h₀ := X.base) I.ok.mod.kin hk (thn (ha.pa.run pos pins s σ H (fun us H2 => ∃ vs f0 c' ρ1 ds st1, us = vs ++ [.ref f0] ∧ Ok X.K T H2 ρ1 st1 ∧ RS X.K H2 ρ1 δ σ ∧ H2 f0 = some (LamO f0 (lamF X params scope c') b) ∧ H2 c' = some (LamX.CodeO c' (X.env.qual ++ "<lambda>")) ∧ RL X.K H2 ρ1 ds vs ∧ Post X.K T W (R X.K) σ H2 ρ1 (mf f0 (lamM n kp me (capsOf js δ)) (ds ++ [.ref f0]) st1) Q) I
    ⟨ρ, δ, st, ok, rs, Post.bind h fun xs st1 vs H1 ρ1 g1 ok1 rx h1 => ⟨ok1.tab, fun f0 c' H2 e1 e2 e3 e4 e5 => ?_⟩⟩) fun us s1 ⟨vs0, H1, I1, r, vs, f0, c', ρ1, ds, st1, ev, ok1, rs1, hf, hc, rd, h1⟩ => ⟨I1.kIn, ?_⟩) he hpl
  · obtain ⟨g2, ok2⟩ := ok1.grow e1 e2 e3
    exact ⟨vs, f0, c', ρ1, xs, st1, rfl, ok2, (rs.go g1).go g2, e4, e5, RL.go g2 _ _ rx, (anyF_at (p := fun r => Post X.K T W (R X.K) σ H1 ρ1 r Q) h1 (fun z => z) f0).go g2⟩
  · subst ev
    have hlen : (ds ++ [D.ref f0]).length = ps.length := by
      by_cases q : (ds ++ [D.ref f0]).length = ps.length
      · exact q
      · rw [F.len _ _ _ _ q] at h1
        exact h1.elim
    have rd' : RL X.K H1 ρ1 (ds ++ [.ref f0]) (vs ++ [.ref f0]) := rd.append ⟨_, _, rfl, rfl, rfl⟩
    have hbd := hb s1 us I1.kIn (by rw [List.append_nil, ← r.length, rd'.len, hlen])
    rw [List.append_nil] at hbd
    have okP : Ok X.K (T.plus [(f0, LamO f0 (lamF X params scope c') b), (c', LamX.CodeO c' (X.env.qual ++ "<lambda>"))] (capsV js δ σ)) H1 ρ1 st1 := ok1.plus (fun p hp => by
      rcases List.mem_cons.mp hp with rfl | hp
      · exact ⟨hf, ok1.notExt hf rfl, fun ps => lamO_ne ps⟩
      · rw [List.mem_singleton.mp hp]
        exact ⟨hc, ok1.notExt hc rfl, fun ps => LamX.codeO_ne ps⟩) (capsV_R rs1 js)
    have cl : Clo X.prog X.w X.K X.mg X.base (T.plus [(f0, LamO f0 (lamF X params scope c') b), (c', LamX.CodeO c' (X.env.qual ++ "<lambda>"))] (capsV js δ σ)) (kc + 1) f0 (cloFrom X.env.cells scope.names []) fr (js.map (NdefX.slotAt σ)) (lamM n kp me (capsOf js δ)) := by
      have cr := capsR rs1 js
      exact Clo.of_lam (F := lamF X params scope c') S hn hp (hbind c') (by exact List.mem_cons_self) (by exact List.mem_cons_of_mem _ List.mem_cons_self) ⟨cr.len, fun i d e => let ⟨v, h1, h2⟩ := cr.at' i d e; ⟨v, h1, List.mem_append.mpr (.inl h2)⟩⟩
        (fun A outer s H E X' hX => hbody _ f0 c' A outer s H E X' rfl hX)
    refine after_call tk I1 (F.run (T.plus _ _) X.A X.stack s1 H1 ⟨us, []⟩ us (vs ++ [.ref f0]) (ds ++ [.ref f0]) ρ1 st1 Q (WE W σ) f0 _ fr _ _ rfl cl (NdefX.cells_of I1 (NdefX.Caps.made I1.ok hfree hfr hjs)) hr hgd I1.env0 hbd r okP rd' (Post.weak (fun _ _ _ z => z.minus) h1).we)
/-! ### a nested def -/
/-- a nested def, then the others -/
noncomputable def sDef (i : Nat) (n : Addr → SM) : SM := fun δ st => anyF .bad fun f => match n f (δ.set i (some (.ref f))) st with
  | .nx δ' st' => .nx (δ'.set i none) st'
  | .bk δ' st' => .bk (δ'.set i none) st'
  | .ct δ' st' => .ct (δ'.set i none) st'
  | .err C p δ' st' => .err C p (δ'.set i none) st'
  | r => r
abbrev defF (X : Cx) (stm : Stmt) (name : Str) (c' : Addr) : NdefX.NF := NdefX.NF.of stm name (X.env.qual ++ name) (cloFrom X.env.cells (C8.fnScope stm).names []) c'
theorem RS.drop1 {K : PySem.W.Frag} {H : Hp} {ρ : Wo} {δ : Sl} {σ : L2.St} (r : RS K H ρ δ σ) (i : Nat) : RS K H ρ (δ.set i none) σ :=
  r.weak (by simp) fun j d e => by
    by_cases h : i = j
    · subst h
      by_cases hl : i < δ.length
      · rw [List.getElem?_set_self hl] at e; cases e
      · rw [List.getElem?_eq_none (by rw [List.length_set]; omega)] at e; cases e
    · rw [List.getElem?_set_ne h] at e; exact e
theorem PostS.weak {K : PySem.W.Frag} {T T' : Tb} {W : WX} {H : Hp} {ρ : Wo} {r : SRes} {Dn : Ends} (w : ∀ H ρ st, Ok K T' H ρ st → Ok K T H ρ st) (h : PostS K T W H ρ r Dn) : PostS K T' W H ρ r Dn := by
  cases r with
  | nx δ st => exact fun a b c g o => h a b c g (w _ _ _ o)
  | rt δ st => exact fun a b c g o => h a b c g (w _ _ _ o)
  | bk δ st => exact fun a b c g o => h a b c g (w _ _ _ o)
  | ct δ st => exact fun a b c g o => h a b c g (w _ _ _ o)
  | err C p δ st => exact fun a b c e g o => h a b c e g (w _ _ _ o)
  | bad => exact h
theorem db_def (i : Nat) {stm : Stmt} {ss : List Stmt} {n : Addr → SM} {name : Str} (L : LamK X T.tabs nm) (hst : stm = .FunctionDef name (C8.fnArgs stm) (C8.fnBody stm) [] none [] (C8.fnScope stm) none name pos) (hn : nm pos.line pos.col = X.env.qual ++ name)
    (hfree : ∀ y ∈ (C8.fnScope stm).names, y.2 = .free → X.env.scope.names.lookup y.1 = some .cell ∨ X.env.scope.names.lookup y.1 = some .free) (hd0 : (C8.fnArgs stm).defaults = []) (hk0 : (C8.fnArgs stm).kw_defaults = []) (ha : annTrees (C8.fnArgs stm) none X.env = [])
    (hN : X.N.Nodup) (hi : X.N[i]? = some name) (hx : Loc X.env.scope name) (hf : X.fn name = true ∨ X.env.scope.names.lookup name = some .local)
    (hrest : ∀ (T' : Tb) (f c' : Addr), T'.tabs = T.tabs → (f, NdefX.FnO f (defF X stm name c')) ∈ T'.hs → (c', LamX.CodeO c' (X.env.qual ++ name)) ∈ T'.hs → DB X T' W ss (n f)) : DB X T W (stm :: ss) (sDef i n) := by
  obtain ⟨c, P, TB, hcode, hm, hu⟩ := L.ex
  refine ⟨⟨fun pins s σ H D I ⟨ρ, δ, st, ok, rs, h⟩ => ?_⟩⟩
  have hd := NdefX.ps_ndefMS (X := X) (i := i) hst TB hcode hm hn hu hfree hd0 hk0 ha hN hi hx hf
  refine wpAny_execs_cons (thn (hd.run pins s σ H { nx := fun σ' H' => ∃ (f c' : Addr), LamX.ExtN H H' ∧ (∀ b, H' b = none → H b = none) ∧ NdefX.TabsN T.tabs H' ∧ H' f = some (NdefX.FnO f (defF X stm name c')) ∧ H' c' = some (LamX.CodeO c' (X.env.qual ++ name)) ∧ σ' = σ.set i (some (.ref f)), rt := fun _ _ => False } I
    ⟨ok.tab, fun f c' H1 e1 e2 e3 _ e4 e5 => ⟨f, c', e1, e2, e3, e4, e5, rfl⟩⟩) fun fl s1 q => ?_)
  cases fl with
  | next =>
    obtain ⟨σ', H', I', f, c', e1, e2, e3, hf, hc, rfl⟩ := q
    obtain ⟨g2, ok2⟩ := ok.grow e1 e2 e3
    have okP : Ok X.K (T.plus [(f, NdefX.FnO f (defF X stm name c')), (c', LamX.CodeO c' (X.env.qual ++ name))] []) H' ρ st := ok2.plus (fun p hp => by
      rcases List.mem_cons.mp hp with rfl | hp
      · exact ⟨hf, ok2.notExt hf rfl, fun ps => NdefX.fnO_ne ps⟩
      · rw [List.mem_singleton.mp hp]
        exact ⟨hc, ok2.notExt hc rfl, fun ps => LamX.codeO_ne ps⟩) (fun q hq => absurd hq (by simp))
    have hp := (anyF_at (p := fun r => PostS X.K T W H ρ r D) h (fun z => z) f).go g2
    refine (hrest (T.plus [(f, NdefX.FnO f (defF X stm name c')), (c', LamX.CodeO c' (X.env.qual ++ name))] []) f c' rfl (by exact List.mem_cons_self) (by exact List.mem_cons_of_mem _ List.mem_cons_self)).ps.run pins s1 _ H' D I' ⟨ρ, δ.set i (some (.ref f)), st, okP, (rs.go g2).set rfl, ?_⟩
    cases q : n f (δ.set i (some (.ref f))) st with
    | nx δ' st' => rw [q] at hp; exact fun a b c g o rs => hp a b c g o.minus (rs.drop1 i)
    | rt d st' => rw [q] at hp; exact fun a b c g o rd => hp a b c g o.minus rd
    | bk δ' st' => rw [q] at hp; exact fun a b c g o rs => hp a b c g o.minus (rs.drop1 i)
    | ct δ' st' => rw [q] at hp; exact fun a b c g o rs => hp a b c g o.minus (rs.drop1 i)
    | err C p δ' st' => rw [q] at hp; exact fun a d b c g o rs pr => hp a d b c g o.minus (rs.drop1 i) pr
    | bad => rw [q] at hp; exact hp.elim
  | ret u =>
    obtain ⟨_, _, _, _, _, z⟩ := q
    exact z.elim
  | brk =>
    obtain ⟨_, _, _, z⟩ := q
    exact z.elim
  | cont =>
    obtain ⟨_, _, _, z⟩ := q
    exact z.elim
/-- the derivation of a nested def's body -/
abbrev DefB (X : Cx) (tabs : List NdefX.NTab) (kc : Nat) (N : List Str) (stm : Stmt) (name : Str) (m : SM) : Prop :=
  ∀ (T' : Tb) (f c' : Addr) (A : Around) (outer : List Env) (s : Shared) (H : Hp) (E : XK) (X' : Cx), T'.tabs = tabs → X' = NdefX.ncx (L2.CX X.prog X.w) X.prog X.w X.K X.mg X.base N (defF X stm name c') f A outer s H E → Room kc X'.A → X'.A.guards = some [] → Takes X' (fun c d _ H => E c d H) → PassesOwn (model X'.prog X'.w) X'.A X'.env X'.xe → DB X' T' (fun c d _ H => E c d H) (C8.fnBody stm) m
/-- f(e, .., a, ..): a is a nested def of the running one -/
def eCallN (mf : Addr → (List D → Store → Res D) → List D → Store → Res D) (g : Addr) (lv : Nat → D → Store → Res D) (n k : Nat) (js : List Nat) (m : SM) (mas : AM) : EM := fun δ st => (mas δ st).bind fun xs st1 => mf g (cloM lv n k m (capsOf js δ)) xs st1
theorem de_callN {stm : Stmt} {name : Str} {m : SM} {lv : Nat → D → Store → Res D} {c' : Addr} (F : FnC X.prog X.w X.K X.mg X.base T.tabs (kc + 1) k f fd ps mf) (hgf : (g, NdefX.FnO g (defF X stm name c')) ∈ T.hs) (hgc : (c', LamX.CodeO c' (X.env.qual ++ name)) ∈ T.hs) (S : NdefX.NScope N qs fr (C8.fnScope stm)) (hn : N.length = n) (hp : qs.length = kp) (hl : Leaves lv) (hfr : ∀ y ∈ fr, (y, NameKind.free) ∈ (C8.fnScope stm).names)
    (hfree : ∀ y ∈ (C8.fnScope stm).names, y.2 = .free → X.env.scope.names.lookup y.1 = some .cell ∨ X.env.scope.names.lookup y.1 = some .free) (hjs : js.map (fun j => X.N[j]?) = fr.map some)
    (hbind : ∀ (doc pm ctv : Value) (us : List Value), us.length = qs.length → bindArgs ((defF X stm name c').fd doc pm ctv) ⟨us, []⟩ = pure (qs.zip us))
    (hbody : DefB X T.tabs kc N stm name m) (hr : Room k X.A) (hgd : X.A.guards = some []) (tk : Takes X W) (hg : Gl X x) (hm : X.mg x = some (.ref f)) (hk : PySem.W.keepIn X.K (.ref f) = true) (hb : Binds X.K fd ps [])
    (ha : DA X T W (e :: es) mas) (hdb : (x == ("__debug__" : Str)) = false := by decide) (he : starEach (e :: es) X.env = (false, eval e X.env) :: starEach es X.env := by rfl) (hpl : (backTo pos (starEach es X.env)).any (·.1) = false := by rfl) :
    DE X T W (.Call (.Name x p1) (e :: es) [] pos) (eCallN mf g lv n kp js m mas) := by
  refine ⟨⟨fun pins s σ H Q I ⟨ρ, δ, st, ok, rs, h⟩ => ?_⟩⟩
  refine wpAny_Call_Name_kw (ld_glob I hg hm ?_ hdb)
  refine PySem.W.callWith_K (h₀ := X.base) I.ok.mod.kin hk (thn (ha.pa.run pos pins s σ H (fun vs H2 => ∃ ρ1 ds st1, Ok X.K T H2 ρ1 st1 ∧ RS X.K H2 ρ1 δ σ ∧ RL X.K H2 ρ1 ds vs ∧ Post X.K T W (R X.K) σ H2 ρ1 (mf g (cloM lv n kp m (capsOf js δ)) ds st1) Q) I
    ⟨ρ, δ, st, ok, rs, Post.bind h fun xs st1 vs H1 ρ1 g1 ok1 rx h1 => ⟨ρ1, xs, st1, ok1, rs.go g1, rx, h1⟩⟩) fun us s1 ⟨vs, H1, I1, r, ρ1, ds, st1, ok1, rs1, rd, h1⟩ => ⟨I1.kIn, ?_⟩) he hpl
  have hlen : ds.length = ps.length := by
    by_cases q : ds.length = ps.length
    · exact q
    · rw [F.len _ _ _ _ q] at h1
      exact h1.elim
  have hbd := hb s1 us I1.kIn (by rw [List.append_nil, ← r.length, rd.len, hlen])
  rw [List.append_nil] at hbd
  have okP : Ok X.K (T.plus [] (capsV js δ σ)) H1 ρ1 st1 := ok1.plus (fun p hp => absurd hp (by simp)) (capsV_R rs1 js)
  have cl : Clo X.prog X.w X.K X.mg X.base (T.plus [] (capsV js δ σ)) (kc + 1) g (cloFrom X.env.cells (C8.fnScope stm).names []) fr (js.map (NdefX.slotAt σ)) (cloM lv n kp m (capsOf js δ)) := by
    have cr := capsR rs1 js
    exact Clo.of_def (F := defF X stm name c') S hn hp hl hbind (by exact hgf) (by exact hgc) ⟨cr.len, fun i d e => let ⟨v, h1, h2⟩ := cr.at' i d e; ⟨v, h1, List.mem_append.mpr (.inl h2)⟩⟩
      (fun A outer s H E X' hX => by subst hX; exact hbody _ g c' A outer s H E _ rfl rfl)
  exact after_call tk I1 (F.run (T.plus _ _) X.A X.stack s1 H1 ⟨us, []⟩ us vs ds ρ1 st1 Q (WE W σ) g _ fr _ _ rfl cl (NdefX.cells_of I1 (NdefX.Caps.made I1.ok hfree hfr hjs)) hr hgd I1.env0 hbd r okP rd (Post.weak (fun _ _ _ z => z.minus) h1).we)
end
end L3

/-! ### text Ll -/
namespace L3
open PySem PySem.Spec PyProof.Rows L2

/-! ### raise X(e) -/
/-- what an own exception's __init__ does: self.fld = y -/
def spX (K : PySem.W.Frag) (fld : Str) : Sp := fun vs H Q _ => ∃ (a C : Addr) (y : V), vs = [.ref a, y] ∧ OexC K C ∧ PySem.W.findIn K (.ref C) fld = some none ∧ H a = some (exo a C none) ∧ ∀ dx, H dx = none → dx ≠ a → Q .non (upd (upd H dx (exd dx [(fld, y)])) a (exo a C (some dx)))
/-- an own exception class x at C, with the field fld -/
structure ExD (P : Program) (w : World) (K : PySem.W.Frag) (mg : Str → Option Value) (base : Heap) (x : Str) (C : Addr) (fld : Str) : Prop where
  ex : ∃ (fI : Addr) (fd : FuncData) (ps : List Str), OexC K C ∧ PySem.W.findIn K (.ref C) "__init__" = some (some (.ref fI)) ∧ PySem.W.typeIn K (.ref fI) = some (.type "function") ∧ FnOk P w K mg base C8.CX0 1 fI fd ps (spX K fld) ∧ Binds K fd ps [] ∧
    mg x = some (.ref C) ∧ PySem.W.findIn K (.ref C) fld = some none
theorem exInit {P : Program} {w : World} {K : PySem.W.Frag} {mg : Str → Option Value} {base : Heap} {x qual fld fld2 : Str} {stm : Stmt} {f : Addr} {fd : FuncData} {p1 p2 p3 p4 : Pos} (F : Fun K x qual stm f fd) (S : FnScope ["self", fld2] ["self", fld2] (defScope stm))
    (hb : defBody stm = [.Assign [.Attribute (.Name "self" p1) fld p2] (.Name fld2 p3) p4]) (hd : (fld2 == ("__debug__" : Str)) = false) (hc : (fld2 == ("__classdict__" : Str)) = false) : FnOk P w K mg base C8.CX0 1 f fd ["self", fld2] (spX K fld) := by
  refine F.ok S (fun vs H Q E h => ?_) (fun cdv A outer s H vs Q E hr h => ?_)
  · obtain ⟨a, C, y, rfl, _⟩ := h
    rfl
  · obtain ⟨a, C, y, rfl, hO, hn, ha, h⟩ := h
    rw [hb]
    have v1 : Vis (defScope stm) ("self" : Str) := (S.par "self" (by simp)).elim .inl fun z => .inr (.inl z)
    have v2 : Vis (defScope stm) fld2 := (S.par fld2 (by simp)).elim .inl fun z => .inr (.inl z)
    refine ⟨_, pss_one (ps_ost (pe_var (i := 0) rfl v1 (by decide) (by decide)) (pe_var (i := 1) rfl v2 hd hc)), ?_⟩
    exact ⟨_, rfl, _, rfl, a, C, rfl, hO, hn, .inl ⟨ha, h⟩⟩
section
variable {X : Cx} {T : Tb} {W : WX} {e : Expr} {me : EM} {C : Addr} {fld x n : Str} {p1 p2 pos p : Pos} {m : SM}
def sRaise (C : Addr) (fld : Str) (me : EM) : SM := fun δ st => sBind (me δ st) δ fun d st1 => .err C (some (fld, d)) δ st1
theorem ds_raise (E : ExD X.prog X.w X.K X.mg X.base x C fld) (hr : Room 2 X.A) (hc : X.calm = true) (tk : Takes X W) (hg : Gl X x) (he : DE X T W e me) (hdb : (x == ("__debug__" : Str)) = false := by decide) (hs : starEach [e] X.env = (false, eval e X.env) :: starEach [] X.env := by rfl) :
    DS X T W (.Raise (some (.Call (.Name x p1) [e] [] p2)) none pos) (sRaise C fld me) := by
  obtain ⟨fI, fd, ps, O, iC, tI, F1, hb, hm, hn⟩ := E.ex
  refine ⟨PS.imp (ps_raise hc tk (pmk_oex (ds := []) (dvs := []) O iC tI F1 hr hb .nil C8.pass0 hg hm (pa_cons he.pe pa_nil hs) hdb hs (by rfl))) fun D σ H ⟨ρ, δ, st, ok, rs, h⟩ => ?_⟩
  refine ⟨ρ, δ, st, ok, rs, PostS.bind h rs fun d st1 y H1 ρ1 g1 ok1 ry h1 => ⟨by simp, fun a ha => ⟨a, C, y, rfl, O, hn, upd_same, fun dx h2 h3 => ⟨rfl, dx, [(fld, y)], upd_same, ?_, ?_, ?_⟩⟩⟩⟩
  · rw [upd_ne h3, upd_same]
  · rw [upd_ne h3] at h2; exact h2
  · have h4 : H1 dx = none := by rw [upd_ne h3] at h2; exact h2
    have e : upd (del (upd (upd (upd H1 a (exo a C none)) dx (exd dx [(fld, y)])) a (exo a C (some dx))) a) dx (.xd [(fld, y)]) = upd H1 dx (.xd [(fld, y)]) := by
      funext b
      by_cases hb : b = dx
      · subst hb; rw [upd_same, upd_same]
      · rw [upd_ne hb, upd_ne hb]
        by_cases hb2 : b = a
        · subst hb2; rw [del_same, ha]
        · rw [del_ne hb2, upd_ne hb2, upd_ne hb, upd_ne hb2]
    rw [e]
    have g2 : Go H1 ρ1 (upd H1 dx (.xd [(fld, y)])) ρ1 := go_new h4
    exact h1 σ (some dx) _ ρ1 g2 (ok1.alloc h4) ((rs.go g1).go g2) ⟨dx, y, rfl, upd_same, ok1.new h4, R.go g2 _ _ ry⟩
/-! ### try .. except .. -/
inductive Hd where
  | plain (C : Addr) (m : SM)
  | named (C : Addr) (fld : Str) (i : Nat) (m : Addr → D → SM)
/-- an except suite raises nothing -/
def noE (r : SRes) : SRes := match r with
  | .err _ _ _ _ => .bad
  | r => r
/-- .. and its name goes -/
def dropE (i : Nat) (r : SRes) : SRes := match r with
  | .nx δ st => .nx (δ.set i none) st
  | .bk δ st => .bk (δ.set i none) st
  | .ct δ st => .ct (δ.set i none) st
  | .rt d st => .rt d st
  | _ => .bad
noncomputable def sHandle (K : PySem.W.Frag) : List Hd → Addr → Option (Str × D) → Sl → Store → SRes
  | [], C, p, δ, st => .err C p δ st
  | .plain Ck m :: r, C, p, δ, st => match PySem.W.exmOne K (.ref C) (.ref Ck) with
    | some true => noE (m δ st)
    | some false => sHandle K r C p δ st
    | none => .bad
  | .named Ck fld i m :: r, C, p, δ, st => match PySem.W.exmOne K (.ref C) (.ref Ck) with
    | some true => match p with
      | some (f, d) => if f = fld ∧ C = Ck then anyF .bad fun a => dropE i (m a d (δ.set i (some (.ref a))) st) else .bad
      | none => .bad
    | some false => sHandle K r C p δ st
    | none => .bad
noncomputable def sTry (K : PySem.W.Frag) (l : List Hd) (m : SM) : SM := fun δ st => match m δ st with
  | .err C p δ' st' => sHandle K l C p δ' st'
  | r => r
inductive HdsD (X : Cx) (T : Tb) : List ExceptHandler → List Hd → Prop
  | nil : HdsD X T [] []
  | plain {x : Str} {C : Addr} {m : SM} {b₀ : Stmt} {suite : List Stmt} {np pos' : Pos} {hds : List ExceptHandler} {l : List Hd} (hc : Names X x (.ref C))
      (hsu : ∀ (T' : Tb) (a : Addr) (oe : Obj) (pn : List (Addr × Obj)), T'.tabs = T.tabs → DB (X.suite a ((a, oe) :: pn)) T' W0 (b₀ :: suite) m) (r : HdsD X T hds l) : HdsD X T (.ExceptHandler (some (.Name x np)) none (b₀ :: suite) pos' :: hds) (.plain C m :: l)
  | named {x n : Str} {C : Addr} {fld : Str} {i : Nat} {m : Addr → D → SM} {b₀ : Stmt} {suite : List Stmt} {np pos' : Pos} {hds : List ExceptHandler} {l : List Hd} (hc : Names X x (.ref C)) (hi : X.N[i]? = some n) (hln : X.env.kindOf n = some .local)
      (hsu : ∀ (T' : Tb) (a dd : Addr) (oe : Obj) (w : V) (d : D) (pn : List (Addr × Obj)), T'.tabs = T.tabs → (dd, HO.xd [(fld, w)]) ∈ T'.hs → (d, w) ∈ T'.vs → Zc (.ref C) (some dd) oe → (∃ vs, oe.data = .fields vs) → DB (X.suite a ((a, oe) :: pn)) T' W0 (b₀ :: suite) (m a d)) (r : HdsD X T hds l) :
      HdsD X T (.ExceptHandler (some (.Name x np)) (some n) (b₀ :: suite) pos' :: hds) (.named C fld i m :: l)
theorem PostS.noE {K : PySem.W.Frag} {T : Tb} {W : WX} {H : Hp} {ρ : Wo} {r : SRes} {Dn : Ends} (h : PostS K T W H ρ (L3.noE r) Dn) : PostS K T W0 H ρ r Dn := by
  cases r with
  | nx δ st => exact h
  | rt δ st => exact h
  | bk δ st => exact h
  | ct δ st => exact h
  | err C p δ st => exact h.elim
  | bad => exact h
theorem PostS.dropE {K : PySem.W.Frag} {T : Tb} {W : WX} {H : Hp} {ρ : Wo} {r : SRes} {Dn : Ends} {i : Nat} (h : PostS K T W H ρ (L3.dropE i r) Dn) :
    PostS K T W0 H ρ r { nx := fun σ' H' => Dn.nx (σ'.set i none) H', rt := Dn.rt, bk := fun σ' H' => Dn.bk (σ'.set i none) H', ct := fun σ' H' => Dn.ct (σ'.set i none) H' } := by
  cases r with
  | nx δ st => exact fun a b c g o rs => h _ b c g o rs.unset
  | rt δ st => exact h
  | bk δ st => exact fun a b c g o rs => h _ b c g o rs.unset
  | ct δ st => exact fun a b c g o rs => h _ b c g o rs.unset
  | err C p δ st => exact h.elim
  | bad => exact h
theorem ds_try {body : List Stmt} {h₀ : ExceptHandler} {hds : List ExceptHandler} {l : List Hd} (hs : X.stack = X.env :: X.outer) (hf : X.env.frame = some X.env.locals) (hN : X.N.Nodup) (tk : Takes X W)
    (hb : ∀ (W' : WX) (pn : List (Addr × Obj)) (xe : Value → Shared → Prop), Takes (X.tr pn xe) W' → PassesOwn (model X.prog X.w) X.A X.env xe → DB (X.tr pn xe) T W' body m) (hh : HdsD X T (h₀ :: hds) l) :
    DS X T W (.Try body (h₀ :: hds) [] [] pos) (sTry X.K l m) := by
  refine ⟨⟨fun pins s σ H D I ⟨ρ, δ, st, okD, rs, h⟩ => ?_⟩⟩
  have ok := I.ok
  have hfr : X.A.frames = some (X.env :: X.outer) := by rw [ok.frames, hs]
  refine wpAny_Try_except ?_
  refine wpAny_mono ((hb (fun cls d σ H => ∃ C p ρ δ st, cls = .ref C ∧ Ok X.K T H ρ st ∧ RS X.K H ρ δ σ ∧ PayR X.K H ρ p d ∧ PostS X.K T W H ρ (sHandle X.K l C p δ st) D) (X.pn ++ pins) (fun e s₁ => wpAny (model X.prog X.w) X.A (noteFrame e X.env) (fun _ s₂ => wpAny (model X.prog X.w) X.A (setFlight e none) (fun _ s₃ =>
    wpAny (model X.prog X.w) X.A (handleBy e X.env (h₀ :: hds)) (SP X pins D) X.xe s₃) X.xe s₂) X.xe s₁) (fun u s' xx => ?_) PassesOwn.looking).ps.run [] s σ H D (I.toTry _) ⟨ρ, δ, st, okD, rs, ?_⟩) (fun f s1 hsp => ?_) (fun e s1 he => he)
  · -- the catch
    obtain ⟨a, B, sI, pins', σ', H', cls, d, rfl, J', nb, up, sky, na, os, ag, C, p, ρ', δ', st', rfl, ok', rs', pr, w⟩ := xx
    have J : Inv X pins σ' H' sI := J'.ofTry ok
    have sky' : Sky B (X.env :: X.outer) a (Zc (.ref C) d) X.env.locals s'.heap := by rw [← hs]; exact sky
    show wpAny (model X.prog X.w) X.A (noteFrame (.ref a) X.env) _ _ _
    refine Sky.land Zc.steady hfr hf sky' fun h3 fl3 up3 => ?_
    have J3 : Inv X pins σ' H' { s' with heap := h3 } := J.landed nb fl3.1 (up.trans up3) os ag
    obtain ⟨oe3, vs3, he3, hz3, hd3⟩ := fl3.there
    have notFr : ∀ {h : Heap} {o : Obj} {vs : Array Value}, h.FunFrames B (X.env :: X.outer) → h.get? a = some o → o.data = .fields vs → a ∉ frs (X.env :: X.outer) := fun {h o vs} ff e dd hm => by
      obtain ⟨_, o', e', hnf⟩ := ff.mem hm
      rw [e] at e'; cases e'
      exact hnf _ dd
    have nfr := notFr fl3.2.2.1 he3 hd3
    have nL : a ≠ X.env.locals := fun z => nfr (List.mem_filterMap.mpr ⟨X.env, List.mem_cons_self, by rw [hf, z]⟩)
    have nF : a ∉ X.fs := fun hm => by
      obtain ⟨e, he, q⟩ := List.mem_filterMap.mp hm
      exact nfr (List.mem_filterMap.mpr ⟨e, List.mem_cons_of_mem _ he, q⟩)
    have S3 := J3.suite he3 hd3 na nL nF
    have testC : ∀ {x : Str} {np : Pos} {C0 : Addr} {Q : Value → Shared → Prop} {E : Value → Shared → Prop}, Names X x (.ref C0) → Q (.ref C0) { s' with heap := h3 } → wpAny (model X.prog X.w) (X.A.mark (some (.ref a))) (eval (.Name x np) X.env) Q E { s' with heap := h3 } := fun {x np C0 Q E} hc q => by
      obtain ⟨hg, hdbg, hm | ⟨hm, hv, hnn⟩⟩ := hc
      · exact ld_glob (X := X.suite a ((a, oe3) :: (X.pn ++ pins))) S3 hg hm q hdbg
      · exact ld_blt (X := X.suite a ((a, oe3) :: (X.pn ++ pins))) S3 hg hm hv q hnn hdbg
    have LT : PySem.W.Looks (model X.prog X.w) h3 (typeOf (.ref a)) (.ref C) := fun A Q E s k q => wpAny_typeOf_ref (k _ _ he3) (by rw [hz3.1]; exact q)
    have go : ∀ {hds' : List ExceptHandler} {l' : List Hd}, HdsD X T hds' l' → PostS X.K T W H' ρ' (sHandle X.K l' C p δ' st') D →
        wpAny (model X.prog X.w) X.A (handleBy (.ref a) X.env hds') (SP X pins D) X.xe { s' with heap := h3 } := by
      intro hds' l' hk
      induction hk with
      | nil =>
        intro w
        have w' : W (.ref C) d σ' H' := w σ' d H' ρ' (Go.refl _ _) ok' rs' pr
        refine wpAny_handleBy_nil ?_
        obtain ⟨k1, k2, k3, oe, vs, T, oT, ts', he, hz, hd, h1, hr⟩ := id fl3
        unfold PySem.passOn
        refine wpAny_bind (wpAny_field he hd h1 ?_)
        rw [if_neg (show ¬ ((Value.ref T == Value.none) = true) from by simp)]
        have fin : wpAny (model X.prog X.w) X.A (setFlight (.ref a) X.env.frame) (fun _ s4 => wpAny (model X.prog X.w) X.A (throw (.ref a) : Sem Flow) (SP X pins D) X.xe s4) X.xe { s' with heap := h3 } := by
          rw [hf]
          refine HandSPX.setFlight_upZ fl3 fun h4 hh4 up4 => wpAny_throw (tk _ _ ?_)
          exact ⟨a, B, sI, pins, σ', H', .ref C, d, rfl, J, nb, (up.trans up3).trans up4, .inr (.inr (by rw [hs]; exact hh4)), na, os, ag, w'⟩
        first
          | exact wpAny_bind (wpAny_pure (wpAny_bind fin))
          | exact wpAny_bind fin
      | @plain x C0 m0 b₀ suite np pos' hds2 l2 hc hsu r ih =>
        intro w
        unfold sHandle at w
        refine wpAny_handleBy_cons (codeAny_handlers_test ?_) (by intro q; cases q)
        split at w
        · rename_i hb1
          refine testC hc ((PySem.W.exm_one (M := model X.prog X.w) (J3.kIn) LT hb1).here ?_)
          refine codeAny_handlers_suite ?_
          refine HandSPX.lands_againZ fl3 fun h4 fl4 up4 => ?_
          have J4 : Inv X pins σ' H' { s' with heap := h4 } := J.landed nb fl4.1 ((up.trans up3).trans up4) os ag
          obtain ⟨oe4, vs4, he4, hz4, hd4⟩ := fl4.there
          have S4 := J4.suite he4 hd4 na nL nF
          refine wpAny_mono ((hsu T a oe4 (X.pn ++ pins) rfl).ps.run [] _ _ H' D S4 ⟨ρ', δ', st', ok', rs', w.noE⟩) (fun f s6 hsp => ?_) (fun _ _ z => False.elim z)
          cases f with
          | next =>
            obtain ⟨σ6, H6, S6, q6⟩ := hsp
            exact ⟨_, _, S6.unsuite ok, q6⟩
          | brk =>
            obtain ⟨σ6, H6, S6, q6⟩ := hsp
            exact ⟨_, _, S6.unsuite ok, q6⟩
          | cont =>
            obtain ⟨σ6, H6, S6, q6⟩ := hsp
            exact ⟨_, _, S6.unsuite ok, q6⟩
          | ret u =>
            obtain ⟨v6, σ6, H6, S6, r6, q6⟩ := hsp
            exact ⟨_, _, _, S6.unsuite ok, r6, q6⟩
        · rename_i hb1
          refine testC hc ((PySem.W.exm_one (M := model X.prog X.w) (J3.kIn) LT hb1).here ?_)
          show wpAny _ X.A (handleBy (.ref a) X.env hds2) _ _ _
          exact ih w
        · exact w.elim
      | @named x n C0 fld i m0 b₀ suite np pos' hds2 l2 hc hi hln hsu r ih =>
        intro w
        unfold sHandle at w
        refine wpAny_handleBy_cons (codeAny_handlers_test ?_) (by intro q; cases q)
        split at w
        · rename_i hb1
          refine testC hc ((PySem.W.exm_one (M := model X.prog X.w) (J3.kIn) LT hb1).here ?_)
          split at w
          rotate_left
          · exact w.elim
          rename_i f0 d0 w0
          split at w
          rotate_left
          · exact w.elim
          rename_i hfc
          obtain ⟨rfl, rfl⟩ := hfc
          obtain ⟨dd, wv, rfl, hdd, ndd, rdd⟩ := pr
          refine codeAny_handlers_suite_as ?_
          refine HandSPX.lands_againZ fl3 fun h4 fl4 up4 => ?_
          have J4 : Inv X pins σ' H' { s' with heap := h4 } := J.landed nb fl4.1 ((up.trans up3).trans up4) os ag
          obtain ⟨oe4, vs4, he4, hz4, hd4⟩ := fl4.there
          have S4 := J4.suite he4 hd4 na nL nF
          have okP : Ok X.K (T.plus [(dd, HO.xd [(f0, wv)])] [(d0, wv)]) H' ρ' st' := ok'.plus (fun q hq => by
            rw [List.mem_singleton.mp hq]
            exact ⟨hdd, ndd, fun ps z => by cases z⟩) (fun q hq => by rw [List.mem_singleton.mp hq]; exact rdd)
          have wa := anyF_at (p := fun r => PostS X.K T W H' ρ' r D) w (fun z => z) a
          refine store_ok (X := X.suite a ((a, oe4) :: (X.pn ++ pins))) (v := .ref a) S4 hN hi (.inl hln) rfl (fun s5 S5 => ?_) (.inr hln)
          refine wpAny_mono ((hsu (T.plus [(dd, HO.xd [(f0, wv)])] [(d0, wv)]) a dd oe4 wv d0 (X.pn ++ pins) rfl (by exact List.mem_cons_self) (by exact List.mem_cons_self) hz4 ⟨_, hd4⟩).ps.run [] s5 _ H' { nx := fun σ' H' => D.nx (σ'.set i none) H', rt := D.rt, bk := fun σ' H' => D.bk (σ'.set i none) H', ct := fun σ' H' => D.ct (σ'.set i none) H' } S5
            ⟨ρ', δ'.set i (some (.ref a)), st', okP, rs'.set rfl, PostS.weak (fun _ _ _ z => z.minus) wa.dropE⟩) (fun f s6 hsp => ?_) (fun _ _ z => False.elim z)
          have end_ : ∀ {σ6 : L2.St} {H6 : Hp} {Q : Shared → Prop}, Inv (X.suite a ((a, oe4) :: (X.pn ++ pins))) [] σ6 H6 s6 → (∀ s7, Inv X pins (σ6.set i none) H6 s7 → Q s7) →
              wpAny (model X.prog X.w) X.A (do bindName X.env n .none; unbindBehindTheSuite X.env n pos') (fun _ s7 => Q s7) X.xe s6 := fun {σ6 H6 Q} S6 hq => gone_ok (S6.unsuite ok) hN hi hln hq
          cases f with
          | next =>
            obtain ⟨σ6, H6, S6, q6⟩ := hsp
            exact end_ S6 fun s7 J7 => ⟨_, _, J7, q6⟩
          | brk =>
            obtain ⟨σ6, H6, S6, q6⟩ := hsp
            exact end_ S6 fun s7 J7 => ⟨_, _, J7, q6⟩
          | cont =>
            obtain ⟨σ6, H6, S6, q6⟩ := hsp
            exact end_ S6 fun s7 J7 => ⟨_, _, J7, q6⟩
          | ret u =>
            obtain ⟨v6, σ6, H6, S6, r6, q6⟩ := hsp
            exact end_ S6 fun s7 J7 => ⟨_, _, _, J7, r6, q6⟩
        · rename_i hb1
          refine testC hc ((PySem.W.exm_one (M := model X.prog X.w) (J3.kIn) LT hb1).here ?_)
          show wpAny _ X.A (handleBy (.ref a) X.env hds2) _ _ _
          exact ih w
        · exact w.elim
    exact go hh w
  · unfold sTry at h
    cases q : m δ st with
    | err C p δ' st' =>
      rw [q] at h
      exact fun σ' d H' ρ' g o rs' pr => ⟨C, p, ρ', δ', st', rfl, o, rs', pr, PostS.go h g⟩
    | nx _ _ => rw [q] at h; exact h
    | rt _ _ => rw [q] at h; exact h
    | bk _ _ => rw [q] at h; exact h
    | ct _ _ => rw [q] at h; exact h
    | bad => rw [q] at h; exact h
  · cases f with
    | next =>
      obtain ⟨σ', H', J', q⟩ := hsp
      exact wpAny_execs_nil ⟨σ', H', J'.ofTry ok, q⟩
    | brk =>
      obtain ⟨σ', H', J', q⟩ := hsp
      exact ⟨σ', H', J'.ofTry ok, q⟩
    | cont =>
      obtain ⟨σ', H', J', q⟩ := hsp
      exact ⟨σ', H', J'.ofTry ok, q⟩
    | ret u =>
      obtain ⟨v, σ', H', J', r, q⟩ := hsp
      exact ⟨v, σ', H', J'.ofTry ok, r, q⟩
/-- e.fld in an except suite -/
def eXf (i : Nat) (a : Addr) (d : D) : EM := fun δ st => match δ[i]? with
  | some (some (.ref b)) => if b = a then .ok d st else .bad
  | _ => .bad
theorem de_xf (i : Nat) {a dd : Addr} {oe : Obj} {pn : List (Addr × Obj)} {w : V} {d : D} (hX : XfC X.K C) (hno : PySem.W.findIn X.K (.ref C) fld = some none) (hz : Zc (.ref C) (some dd) oe) (hf : ∃ vs, oe.data = .fields vs) (hd : (dd, HO.xd [(fld, w)]) ∈ T.hs) (hw : (d, w) ∈ T.vs)
    (hN : X.N[i]? = some n := by rfl) (hv : Vis X.env.scope n := by first | exact Or.inl rfl | exact Or.inr (Or.inl rfl) | exact Or.inr (Or.inr rfl)) (hdb : (n == ("__debug__" : Str)) = false := by decide) (hcd : (n == ("__classdict__" : Str)) = false := by decide)
    (hb : attributeBase (.Name n p) fld X.env (eval (.Name n p) X.env) = eval (.Name n p) X.env := by rfl) : DE (X.suite a ((a, oe) :: pn)) T W (.Attribute (.Name n p) fld pos) (eXf i a d) := by
  refine ⟨PE.imp (pe_xf (d := some dd) hX hno hz hf (pe_var (i := i) hN hv hdb hcd) hb) fun σ H Q ⟨ρ, δ, st, ok, rs, h⟩ => ?_⟩
  unfold eXf at h
  split at h
  · rename_i b eb
    split at h
    · rename_i hba
      subst hba
      obtain ⟨v, h2, h3⟩ := rs.at' _ _ eb
      obtain rfl : v = .ref b := h3
      refine ⟨_, h2, rfl, rfl, dd, [(fld, w)], w, rfl, (ok.al.o _ hd).1, by simp [List.lookup], h.ok ok (ok.al.v _ hw)⟩
    · exact h.elim
  · exact h.elim
end
end L3

/-! ### text Lm -/
namespace L3
open PySem PySem.Spec PyProof.Rows L2

/-! ### built-ins -/
def isInts : List D → Option (List Int)
  | [] => some []
  | .int i :: r => (isInts r).map (i :: ·)
  | _ :: _ => none
theorem ints_of : ∀ {ds : List D} {ns : List Int}, isInts ds = some ns → ds = ns.map D.int
  | [], _, h => by cases h; rfl
  | d :: r, ns, h => by
    cases d with
    | int i =>
      simp only [isInts, Option.map_eq_some_iff] at h
      obtain ⟨m, h, rfl⟩ := h
      rw [List.map_cons, ← ints_of h]
    | _ => cases h
@[simp] theorem isInts_map (ns : List Int) : isInts (ns.map D.int) = some ns := by
  induction ns with
  | nil => rfl
  | cons n r ih => simp only [List.map_cons, isInts, ih, Option.map_some]
theorem RL.ints {K : PySem.W.Frag} {H : Hp} {ρ : Wo} : ∀ {ns : List Int} {vs : List V}, RL K H ρ (ns.map D.int) vs → vs = ns.map V.int
  | [], _, h => h
  | _ :: _, _, ⟨_, _, e, h1, h2⟩ => by rw [e, List.map_cons, show _ = V.int _ from h1, RL.ints h2]
def isBls : List D → Option (List Bool)
  | [] => some []
  | .bl i :: r => (isBls r).map (i :: ·)
  | _ :: _ => none
theorem bls_of : ∀ {ds : List D} {ns : List Bool}, isBls ds = some ns → ds = ns.map D.bl
  | [], _, h => by cases h; rfl
  | d :: r, ns, h => by
    cases d with
    | bl i =>
      simp only [isBls, Option.map_eq_some_iff] at h
      obtain ⟨m, h, rfl⟩ := h
      rw [List.map_cons, ← bls_of h]
    | _ => cases h
@[simp] theorem isBls_map (ns : List Bool) : isBls (ns.map D.bl) = some ns := by
  induction ns with
  | nil => rfl
  | cons n r ih => simp only [List.map_cons, isBls, ih, Option.map_some]
theorem RL.bls {K : PySem.W.Frag} {H : Hp} {ρ : Wo} : ∀ {ns : List Bool} {vs : List V}, RL K H ρ (ns.map D.bl) vs → vs = ns.map V.bl
  | [], _, h => h
  | _ :: _, _, ⟨_, _, e, h1, h2⟩ => by rw [e, List.map_cons, show _ = V.bl _ from h1, RL.bls h2]
def minI : List Int → Int
  | [] => 0
  | x :: xs => xs.foldl (fun a y => if y < a then y else a) x
def maxI : List Int → Int
  | [] => 0
  | x :: xs => xs.foldl (fun a y => if y > a then y else a) x
theorem minI_fold : ∀ (xs : List Int) (x : Int), (xs.foldl (fun a y => if y < a then y else a) x ∈ x :: xs) ∧ ∀ y ∈ x :: xs, xs.foldl (fun a y => if y < a then y else a) x ≤ y
  | [], x => by simp
  | y :: ys, x => by
    rw [List.foldl_cons]
    obtain ⟨h1, h2⟩ := minI_fold ys (if y < x then y else x)
    generalize List.foldl (fun a y => if y < a then y else a) (if y < x then y else x) ys = m at h1 h2
    have h3 := h2 _ List.mem_cons_self
    refine ⟨?_, fun z hz => ?_⟩
    · rcases List.mem_cons.mp h1 with h | h
      · rw [h]; split <;> simp
      · exact List.mem_cons_of_mem _ (List.mem_cons_of_mem _ h)
    · rcases List.mem_cons.mp hz with rfl | hz
      · split at h3 <;> omega
      · rcases List.mem_cons.mp hz with rfl | hz
        · split at h3 <;> omega
        · exact h2 z (List.mem_cons_of_mem _ hz)
theorem maxI_fold : ∀ (xs : List Int) (x : Int), (xs.foldl (fun a y => if y > a then y else a) x ∈ x :: xs) ∧ ∀ y ∈ x :: xs, y ≤ xs.foldl (fun a y => if y > a then y else a) x
  | [], x => by simp
  | y :: ys, x => by
    rw [List.foldl_cons]
    obtain ⟨h1, h2⟩ := maxI_fold ys (if y > x then y else x)
    generalize List.foldl (fun a y => if y > a then y else a) (if y > x then y else x) ys = m at h1 h2
    have h3 := h2 _ List.mem_cons_self
    refine ⟨?_, fun z hz => ?_⟩
    · rcases List.mem_cons.mp h1 with h | h
      · rw [h]; split <;> simp
      · exact List.mem_cons_of_mem _ (List.mem_cons_of_mem _ h)
    · rcases List.mem_cons.mp hz with rfl | hz
      · split at h3 <;> omega
      · rcases List.mem_cons.mp hz with rfl | hz
        · split at h3 <;> omega
        · exact h2 z (List.mem_cons_of_mem _ hz)
theorem minI_eq {ns : List Int} {m : Int} (h : m ∈ ns) (k : ∀ y ∈ ns, m ≤ y) : m = minI ns := by
  cases ns with
  | nil => simp at h
  | cons x xs =>
    obtain ⟨h1, h2⟩ := minI_fold xs x
    exact Int.le_antisymm (k _ h1) (h2 _ h)
theorem maxI_eq {ns : List Int} {m : Int} (h : m ∈ ns) (k : ∀ y ∈ ns, y ≤ m) : m = maxI ns := by
  cases ns with
  | nil => simp at h
  | cons x xs =>
    obtain ⟨h1, h2⟩ := maxI_fold xs x
    exact Int.le_antisymm (h2 _ h) (k _ h1)
theorem minI_mem {ns : List Int} (h : 0 < ns.length) : minI ns ∈ ns ∧ ∀ y ∈ ns, minI ns ≤ y := by
  cases ns with
  | nil => simp at h
  | cons x xs => exact minI_fold xs x
theorem maxI_mem {ns : List Int} (h : 0 < ns.length) : maxI ns ∈ ns ∧ ∀ y ∈ ns, y ≤ maxI ns := by
  cases ns with
  | nil => simp at h
  | cons x xs => exact maxI_fold xs x

def bLen : List D → Store → Res D
  | [.str z], st => if z.length ≤ 1000000 then .ok (.int z.length) st else .bad
  | [.loc n], st => match st[n]? with
    | some (.lst xs) => .ok (.int xs.length) st
    | some (.dk kvs) => .ok (.int kvs.length) st
    | _ => .bad
  | [x], st => match sqOf x st with
    | some xs => .ok (.int xs.length) st
    | none => .bad
  | _, _ => .bad
def bAbs : List D → Store → Res D
  | [.int i], st => .ok (.int (if i < 0 then -i else i)) st
  | _, _ => .bad
def bInt : List D → Store → Res D
  | [.int i], st => .ok (.int i) st
  | [.bl k], st => .ok (.int (if k then 1 else 0)) st
  | _, _ => .bad
def bDivmod : List D → Store → Res D
  | [.int i, .int j], st => if 0 < j ∧ j.natAbs < 1073741824 then .ok (.tup [.int (i / j), .int (i % j)]) st else .bad
  | _, _ => .bad
def bSum : List D → Store → Res D
  | [x], st => match sqOf x st with
    | some xs => match isInts xs with
      | some ns => .ok (.int ns.sum) st
      | none => .bad
    | none => .bad
  | _, _ => .bad
def bMax : List D → Store → Res D
  | [.int i, .int j], st => .ok (.int (if j > i then j else i)) st
  | [x], st => match sqOf x st with
    | some xs => match isInts xs with
      | some ns => if 0 < ns.length then .ok (.int (maxI ns)) st else .bad
      | none => .bad
    | none => .bad
  | _, _ => .bad
def bMin : List D → Store → Res D
  | [.int i, .int j], st => .ok (.int (if j < i then j else i)) st
  | [x], st => match sqOf x st with
    | some xs => match isInts xs with
      | some ns => if 0 < ns.length then .ok (.int (minI ns)) st else .bad
      | none => .bad
    | none => .bad
  | _, _ => .bad
def bAll : List D → Store → Res D
  | [x], st => match lsOf x st with
    | some xs => match isBls xs with
      | some bs => .ok (.bl (bs.all id)) st
      | none => .bad
    | none => .bad
  | _, _ => .bad
def bAny : List D → Store → Res D
  | [x], st => match lsOf x st with
    | some xs => match isBls xs with
      | some bs => .ok (.bl (bs.any id)) st
      | none => .bad
    | none => .bad
  | _, _ => .bad
/-- tuple(xs) -/
def bTuple : List D → Store → Res D
  | [x], st => match sqOf x st with
    | some xs => .ok (.tup xs) st
    | none => .bad
  | _, _ => .bad
/-- list(xs), a list that may change -/
def bList : List D → Store → Res D
  | [x], st => match sqOf x st with
    | some xs => .ok (.loc st.length) (st ++ [.lst xs])
    | none => .bad
  | _, _ => .bad
def reprOk (p : PyData) : Bool := p.showable && !p.hasDict && decide (p.depth ≤ 40) && decide (p.shown.length ≤ 1000000)
def bRepr : List D → Store → Res D
  | [x], st => match toPd x st with
    | some p => if reprOk p = true then .ok (.str p.shown) st else .bad
    | none => .bad
  | _, _ => .bad
/-- a value's type -/
def tyD : D → Store → Option Value
  | .non, _ => some (.type "NoneType")
  | .bl _, _ => some (.type "bool")
  | .int _, _ => some (.type "int")
  | .str _, _ => some (.type "str")
  | .tup _, _ => some (.type "tuple")
  | .fl _, _ => some (.type "list")
  | .rl _, _ => some (.type "list")
  | .obj C _ _, _ => some (.ref C)
  | .loc n, st => match st[n]? with
    | some (.lst _) => some (.type "list")
    | some (.dk _) => some (.type "dict")
    | some (.obj C _ _) => some (.ref C)
    | none => none
  | _, _ => none
def clsD : D → Option Value
  | .ty n => some (.type n)
  | .ref C => some (.ref C)
  | _ => none
def okTy (cs : List Addr) : Value → Bool
  | .ref C => cs.contains C
  | _ => true
/-- isinstance(x, c); cs: the own classes whose instances are told -/
def bIsi (K : PySem.W.Frag) (cs : List Addr) : List D → Store → Res D
  | [x, c], st => match tyD x st, clsD c with
    | some t, some u => if okTy cs t = true then match PySem.W.kitOne K t u with
      | some b => .ok (.bl b) st
      | none => .bad else .bad
    | _, _ => .bad
  | _, _ => .bad
/-- an own class whose instances are told by isinstance -/
structure TyC (K : PySem.W.Frag) (C : Addr) : Prop where
  ex : ∀ (H : Hp) (a dx : Addr) (fs : List (Str × V)), H a = some (.ins C dx fs) → TyX K H (.ref a) (.ref C)
section
variable {X : Cx} {T : Tb}
theorem tell_len : TellN X T (fun xs H Q => (∃ z, xs = [.str z] ∧ z.length ≤ sizeLine ∧ Q (.int z.length) H) ∨ (∃ p ys, xs = [.ref p] ∧ (SqL X.K H p ys ∨ SqT X.K H p ys) ∧ Q (.int ys.length) H) ∨ ∃ a kvs, xs = [V.ref a] ∧ H a = some (.dK kvs) ∧ Q (.int kvs.length) H) bLen := by
  intro W σ H ρ st xs vs Q ok r h
  unfold bLen at h
  split at h
  · rename_i z
    obtain ⟨v, rfl, rv⟩ := RL.one r
    cases rv
    split at h
    · rename_i hz
      exact .inl ⟨z, rfl, line1 hz, h.ok ok rfl⟩
    · exact h.elim
  · rename_i n
    obtain ⟨v, rfl, rv⟩ := RL.one r
    split at h
    · rename_i ds e
      obtain ⟨a, rfl, _, ys, h1, r1⟩ := locAt ok rv e
      exact .inr (.inl ⟨a, ys, rfl, .inl (.of h1), h.ok ok (by rw [r1.len]; rfl)⟩)
    · rename_i kds e
      obtain ⟨a, rfl, _, kxs, h1, e1, r1⟩ := locAt ok rv e
      exact .inr (.inr ⟨a, kxs, rfl, h1, h.ok ok (by rw [show kxs.length = kds.length by have := congrArg List.length e1; simpa using this]; rfl)⟩)
    · exact h.elim
  · rename_i x
    obtain ⟨v, rfl, rv⟩ := RL.one r
    split at h
    · rename_i ds e
      obtain ⟨a, ys, rfl, s, r1⟩ := sqAt ok rv e
      exact .inr (.inl ⟨a, ys, rfl, s, h.ok ok (by rw [r1.len]; rfl)⟩)
    · exact h.elim
  · exact h.elim
theorem tell_abs : TellN X T (fun xs H Q => ∃ i, xs = [.int i] ∧ Q (.int (if i < 0 then -i else i)) H) bAbs := by
  intro W σ H ρ st xs vs Q ok r h
  unfold bAbs at h
  split at h
  · rename_i i
    obtain ⟨v, rfl, rv⟩ := RL.one r
    cases rv
    exact ⟨i, rfl, h.ok ok rfl⟩
  · exact h.elim
theorem tell_int : TellN X T (fun xs H Q => (∃ i, xs = [.int i] ∧ Q (.int i) H) ∨ ∃ k, xs = [.bl k] ∧ Q (.int (if k then 1 else 0)) H) bInt := by
  intro W σ H ρ st xs vs Q ok r h
  unfold bInt at h
  split at h
  · rename_i i
    obtain ⟨v, rfl, rv⟩ := RL.one r
    cases rv
    exact .inl ⟨i, rfl, h.ok ok rfl⟩
  · rename_i k
    obtain ⟨v, rfl, rv⟩ := RL.one r
    cases rv
    exact .inr ⟨k, rfl, h.ok ok rfl⟩
  · exact h.elim
theorem tell_divmod : TellN X T (fun xs H Q => ∃ i j, xs = [.int i, .int j] ∧ CDivP i j ∧ ∀ p, H p = none → Q (.ref p) (upd H p (.tup [.int (i / j), .int (i % j)]))) bDivmod := by
  intro W σ H ρ st xs vs Q ok r h
  unfold bDivmod at h
  split at h
  · rename_i i j
    obtain ⟨v, u, rfl, rv, ru⟩ := RL.two r
    cases rv
    cases ru
    split at h
    · rename_i hj
      exact ⟨i, j, rfl, ⟨hj.1, PyProof.noPylong_small hj.2⟩, Post.newT (ds := [.int (i / j), .int (i % j)]) ok ⟨_, _, rfl, rfl, _, _, rfl, rfl, rfl⟩ h⟩
    · exact h.elim
  · exact h.elim
end
section
variable {X : Cx} {T : Tb} {W : WX}
theorem isTuple_of {h : Heap} {a : Addr} {its : Array Value} (t : IsTup h a its) : h.IsTuple a its := by
  obtain ⟨o, ho, hc, n, hd⟩ := t
  exact ⟨o, ho, hc, n, hd⟩
theorem call_sumT (hc : X.calm = true) : CallR X (.builtin "sum") (fun vs H Q => ∃ (a : Addr) (ns : List Int), vs = [V.ref a] ∧ SqT X.K H a (ns.map V.int) ∧ Q (.int ns.sum) H) := by
  intro pins s σ H vs us Q I r h
  obtain ⟨a, ns, rfl, hs, q⟩ := h
  obtain ⟨its, rv, hl, _⟩ := I.tuple hs
  rw [Vals.ref1 r]
  have hi := rv.ints
  have ht := isTuple_of hl
  obtain ⟨xs, hx⟩ := hi.allInts.items
  have hn : numsOf its.toArray.toList = ns := by rw [show its.toArray.toList = its from rfl, hi.numsOf]
  rw [hx] at ht hn
  rw [nums_intItems] at hn
  refine PySem.W.ktm_sumG (I.ok.hd hc) ht fun h' tk t' hk => ⟨.int _, H, I.kept hk, ⟨_, rfl⟩, ?_⟩
  rw [preSum_eq, List.take_of_length_le (by simp), hn]
  exact q
theorem holdInts {h : Heap} : ∀ {us : List Value} {ns : List Int}, IntsAre us ns → PySem.W.HoldAll h us ns
  | _, _, .nil => PySem.W.HoldAll.nil
  | _, _, .cons n t r => PySem.W.HoldAll.cons ⟨_, Reads.int n t⟩ (holdInts r)
theorem intsAt : ∀ {us : List Value} {ns : List Int} {i : Nat} {v : Value}, IntsAre us ns → us[i]? = some v → ∃ (n : Int) (t : Tok), v = .int n t
  | _, _, _, _, .nil, e => by simp at e
  | _, _, 0, _, .cons n t r, e => by simp at e; exact ⟨n, t, e.symm⟩
  | _, _, i + 1, _, .cons n t r, e => intsAt (i := i) r (by simpa using e)
theorem call_minT (hc : X.calm = true) (hu : X.A.units + 64 < cLine) : CallR X (.builtin "min") (fun vs H Q => ∃ (a : Addr) (ns : List Int), vs = [V.ref a] ∧ SqT X.K H a (ns.map V.int) ∧ 0 < ns.length ∧ Q (.int (minI ns)) H) := by
  intro pins s σ H vs us Q I r h
  obtain ⟨a, ns, rfl, hs, hne, q⟩ := h
  obtain ⟨its, rv, hl, _⟩ := I.tuple hs
  rw [Vals.ref1 r]
  cases ns with
  | nil => simp at hne
  | cons x xs =>
    refine PySem.W.min_tuple_datum (x := x) (xs := xs) (I.ok.hd hc) (isTuple_of hl) (holdInts rv.ints) (by show X.A.units + 1 + 0 < cLine; omega) fun i v h' tk hv hh hk => ?_
    obtain ⟨n, t, rfl⟩ := intsAt rv.ints (by simpa using hv)
    obtain ⟨as, hr⟩ := hh
    have e : n = PySem.W.minOf x xs := by
      cases hr
      rfl
    have e2 : PySem.W.minOf x xs = minI (x :: xs) := by
      unfold PySem.W.minOf minI
      congr 1
      funext a y
      by_cases hlt : y < a
      · rw [if_pos hlt, if_pos (show PySem.W.DatumOrd.lt y a = true from decide_eq_true hlt)]
      · rw [if_neg hlt, if_neg (show ¬ PySem.W.DatumOrd.lt y a = true from fun z => hlt (of_decide_eq_true z))]
    rw [e, e2]
    exact ⟨.int _, H, I.kept hk, ⟨_, rfl⟩, q⟩
theorem call_maxT (hc : X.calm = true) (hu : X.A.units + 64 < cLine) : CallR X (.builtin "max") (fun vs H Q => ∃ (a : Addr) (ns : List Int), vs = [V.ref a] ∧ SqT X.K H a (ns.map V.int) ∧ 0 < ns.length ∧ Q (.int (maxI ns)) H) := by
  intro pins s σ H vs us Q I r h
  obtain ⟨a, ns, rfl, hs, hne, q⟩ := h
  obtain ⟨its, rv, hl, _⟩ := I.tuple hs
  rw [Vals.ref1 r]
  cases ns with
  | nil => simp at hne
  | cons x xs =>
    refine PySem.W.max_tuple_datum (x := x) (xs := xs) (I.ok.hd hc) (isTuple_of hl) (holdInts rv.ints) (by show X.A.units + 1 + 0 < cLine; omega) fun i v h' tk hv hh hk => ?_
    obtain ⟨n, t, rfl⟩ := intsAt rv.ints (by simpa using hv)
    obtain ⟨as, hr⟩ := hh
    have e : n = PySem.W.maxOf x xs := by
      cases hr
      rfl
    have e2 : PySem.W.maxOf x xs = maxI (x :: xs) := by
      unfold PySem.W.maxOf maxI
      congr 1
      funext a y
      by_cases hlt : a < y
      · rw [if_pos (show y > a from hlt), if_pos (show PySem.W.DatumOrd.lt a y = true from decide_eq_true hlt)]
      · rw [if_neg (show ¬ y > a from hlt), if_neg (show ¬ PySem.W.DatumOrd.lt a y = true from fun z => hlt (of_decide_eq_true z))]
    rw [e, e2]
    exact ⟨.int _, H, I.kept hk, ⟨_, rfl⟩, q⟩
theorem call_reprD (hg : X.A.guards = some []) (hu : X.A.units + 64 < cLine) : CallR X (.builtin "repr") (fun vs H Q => ∃ v p, vs = [v] ∧ Dp X.K H v p ∧ reprOk p = true ∧ Q (.str p.shown) H) := by
  intro pins s σ H vs us Q I r h
  obtain ⟨v, p, rfl, hp, hok, q⟩ := h
  unfold reprOk at hok
  simp only [Bool.and_eq_true, Bool.not_eq_true', decide_eq_true_eq] at hok
  obtain ⟨⟨⟨h1, h2⟩, h3⟩, h4⟩ := hok
  have hsz : p.shown.length ≤ sizeLine := line1 h4
  cases r with
  | cons rv rr =>
    cases rr
    rename_i u
    obtain ⟨as, rd⟩ := hp.reads I _ _ _ rv
    cases p with
    | none => cases hp; cases rv; exact P.repr_of_none ⟨.str _, H, I.tok _, ⟨_, rfl⟩, by simpa [PyData.shown] using q⟩
    | bool b => cases hp; cases rv; exact P.repr_of_bool ⟨.str _, H, I.tok _, ⟨_, rfl⟩, by simpa [PyData.shown] using q⟩
    | int i =>
      cases hp
      obtain ⟨t, rfl⟩ := rv
      exact P.repr_of_int (by simpa [PyData.showable] using h1) ⟨.str _, H, I.tok _, ⟨_, rfl⟩, by simpa [PyData.shown] using q⟩
    | str x =>
      cases hp
      obtain ⟨t, rfl⟩ := rv
      exact P.repr_of_str ⟨.str _, H, I.tok _, ⟨_, rfl⟩, by simpa [PyData.shown] using q⟩ (by simpa [PyData.shown] using hsz)
    | list ds =>
      cases hp
      cases rv
      exact repr_of_reads' rd h1 (PyData.noDict_hsm h2) hg (by omega) (fun _ _ e => e) (fun h' u tk hk => ⟨.str _, H, I.kept hk, ⟨_, rfl⟩, q⟩) hsz
    | tuple ds =>
      cases hp
      cases rv
      exact repr_of_reads' rd h1 (PyData.noDict_hsm h2) hg (by omega) (fun _ _ e => e) (fun h' u tk hk => ⟨.str _, H, I.kept hk, ⟨_, rfl⟩, q⟩) hsz
    | dict kvs => cases hp
theorem tell_repr : TellN X T (fun vs H Q => ∃ v p, vs = [v] ∧ Dp X.K H v p ∧ reprOk p = true ∧ Q (.str p.shown) H) bRepr := by
  intro W σ H ρ st xs vs Q ok r h
  unfold bRepr at h
  split at h
  · rename_i x
    obtain ⟨v, rfl, rv⟩ := RL.one r
    split at h
    · rename_i p e
      split at h
      · rename_i hp
        exact ⟨v, p, rfl, toPd_ok ok e rv, hp, h.ok ok rfl⟩
      · exact h.elim
    · exact h.elim
  · exact h.elim
theorem tell_sum : TellN X T (fun xs H Q => rSum X.K xs H Q ∨ ∃ (a : Addr) (ns : List Int), xs = [V.ref a] ∧ SqT X.K H a (ns.map V.int) ∧ Q (.int ns.sum) H) bSum := by
  intro W σ H ρ st xs vs Q ok r h
  unfold bSum at h
  split at h
  · obtain ⟨v, rfl, rv⟩ := RL.one r
    split at h
    · rename_i ds e
      split at h
      · rename_i ns e2
        obtain ⟨a, ys, rfl, s, r1⟩ := sqAt ok rv e
        rw [ints_of e2] at r1
        rw [r1.ints] at s
        exact s.elim (fun s => .inl ⟨a, ns, rfl, s, h.ok ok rfl⟩) fun s => .inr ⟨a, ns, rfl, s, h.ok ok rfl⟩
      · exact h.elim
    · exact h.elim
  · exact h.elim
theorem tell_max : TellN X T (fun xs H Q => (∃ i j, xs = [.int i, .int j] ∧ Q (.int (if j > i then j else i)) H) ∨ rMax X.K xs H Q ∨ ∃ (a : Addr) (ns : List Int), xs = [V.ref a] ∧ SqT X.K H a (ns.map V.int) ∧ 0 < ns.length ∧ Q (.int (maxI ns)) H) bMax := by
  intro W σ H ρ st xs vs Q ok r h
  unfold bMax at h
  split at h
  · rename_i i j
    obtain ⟨v, u, rfl, rv, ru⟩ := RL.two r
    cases rv
    cases ru
    exact .inl ⟨i, j, rfl, h.ok ok rfl⟩
  · obtain ⟨v, rfl, rv⟩ := RL.one r
    split at h
    · rename_i ds e
      split at h
      · rename_i ns e2
        split at h
        · rename_i hn
          obtain ⟨a, ys, rfl, s, r1⟩ := sqAt ok rv e
          rw [ints_of e2] at r1
          rw [r1.ints] at s
          exact s.elim (fun s => .inr (.inl ⟨a, ns, rfl, s, hn, fun m h1 h2 => by rw [maxI_eq h1 h2]; exact h.ok ok rfl⟩)) fun s => .inr (.inr ⟨a, ns, rfl, s, hn, h.ok ok rfl⟩)
        · exact h.elim
      · exact h.elim
    · exact h.elim
  · exact h.elim
theorem tell_min : TellN X T (fun xs H Q => (∃ i j, xs = [.int i, .int j] ∧ Q (.int (if j < i then j else i)) H) ∨ rMin X.K xs H Q ∨ ∃ (a : Addr) (ns : List Int), xs = [V.ref a] ∧ SqT X.K H a (ns.map V.int) ∧ 0 < ns.length ∧ Q (.int (minI ns)) H) bMin := by
  intro W σ H ρ st xs vs Q ok r h
  unfold bMin at h
  split at h
  · rename_i i j
    obtain ⟨v, u, rfl, rv, ru⟩ := RL.two r
    cases rv
    cases ru
    exact .inl ⟨i, j, rfl, h.ok ok rfl⟩
  · obtain ⟨v, rfl, rv⟩ := RL.one r
    split at h
    · rename_i ds e
      split at h
      · rename_i ns e2
        split at h
        · rename_i hn
          obtain ⟨a, ys, rfl, s, r1⟩ := sqAt ok rv e
          rw [ints_of e2] at r1
          rw [r1.ints] at s
          exact s.elim (fun s => .inr (.inl ⟨a, ns, rfl, s, hn, fun m h1 h2 => by rw [minI_eq h1 h2]; exact h.ok ok rfl⟩)) fun s => .inr (.inr ⟨a, ns, rfl, s, hn, h.ok ok rfl⟩)
        · exact h.elim
      · exact h.elim
    · exact h.elim
  · exact h.elim
theorem tell_all : TellN X T (rAll X.K) bAll := by
  intro W σ H ρ st xs vs Q ok r h
  unfold bAll at h
  split at h
  · obtain ⟨v, rfl, rv⟩ := RL.one r
    split at h
    · rename_i ds e
      split at h
      · rename_i bs e2
        obtain ⟨a, ys, rfl, s, r1⟩ := lsAt ok rv e
        rw [bls_of e2] at r1
        rw [r1.bls] at s
        exact ⟨a, bs, rfl, s, h.ok ok rfl⟩
      · exact h.elim
    · exact h.elim
  · exact h.elim
theorem tell_any : TellN X T (rAny X.K) bAny := by
  intro W σ H ρ st xs vs Q ok r h
  unfold bAny at h
  split at h
  · obtain ⟨v, rfl, rv⟩ := RL.one r
    split at h
    · rename_i ds e
      split at h
      · rename_i bs e2
        obtain ⟨a, ys, rfl, s, r1⟩ := lsAt ok rv e
        rw [bls_of e2] at r1
        rw [r1.bls] at s
        exact ⟨a, bs, rfl, s, h.ok ok rfl⟩
      · exact h.elim
    · exact h.elim
  · exact h.elim
theorem tell_tuple : TellN X T (fun xs H Q => ∃ p ys, xs = [.ref p] ∧ ((SqL X.K H p ys ∧ ∀ l, H l = none → Q (.ref l) (upd H l (.tup ys))) ∨ (SqT X.K H p ys ∧ Q (.ref p) H))) bTuple := by
  intro W σ H ρ st xs vs Q ok r h
  unfold bTuple at h
  split at h
  · rename_i x
    obtain ⟨v, rfl, rv⟩ := RL.one r
    split at h
    · rename_i ds e
      by_cases ht : ∃ zs, x = .tup zs
      · obtain ⟨zs, rfl⟩ := ht
        cases e
        obtain ⟨a, ys, rfl, s, r1⟩ := tupAt rv
        exact ⟨a, ys, rfl, .inr ⟨s, h.ok ok rv⟩⟩
      · have e2 : lsOf x st = some ds := by
          cases x with
          | tup zs => exact absurd ⟨zs, rfl⟩ ht
          | _ => exact e
        obtain ⟨a, ys, rfl, s, r1⟩ := lsAt ok rv e2
        exact ⟨a, ys, rfl, .inl ⟨s, Post.newT ok r1 h⟩⟩
    · exact h.elim
  · exact h.elim
theorem tell_list : TellN X T (fun xs H Q => ∃ p ys, xs = [.ref p] ∧ (SqL X.K H p ys ∨ SqT X.K H p ys) ∧ ∀ l, H l = none → Q (.ref l) (upd H l (.lst ys))) bList := by
  intro W σ H ρ st xs vs Q ok r h
  unfold bList at h
  split at h
  · rename_i x
    obtain ⟨v, rfl, rv⟩ := RL.one r
    split at h
    · rename_i ds e
      obtain ⟨a, ys, rfl, s, r1⟩ := sqAt ok rv e
      exact ⟨a, ys, rfl, s, Post.newN ok r1 h⟩
    · exact h.elim
  · exact h.elim
theorem tyAt {H : Hp} {ρ : Wo} {st : Store} {x : D} {v : V} {t : Value} (hC : ∀ C, t = .ref C → TyC X.K C) (ok : Ok X.K T H ρ st) (r : R X.K H ρ x v) (e : tyD x st = some t) : TyX X.K H v t := by
  unfold tyD at e
  split at e
  · cases e; cases r; exact .base .non
  · cases e; cases r; exact .base (.bl _)
  · cases e; cases r; exact .base (.int _)
  · cases e; cases r; exact .base (.str _)
  · cases e
    obtain ⟨a, xs, rfl, s, r1⟩ := r
    rcases s with ⟨s | ⟨o, s⟩, _⟩ | s
    · exact .base (.tup s)
    · exact .fTuple s
    · rcases s with (s | ⟨o, s⟩) | ⟨o, its, n, hk, hc, _⟩
      · cases s
      · cases s
      · exact .kTuple hk hc
  · cases e
    obtain ⟨a, xs, rfl, h, n, r1⟩ := r
    exact .base (.lst h)
  · cases e
    obtain ⟨a, o, xs, rfl, h, n, r1⟩ := r
    exact .base (.frz h)
  · cases e
    obtain ⟨a, dx, xs, rfl, h, n, l, r1⟩ := r
    exact (hC _ rfl).ex _ _ _ _ h
  · rename_i n
    split at e
    · rename_i ds q
      cases e
      obtain ⟨a, rfl, _, xs, h1, _⟩ := locAt ok r q
      exact .base (.lst h1)
    · rename_i ds q
      cases e
      obtain ⟨a, rfl, _, xs, h1, _⟩ := locAt ok r q
      exact .base (.dK h1)
    · rename_i C ns ds q
      cases e
      obtain ⟨a, rfl, _, dx, xs, h1, _⟩ := locAt ok r q
      exact (hC _ rfl).ex _ _ _ _ h1
    · cases e
  · cases e
theorem tell_isi {cs : List Addr} (hC : ∀ C ∈ cs, TyC X.K C) : TellN X T (rIsi X.K) (bIsi X.K cs) := by
  intro W σ H ρ st xs vs Q ok r h
  unfold bIsi at h
  split at h
  · rename_i x c
    obtain ⟨v, w, rfl, rv, rw'⟩ := RL.two r
    split at h
    · rename_i t u e1 e2
      split at h
      · rename_i ht
        split at h
        · rename_i b e3
          refine ⟨v, w, t, u, b, rfl, ?_, tyAt (fun C hc => hC C (by subst hc; exact List.contains_iff_mem.mp ht)) ok rv e1, e3, h.ok ok rfl⟩
          unfold clsD at e2
          split at e2
          · cases e2; cases rw'; exact .ty _
          · cases e2; cases rw'; exact .own _
          · cases e2
        · exact h.elim
      · exact h.elim
    · exact h.elim
  · exact h.elim
end
end L3

/-! ### text Ln -/
namespace L3
open PySem PySem.Spec PyProof.Rows L2

/-! ### built-ins, called -/
theorem bv_abs : bootBuiltins "abs" = some (.builtin "abs") := by decide +kernel
theorem bv_int : bootBuiltins "int" = some (.type "int") := by decide +kernel
theorem bv_divmod : bootBuiltins "divmod" = some (.builtin "divmod") := by decide +kernel
theorem bv_sum : bootBuiltins "sum" = some (.builtin "sum") := by decide +kernel
theorem bv_max : bootBuiltins "max" = some (.builtin "max") := by decide +kernel
theorem bv_min : bootBuiltins "min" = some (.builtin "min") := by decide +kernel
theorem bv_all : bootBuiltins "all" = some (.builtin "all") := by decide +kernel
theorem bv_any : bootBuiltins "any" = some (.builtin "any") := by decide +kernel
theorem bv_tuple : bootBuiltins "tuple" = some (.type "tuple") := by decide +kernel
theorem bv_list : bootBuiltins "list" = some (.type "list") := by decide +kernel
theorem bv_repr : bootBuiltins "repr" = some (.builtin "repr") := by decide +kernel
theorem bv_isinstance : bootBuiltins "isinstance" = some (.builtin "isinstance") := by decide +kernel
theorem bv_str : bootBuiltins "str" = some (.type "str") := by decide +kernel
theorem bv_bool : bootBuiltins "bool" = some (.type "bool") := by decide +kernel
theorem bv_dict : bootBuiltins "dict" = some (.type "dict") := by decide +kernel
section
variable {X : Cx} {T : Tb} {W : WX} {a b c d e o i : Expr} {es : List Expr} {mas : AM} {ma mb mc md me mo mi : EM} {pos p1 p2 : Pos}
theorem de_len (hm : X.mg "len" = none) (ha : DA X T W (e :: es) mas) (hg : Gl X "len" := by rfl) (he : starEach (e :: es) X.env = (false, eval e X.env) :: starEach es X.env := by rfl) (hpl : (backTo pos (starEach es X.env)).any (·.1) = false := by rfl) : DE X T W (.Call (.Name "len" p1) (e :: es) [] pos) (eN bLen mas) :=
  de_bi (call_len_str.or (call_len_seq.or call_lenD)) tell_len hg hm PySem.boot_len ha (by decide) (by decide) he hpl
theorem de_abs (hm : X.mg "abs" = none) (ha : DA X T W (e :: es) mas) (hg : Gl X "abs" := by rfl) (he : starEach (e :: es) X.env = (false, eval e X.env) :: starEach es X.env := by rfl) (hpl : (backTo pos (starEach es X.env)).any (·.1) = false := by rfl) : DE X T W (.Call (.Name "abs" p1) (e :: es) [] pos) (eN bAbs mas) :=
  de_bi call_abs tell_abs hg hm bv_abs ha (by decide) (by decide) he hpl
theorem de_intc (hm : X.mg "int" = none) (ha : DA X T W (e :: es) mas) (hg : Gl X "int" := by rfl) (he : starEach (e :: es) X.env = (false, eval e X.env) :: starEach es X.env := by rfl) (hpl : (backTo pos (starEach es X.env)).any (·.1) = false := by rfl) : DE X T W (.Call (.Name "int" p1) (e :: es) [] pos) (eN bInt mas) :=
  de_bt call_int1 tell_int hg hm bv_int ha (by decide) (by decide) he hpl
theorem de_divmod (hm : X.mg "divmod" = none) (ha : DA X T W (e :: es) mas) (hg : Gl X "divmod" := by rfl) (he : starEach (e :: es) X.env = (false, eval e X.env) :: starEach es X.env := by rfl) (hpl : (backTo pos (starEach es X.env)).any (·.1) = false := by rfl) : DE X T W (.Call (.Name "divmod" p1) (e :: es) [] pos) (eN bDivmod mas) :=
  de_bi call_divmodW tell_divmod hg hm bv_divmod ha (by decide) (by decide) he hpl
theorem de_sum (hc : X.calm = true) (hm : X.mg "sum" = none) (ha : DA X T W (e :: es) mas) (hg : Gl X "sum" := by rfl) (he : starEach (e :: es) X.env = (false, eval e X.env) :: starEach es X.env := by rfl) (hpl : (backTo pos (starEach es X.env)).any (·.1) = false := by rfl) : DE X T W (.Call (.Name "sum" p1) (e :: es) [] pos) (eN bSum mas) :=
  de_bi ((cr_sum hc).or (call_sumT hc)) tell_sum hg hm bv_sum ha (by decide) (by decide) he hpl
theorem de_max (hc : X.calm = true) (hu : X.A.units + 64 < cLine) (hm : X.mg "max" = none) (ha : DA X T W (e :: es) mas) (hg : Gl X "max" := by rfl) (he : starEach (e :: es) X.env = (false, eval e X.env) :: starEach es X.env := by rfl) (hpl : (backTo pos (starEach es X.env)).any (·.1) = false := by rfl) : DE X T W (.Call (.Name "max" p1) (e :: es) [] pos) (eN bMax mas) :=
  de_bi ((call_max2 hc).or ((cr_max hc).or (call_maxT hc hu))) tell_max hg hm bv_max ha (by decide) (by decide) he hpl
theorem de_min (hc : X.calm = true) (hu : X.A.units + 64 < cLine) (hm : X.mg "min" = none) (ha : DA X T W (e :: es) mas) (hg : Gl X "min" := by rfl) (he : starEach (e :: es) X.env = (false, eval e X.env) :: starEach es X.env := by rfl) (hpl : (backTo pos (starEach es X.env)).any (·.1) = false := by rfl) : DE X T W (.Call (.Name "min" p1) (e :: es) [] pos) (eN bMin mas) :=
  de_bi ((call_min2 hc).or ((cr_min hc).or (call_minT hc hu))) tell_min hg hm bv_min ha (by decide) (by decide) he hpl
theorem de_all (hc : X.calm = true) (hm : X.mg "all" = none) (ha : DA X T W (e :: es) mas) (hg : Gl X "all" := by rfl) (he : starEach (e :: es) X.env = (false, eval e X.env) :: starEach es X.env := by rfl) (hpl : (backTo pos (starEach es X.env)).any (·.1) = false := by rfl) : DE X T W (.Call (.Name "all" p1) (e :: es) [] pos) (eN bAll mas) :=
  de_bi (cr_all hc) tell_all hg hm bv_all ha (by decide) (by decide) he hpl
theorem de_any (hc : X.calm = true) (hm : X.mg "any" = none) (ha : DA X T W (e :: es) mas) (hg : Gl X "any" := by rfl) (he : starEach (e :: es) X.env = (false, eval e X.env) :: starEach es X.env := by rfl) (hpl : (backTo pos (starEach es X.env)).any (·.1) = false := by rfl) : DE X T W (.Call (.Name "any" p1) (e :: es) [] pos) (eN bAny mas) :=
  de_bi (cr_any hc) tell_any hg hm bv_any ha (by decide) (by decide) he hpl
theorem de_tuple (hm : X.mg "tuple" = none) (ha : DA X T W (e :: es) mas) (hg : Gl X "tuple" := by rfl) (he : starEach (e :: es) X.env = (false, eval e X.env) :: starEach es X.env := by rfl) (hpl : (backTo pos (starEach es X.env)).any (·.1) = false := by rfl) : DE X T W (.Call (.Name "tuple" p1) (e :: es) [] pos) (eN bTuple mas) :=
  de_bt call_tuple_of tell_tuple hg hm bv_tuple ha (by decide) (by decide) he hpl
theorem de_list (hm : X.mg "list" = none) (ha : DA X T W (e :: es) mas) (hg : Gl X "list" := by rfl) (he : starEach (e :: es) X.env = (false, eval e X.env) :: starEach es X.env := by rfl) (hpl : (backTo pos (starEach es X.env)).any (·.1) = false := by rfl) : DE X T W (.Call (.Name "list" p1) (e :: es) [] pos) (eN bList mas) :=
  de_bt call_list_of tell_list hg hm bv_list ha (by decide) (by decide) he hpl
theorem de_repr (hgd : X.A.guards = some []) (hu : X.A.units + 64 < cLine) (hm : X.mg "repr" = none) (ha : DA X T W (e :: es) mas) (hg : Gl X "repr" := by rfl) (he : starEach (e :: es) X.env = (false, eval e X.env) :: starEach es X.env := by rfl) (hpl : (backTo pos (starEach es X.env)).any (·.1) = false := by rfl) : DE X T W (.Call (.Name "repr" p1) (e :: es) [] pos) (eN bRepr mas) :=
  de_bi (call_reprD hgd hu) tell_repr hg hm bv_repr ha (by decide) (by decide) he hpl
theorem de_isi {cs : List Addr} (hC : ∀ C ∈ cs, TyC X.K C) (hm : X.mg "isinstance" = none) (ha : DA X T W (e :: es) mas) (hg : Gl X "isinstance" := by rfl) (he : starEach (e :: es) X.env = (false, eval e X.env) :: starEach es X.env := by rfl) (hpl : (backTo pos (starEach es X.env)).any (·.1) = false := by rfl) : DE X T W (.Call (.Name "isinstance" p1) (e :: es) [] pos) (eN (bIsi X.K cs) mas) :=
  de_bi call_isi (tell_isi hC) hg hm bv_isinstance ha (by decide) (by decide) he hpl
/-- a built-in class as a value -/
theorem de_ty {x : Str} {n : String} (hm : X.mg x = none) (hv : bootBuiltins x = some (.type n)) (hg : Gl X x := by rfl) (hn : x ≠ "__name__" := by decide) (hd : (x == ("__debug__" : Str)) = false := by decide) : DE X T W (.Name x pos) (eC (.ty n)) := by
  refine ⟨⟨fun pins s σ H Q I ⟨ρ, δ, st, ok, rs, h⟩ => ?_⟩⟩
  exact ld_blt I hg hm hv ⟨V.ty n, H, I, rfl, (show Post X.K T W (R X.K) σ H ρ (.ok (.ty n) st) Q from h).ok ok rfl⟩ hn hd
/-! ### comparisons in a row -/
def eCh2 (f g : D → D → Store → Res D) (ma mb mc : EM) : EM := fun δ st => (ma δ st).bind fun x st1 => (mb δ st1).bind fun y st2 => (f x y st2).bind fun k st3 => match k with
  | .bl true => (mc δ st3).bind fun z st4 => g y z st4
  | .bl false => .ok (.bl false) st3
  | _ => .bad
def eCh3 (f g h : D → D → Store → Res D) (ma mb mc md : EM) : EM := fun δ st => (ma δ st).bind fun x st1 => (mb δ st1).bind fun y st2 => (f x y st2).bind fun k st3 => match k with
  | .bl true => (mc δ st3).bind fun z st4 => (g y z st4).bind fun k st5 => match k with
    | .bl true => (md δ st5).bind fun u st6 => h z u st6
    | .bl false => .ok (.bl false) st5
    | _ => .bad
  | .bl false => .ok (.bl false) st3
  | _ => .bad
/-- a value that is a truth value is a test -/
theorem Tell2.k {r : R2} {f : D → D → Store → Res D} (hf : Tell2 X T r f) {σ : L2.St} {H : Hp} {ρ : Wo} {st : Store} {x y : D} {v u : V} {Q : VK} {Z : Bool → Hp → Prop} (ok : Ok X.K T H ρ st) (rx : R X.K H ρ x v) (ry : R X.K H ρ y u) (k : D → Store → Res D) (h : Post X.K T W (R X.K) σ H ρ ((f x y st).bind k) Q)
    (hz : ∀ d st' H' ρ' b, Go H ρ H' ρ' → Ok X.K T H' ρ' st' → d = .bl b → Post X.K T W (R X.K) σ H' ρ' (k d st') Q → Z b H') (hk : ∀ d st', (∀ b, d ≠ .bl b) → k d st' = .bad) : r v u H fun z H' => ∃ b, z = .bl b ∧ Z b H' := by
  refine hf W σ H ρ st x y v u _ ok rx ry (Post.bind h fun d st' z H' ρ' g ok' rd h' => ?_)
  by_cases hb : ∃ b, d = .bl b
  · obtain ⟨b, rfl⟩ := hb
    exact ⟨b, rd, hz _ st' H' ρ' b g ok' rfl h'⟩
  · rw [hk d st' (fun b e => hb ⟨b, e⟩)] at h'
    exact h'.elim
theorem de_ch2 {op op' : CmpOp} {r r' : R2} {f g : D → D → Store → Res D} (ho : OpR X (compareOp op) r) (ho' : OpR X (compareOp op') r') (hf : Tell2 X T r f) (hg : Tell2 X T r' g) (ha : DE X T W a ma) (hb : DE X T W b mb) (hc : DE X T W c mc)
    (hm : lastMarks [op, op'] [b, c] = false := by with_unfolding_all rfl) : DE X T W (.Compare a [op, op'] [b, c] pos) (eCh2 f g ma mb mc) := by
  refine ⟨PE.imp (pe_chain ho ho' ha.pe hb.pe hc.pe hm) fun σ H Q ⟨ρ, δ, st, ok, rs, h⟩ => ⟨ρ, δ, st, ok, rs, Post.bind h fun x st1 v H1 ρ1 g1 ok1 rx h1 => ⟨ρ1, δ, st1, ok1, rs.go g1, Post.bind h1 fun y st2 u H2 ρ2 g2 ok2 ry h2 => ?_⟩⟩⟩
  refine hf.k ok2 (R.go g2 x v rx) ry _ h2 (fun d st3 H3 ρ3 b g3 ok3 e h3 => ?_) fun d st' hd => by
    cases d with
    | bl b => exact absurd rfl (hd b)
    | _ => rfl
  subst e
  cases b with
  | false => exact (show Post X.K T W (R X.K) σ H3 ρ3 (.ok (.bl false) st3) _ from h3).ok ok3 rfl
  | true => exact ⟨ρ3, δ, st3, ok3, ((rs.go g1).go g2).go g3, Post.bind h3 fun z st4 w H4 ρ4 g4 ok4 rz h4 => hg W σ H4 ρ4 st4 y z u w Q ok4 (R.go g4 y u (R.go g3 y u ry)) rz h4⟩
theorem pe_chain3 {op op' op3 : CmpOp} {r r' r3 : R2} {ta tb tc td : TE} (ho : OpR X (compareOp op) r) (ho' : OpR X (compareOp op') r') (ho3 : OpR X (compareOp op3) r3) (ha : PE X a ta) (hb : PE X b tb) (hc : PE X c tc) (hd : PE X d td)
    (hm : lastMarks [op, op', op3] [b, c, d] = false := by with_unfolding_all rfl) : PE X (.Compare a [op, op', op3] [b, c, d] pos) (fun σ H Q => ta σ H fun x H1 => tb σ H1 fun y H2 => r x y H2 fun z H3 => ∃ k, z = .bl k ∧
      (if k = true then tc σ H3 fun w' H4 => r' y w' H4 fun z H5 => ∃ k, z = .bl k ∧ (if k = true then td σ H5 fun u H6 => r3 w' u H6 Q else Q (.bl false) H5) else Q (.bl false) H3)) := by
  refine ⟨fun pins s σ H Q I h => ?_⟩
  refine Compare_chain (thn (ha.run pins s σ H _ I h) fun v s1 ⟨x, H1, I1, r1, q1⟩ => chain_link (thn (hb.run pins s1 σ H1 _ I1 q1) fun u s2 ⟨y, H2, I2, r2, q2⟩ =>
    thn (ho pins s2 σ H2 x y v u _ I2 r1 r2 q2) fun dd s3 ⟨z, H3, I3, r3, k, e, q3⟩ => ?_)) hm
  subst e
  cases r3
  refine wpAny_truthy_bool ?_
  cases k with
  | false => exact ite_ff ⟨.bl false, H3, I3, rfl, q3⟩
  | true =>
    refine ite_tt (chain_link (thn (hc.run pins s3 σ H3 _ I3 q3) fun w s4 ⟨y', H4, I4, r4, q4⟩ => thn (ho' pins s4 σ H4 y y' u w _ I4 r2 r4 q4) fun dd s5 ⟨z, H5, I5, r5, k, e, q5⟩ => ?_))
    subst e
    cases r5
    refine wpAny_truthy_bool ?_
    cases k with
    | false => exact ite_ff ⟨.bl false, H5, I5, rfl, q5⟩
    | true => exact ite_tt (chain_last (thn (hd.run pins s5 σ H5 _ I5 q5) fun w' s6 ⟨z', H6, I6, r6, q6⟩ => ho3 pins s6 σ H6 y' z' w w' Q I6 r4 r6 q6))
theorem pt_chain3 {op op' op3 : CmpOp} {r r' r3 : R2} {ta tb tc td : TE} (ho : OpR X (compareOp op) r) (ho' : OpR X (compareOp op') r') (ho3 : OpR X (compareOp op3) r3) (ha : PE X a ta) (hb : PE X b tb) (hc : PE X c tc) (hd : PE X d td)
    (hm : lastMarks [op, op', op3] [b, c, d] = false := by with_unfolding_all rfl) : PT X (.Compare a [op, op', op3] [b, c, d] pos) (tTest fun σ H Q => ta σ H fun x H1 => tb σ H1 fun y H2 => r x y H2 fun z H3 => ∃ k, z = .bl k ∧
      (if k = true then tc σ H3 fun w' H4 => r' y w' H4 fun z H5 => ∃ k, z = .bl k ∧ (if k = true then td σ H5 fun u H6 => r3 w' u H6 Q else Q (.bl false) H5) else Q (.bl false) H3)) := by
  refine ⟨fun pins s σ H Q I h => ?_⟩
  refine isTrue_chain (thn (ha.run pins s σ H _ I h) fun v s1 ⟨x, H1, I1, r1, q1⟩ => test_link (thn (hb.run pins s1 σ H1 _ I1 q1) fun u s2 ⟨y, H2, I2, r2, q2⟩ =>
    thn (ho pins s2 σ H2 x y v u _ I2 r1 r2 q2) fun dd s3 ⟨z, H3, I3, r3, k, e, q3⟩ => ?_)) hm
  subst e
  cases r3
  refine wpAny_truthy_bool ?_
  cases k with
  | false =>
    obtain ⟨k', e', q'⟩ := q3
    cases e'
    exact ite_ff ⟨H3, I3, q'⟩
  | true =>
    refine ite_tt (test_link (thn (hc.run pins s3 σ H3 _ I3 q3) fun w s4 ⟨y', H4, I4, r4, q4⟩ => thn (ho' pins s4 σ H4 y y' u w _ I4 r2 r4 q4) fun dd s5 ⟨z, H5, I5, r5, k, e, q5⟩ => ?_))
    subst e
    cases r5
    refine wpAny_truthy_bool ?_
    cases k with
    | false =>
      obtain ⟨k', e', q'⟩ := q5
      cases e'
      exact ite_ff ⟨H5, I5, q'⟩
    | true =>
      refine ite_tt (test_last (thn (hd.run pins s5 σ H5 _ I5 q5) fun w' s6 ⟨z', H6, I6, r6, q6⟩ => thn (ho3 pins s6 σ H6 y' z' w w' _ I6 r4 r6 q6) fun d' s7 ⟨z2, H7, I7, r7, k2, e2, q7⟩ => ?_))
      subst e2
      cases r7
      exact wpAny_truthy_bool ⟨H7, I7, q7⟩
theorem dt_ch2 {op op' : CmpOp} {r r' : R2} {f g : D → D → Store → Res D} (ho : OpR X (compareOp op) r) (ho' : OpR X (compareOp op') r') (hf : Tell2 X T r f) (hg : Tell2 X T r' g) (ha : DE X T W a ma) (hb : DE X T W b mb) (hc : DE X T W c mc)
    (hm : lastMarks [op, op'] [b, c] = false := by with_unfolding_all rfl) : DT X T W (.Compare a [op, op'] [b, c] pos) (tVal (eCh2 f g ma mb mc)) := by
  refine ⟨PT.imp (pt_chain ho ho' ha.pe hb.pe hc.pe hm) fun σ H Q h => ?_⟩
  have key : ∀ Q', rE X.K T W (eCh2 f g ma mb mc) σ H Q' → tChain r r' (rE X.K T W ma) (rE X.K T W mb) (rE X.K T W mc) σ H Q' := fun Q' ⟨ρ, δ, st, ok, rs, h⟩ => ⟨ρ, δ, st, ok, rs, Post.bind h fun x st1 v H1 ρ1 g1 ok1 rx h1 => ⟨ρ1, δ, st1, ok1, rs.go g1, Post.bind h1 fun y st2 u H2 ρ2 g2 ok2 ry h2 => by
    refine hf.k ok2 (R.go g2 x v rx) ry _ h2 (fun d st3 H3 ρ3 b g3 ok3 e h3 => ?_) fun d st' hd => by
      cases d with
      | bl b => exact absurd rfl (hd b)
      | _ => rfl
    subst e
    cases b with
    | false => exact (show Post X.K T W (R X.K) σ H3 ρ3 (.ok (.bl false) st3) _ from h3).ok ok3 rfl
    | true => exact ⟨ρ3, δ, st3, ok3, ((rs.go g1).go g2).go g3, Post.bind h3 fun z st4 w H4 ρ4 g4 ok4 rz h4 => hg W σ H4 ρ4 st4 y z u w Q' ok4 (R.go g4 y u (R.go g3 y u ry)) rz h4⟩⟩⟩
  exact key _ (rT_of h)
theorem ch3_key {r r' r3 : R2} {f g h3 : D → D → Store → Res D} (hf : Tell2 X T r f) (hg : Tell2 X T r' g) (hh : Tell2 X T r3 h3) {σ : L2.St} {H : Hp} {Q : VK} (h : rE X.K T W (eCh3 f g h3 ma mb mc md) σ H Q) :
    rE X.K T W ma σ H fun x H1 => rE X.K T W mb σ H1 fun y H2 => r x y H2 fun z H3 => ∃ k, z = .bl k ∧
      (if k = true then rE X.K T W mc σ H3 fun w' H4 => r' y w' H4 fun z H5 => ∃ k, z = .bl k ∧ (if k = true then rE X.K T W md σ H5 fun u H6 => r3 w' u H6 Q else Q (.bl false) H5) else Q (.bl false) H3) := by
  obtain ⟨ρ, δ, st, ok, rs, h⟩ := h
  refine ⟨ρ, δ, st, ok, rs, Post.bind h fun x st1 v H1 ρ1 g1 ok1 rx h1 => ⟨ρ1, δ, st1, ok1, rs.go g1, Post.bind h1 fun y st2 u H2 ρ2 g2 ok2 ry h2 => ?_⟩⟩
  refine hf.k ok2 (R.go g2 x v rx) ry _ h2 (fun d st3 H3 ρ3 b g3 ok3 e h3 => ?_) fun d st' hd => by
    cases d with
    | bl b => exact absurd rfl (hd b)
    | _ => rfl
  subst e
  cases b with
  | false => exact (show Post X.K T W (R X.K) σ H3 ρ3 (.ok (.bl false) st3) _ from h3).ok ok3 rfl
  | true =>
    refine ⟨ρ3, δ, st3, ok3, ((rs.go g1).go g2).go g3, Post.bind h3 fun z st4 w H4 ρ4 g4 ok4 rz h4 => ?_⟩
    refine hg.k ok4 (R.go g4 y u (R.go g3 y u ry)) rz _ h4 (fun d st5 H5 ρ5 b g5 ok5 e h5 => ?_) fun d st' hd => by
      cases d with
      | bl b => exact absurd rfl (hd b)
      | _ => rfl
    subst e
    cases b with
    | false => exact (show Post X.K T W (R X.K) σ H5 ρ5 (.ok (.bl false) st5) _ from h5).ok ok5 rfl
    | true => exact ⟨ρ5, δ, st5, ok5, ((((rs.go g1).go g2).go g3).go g4).go g5, Post.bind h5 fun t st6 wt H6 ρ6 g6 ok6 rt h6 => hh W σ H6 ρ6 st6 z t w wt Q ok6 (R.go g6 z w (R.go g5 z w rz)) rt h6⟩
theorem de_ch3 {op op' op3 : CmpOp} {r r' r3 : R2} {f g h3 : D → D → Store → Res D} (ho : OpR X (compareOp op) r) (ho' : OpR X (compareOp op') r') (ho3 : OpR X (compareOp op3) r3) (hf : Tell2 X T r f) (hg : Tell2 X T r' g) (hh : Tell2 X T r3 h3) (ha : DE X T W a ma) (hb : DE X T W b mb) (hc : DE X T W c mc) (hd : DE X T W d md)
    (hm : lastMarks [op, op', op3] [b, c, d] = false := by with_unfolding_all rfl) : DE X T W (.Compare a [op, op', op3] [b, c, d] pos) (eCh3 f g h3 ma mb mc md) :=
  ⟨PE.imp (pe_chain3 ho ho' ho3 ha.pe hb.pe hc.pe hd.pe hm) fun σ H Q h => ch3_key hf hg hh h⟩
theorem dt_ch3 {op op' op3 : CmpOp} {r r' r3 : R2} {f g h3 : D → D → Store → Res D} (ho : OpR X (compareOp op) r) (ho' : OpR X (compareOp op') r') (ho3 : OpR X (compareOp op3) r3) (hf : Tell2 X T r f) (hg : Tell2 X T r' g) (hh : Tell2 X T r3 h3) (ha : DE X T W a ma) (hb : DE X T W b mb) (hc : DE X T W c mc) (hd : DE X T W d md)
    (hm : lastMarks [op, op', op3] [b, c, d] = false := by with_unfolding_all rfl) : DT X T W (.Compare a [op, op', op3] [b, c, d] pos) (tVal (eCh3 f g h3 ma mb mc md)) :=
  ⟨PT.imp (pt_chain3 ho ho' ho3 ha.pe hb.pe hc.pe hd.pe hm) fun σ H Q h => ch3_key hf hg hh (rT_of h)⟩
end
/-! ### dicts -/
def keyD : D → Option Key
  | .int i => some (.inl i)
  | .str x => some (.inr x)
  | _ => none
theorem keyAt {K : PySem.W.Frag} {H : Hp} {ρ : Wo} {d : D} {v : V} {k : Key} (r : R K H ρ d v) (e : keyD d = some k) : v = kV k := by
  cases d with
  | int i => cases e; exact r
  | str x => cases e; exact r
  | _ => cases e
def valG {α : Type} (kvs : List (Key × α)) (k : Key) : Option α := (kvs.find? fun kv => decide (kv.1 = k)).map (·.2)
def putG {α : Type} (kvs : List (Key × α)) (k : Key) (v : α) : List (Key × α) :=
  if (kvs.any fun kv => decide (kv.1 = k)) = true then kvs.map (fun kv => if kv.1 = k then (kv.1, v) else kv) else kvs ++ [(k, v)]
theorem val_RL {K : PySem.W.Frag} {H : Hp} {ρ : Wo} {k : Key} : ∀ (kds : List (Key × D)) (kxs : List (Key × V)), kxs.map (·.1) = kds.map (·.1) → RL K H ρ (kds.map (·.2)) (kxs.map (·.2)) →
    (∀ d, valG kds k = some d → ∃ v, valV kxs k = some v ∧ R K H ρ d v) ∧ (valG kds k = none → valV kxs k = none)
  | [], [], _, _ => ⟨fun d h => (by cases h), fun _ => rfl⟩
  | [], _ :: _, e, _ => by simp at e
  | _ :: _, [], e, _ => by simp at e
  | p :: kds, q :: kxs, e, r => by
    simp only [List.map_cons, List.cons.injEq] at e
    obtain ⟨v, rest, e2, r1, r2⟩ := r
    simp only [List.map_cons, List.cons.injEq] at e2
    obtain ⟨rfl, rfl⟩ := e2
    by_cases h : p.1 = k
    · refine ⟨fun d hd => ?_, fun hn => ?_⟩
      · rw [show valG (p :: kds) k = some p.2 by simp [valG, List.find?_cons, h]] at hd
        cases hd
        exact ⟨_, valV_pos (e.1.trans h), r1⟩
      · rw [show valG (p :: kds) k = some p.2 by simp [valG, List.find?_cons, h]] at hn
        cases hn
    · have ih := val_RL (k := k) kds kxs e.2 r2
      rw [show valG (p :: kds) k = valG kds k by simp [valG, List.find?_cons, h], valV_neg (fun z => h (e.1.symm.trans z))]
      exact ih
theorem put_RL {K : PySem.W.Frag} {H : Hp} {ρ : Wo} {k : Key} {d : D} {v : V} (rd : R K H ρ d v) : ∀ {kds : List (Key × D)} {kxs : List (Key × V)}, kxs.map (·.1) = kds.map (·.1) → RL K H ρ (kds.map (·.2)) (kxs.map (·.2)) →
    (putK kxs k v).map (·.1) = (putG kds k d).map (·.1) ∧ RL K H ρ ((putG kds k d).map (·.2)) ((putK kxs k v).map (·.2)) := by
  intro kds kxs e r
  have any_eq : ∀ {kds : List (Key × D)} {kxs : List (Key × V)}, kxs.map (·.1) = kds.map (·.1) → (kxs.any fun kv => decide (kv.1 = k)) = (kds.any fun kv => decide (kv.1 = k)) := by
    intro kds
    induction kds with
    | nil => intro kxs e; cases kxs with
      | nil => rfl
      | cons _ _ => simp at e
    | cons p r ih => intro kxs e; cases kxs with
      | nil => simp at e
      | cons q s =>
        simp only [List.map_cons, List.cons.injEq] at e
        simp only [List.any_cons, e.1, ih e.2]
  have map_eq : ∀ {kds : List (Key × D)} {kxs : List (Key × V)}, kxs.map (·.1) = kds.map (·.1) → RL K H ρ (kds.map (·.2)) (kxs.map (·.2)) →
      (kxs.map fun kv => if kv.1 = k then (kv.1, v) else kv).map (·.1) = (kds.map fun kv => if kv.1 = k then (kv.1, d) else kv).map (·.1) ∧ RL K H ρ ((kds.map fun kv => if kv.1 = k then (kv.1, d) else kv).map (·.2)) ((kxs.map fun kv => if kv.1 = k then (kv.1, v) else kv).map (·.2)) := by
    intro kds
    induction kds with
    | nil => intro kxs e r; cases kxs with
      | nil => exact ⟨rfl, rfl⟩
      | cons _ _ => simp at e
    | cons p t ih => intro kxs e r; cases kxs with
      | nil => simp at e
      | cons q s =>
        simp only [List.map_cons, List.cons.injEq] at e
        obtain ⟨w, rest, e2, r1, r2⟩ := r
        simp only [List.map_cons, List.cons.injEq] at e2
        obtain ⟨rfl, rfl⟩ := e2
        obtain ⟨h1, h2⟩ := ih e.2 r2
        refine ⟨?_, ?_⟩
        · rw [List.map_cons, List.map_cons, List.map_cons, List.map_cons, h1]
          congr 1
          rw [e.1]
          split <;> simp [e.1]
        · simp only [List.map_cons]
          refine ⟨_, _, rfl, ?_, h2⟩
          rw [e.1]
          split
          · exact rd
          · exact r1
  unfold putK putG
  rw [any_eq e]
  split
  · exact map_eq e r
  · refine ⟨by simp [e], ?_⟩
    rw [List.map_append, List.map_append]
    exact r.append ⟨v, [], rfl, rd, rfl⟩
section
variable {X : Cx} {T : Tb} {W : WX} {a b c d e o i : Expr} {es : List Expr} {mas : AM} {ma mb mc md me mo mi : EM} {pos p1 p2 : Pos}
def eDictN : EM := fun _ st => .ok (.loc st.length) (st ++ [.dk []])
theorem de_dictN : DE X T W (.Dict [] [] pos) eDictN :=
  ⟨PE.imp pe_dnewK fun σ H Q ⟨ρ, δ, st, ok, rs, h⟩ p hp => h (.ref p) _ (ρ.more p) (go_more ok hp) (ok.more hp ⟨[], upd_same, rfl, rfl⟩) ⟨p, rfl, by show (ρ.m ++ [p])[st.length]? = _; rw [← ok.len]; simp⟩⟩
/-- d[k] -/
def dKx (x y : D) (st : Store) : Res D := match x, keyD y with
  | .loc n, some k => match st[n]? with
    | some (.dk kvs) => match valG kvs k with
      | some v => .ok v st
      | none => .bad
    | _ => .bad
  | _, _ => .bad
theorem de_kx (hu : X.A.units + 64 < cLine) (ha : DE X T W a ma) (hb : DE X T W b mb) (hs : NoSl b := by exact fun _ _ => rfl) : DE X T W (.Subscript a b pos) (e2 dKx ma mb) := by
  refine ⟨PE.imp (pe_dget (by omega) ha.pe hb.pe hs) fun σ H Q ⟨ρ, δ, st, ok, rs, h⟩ => ⟨ρ, δ, st, ok, rs, Post.bind h fun x st1 v H1 ρ1 g1 ok1 rx h1 => ⟨ρ1, δ, st1, ok1, rs.go g1, Post.bind h1 fun y st2 u H2 ρ2 g2 ok2 ry h2 => ?_⟩⟩⟩
  replace rx := R.go g2 x v rx
  unfold dKx at h2
  split at h2
  · rename_i n k ek
    split at h2
    · rename_i kds q
      split at h2
      · rename_i w ew
        obtain ⟨p, rfl, hp, kxs, hk, e1, r1⟩ := locAt ok2 rx q
        rw [keyAt ry ek]
        obtain ⟨z, hz, rz⟩ := (val_RL _ _ e1 r1).1 w ew
        exact ⟨p, z, rfl, by rw [← hz]; exact DGet.k hk, h2.ok ok2 rz⟩
      · exact h2.elim
    · exact h2.elim
  · exact h2.elim
/-- d[k] = v -/
def dKset (x y v : D) (st : Store) : Option Store := match x, keyD y with
  | .loc n, some k => match st[n]? with
    | some (.dk kvs) => if kvs.length < 1000000 then some (st.set n (.dk (putG kvs k v))) else none
    | _ => none
  | _, _ => none
def sKput (mo mi me : EM) : SM := fun δ st => sBind (me δ st) δ fun v st1 => sBind (mo δ st1) δ fun x st2 => sBind (mi δ st2) δ fun y st3 => match dKset x y v st3 with
  | some st4 => .nx δ st4
  | none => .bad
theorem ds_kput (hu : X.A.units + 64 < cLine) (ho : DE X T W o mo) (hi : DE X T W i mi) (hv : DE X T W e me) (hs : swapsWith e (some (.Subscript o i p1)) pos.line X.env = pure false := by rfl) : DS X T W (.Assign [.Subscript o i p1] e pos) (sKput mo mi me) := by
  refine ⟨PS.imp (ps_dput (by omega) ho.pe hi.pe hv.pe hs) fun D σ H ⟨ρ, δ, st, ok, rs, h⟩ => ⟨ρ, δ, st, ok, rs, PostS.bind h rs fun v st1 vv H1 ρ1 g1 ok1 rv h1 => ⟨ρ1, δ, st1, ok1, rs.go g1, PostS.bind h1 (rs.go g1) fun x st2 xv H2 ρ2 g2 ok2 rx h2 => ⟨ρ2, δ, st2, ok2, (rs.go g1).go g2, PostS.bind h2 ((rs.go g1).go g2) fun y st3 yv H3 ρ3 g3 ok3 ry h3 => ?_⟩⟩⟩⟩
  replace rv := R.go g3 _ _ (R.go g2 _ _ rv)
  replace rx := R.go g3 _ _ rx
  split at h3
  · rename_i st4 e4
    unfold dKset at e4
    split at e4
    · rename_i n k ek
      split at e4
      · rename_i kds q
        split at e4
        · rename_i hl
          cases e4
          obtain ⟨p, rfl, hp, kxs, hk, e1, r1⟩ := locAt ok3 rx q
          have hlen : kxs.length = kds.length := by have := congrArg List.length e1; simpa using this
          rw [keyAt ry ek]
          have g := go_put (H := H3) (o := .dK (putK kxs k vv)) hp ⟨_, hk⟩
          obtain ⟨z1, z2⟩ := put_RL (k := k) (R.go g _ _ rv) e1 (RL.go g _ _ r1)
          refine ⟨p, _, rfl, DPut.k hk (by rw [hlen, sizeLine_eq]; omega), ?_⟩
          exact h3 σ _ ρ3 g (ok3.put hp q ⟨_, upd_same, z1, z2⟩) ((((rs.go g1).go g2).go g3).go g)
        · cases e4
      · cases e4
    · cases e4
  · exact h3.elim
end
end L3

/-! ### text Lp -/
namespace L3
open PySem PySem.Spec PyProof.Rows L2

/-! ### what stands behind the top: facts by names, tables of code objects -/
/-- the code object and its table of the function at f -/
def codeA (K : PySem.W.Frag) (f : Addr) : Addr := match codeOf K f with
  | some (.ref c) => c
  | _ => 0
def tabP (K : PySem.W.Frag) (f : Addr) : Addr := match K.lookup (codeA K f) with
  | some ⟨_, _, .fields vs, _⟩ => match (vs[11]? : Option Value) with
    | some (Value.ref P) => P
    | _ => 0
  | _ => 0
def isTab (o : Obj) : Bool := match o with
  | ⟨.none, none, .fields vs, sl⟩ => vs.isEmpty && sl.isEmpty
  | _ => false
theorem isTab_ok {o : Obj} (h : isTab o = true) : o = { cls := .none, data := .fields #[] } := by
  obtain ⟨oc, od, dt, sl⟩ := o
  unfold isTab at h
  split at h
  · rename_i vs sl' e
    injection e with e1 e2 e3 e4
    subst e1 e2 e3 e4
    rw [Bool.and_eq_true] at h
    have h1 := Array.isEmpty_iff.mp h.1
    have h2 := Array.isEmpty_iff.mp h.2
    subst h1 h2
    rfl
  · cases h
def isLst (o : Obj) : Bool := match o.cls with
  | .type "list" => true
  | _ => false
/-- the kept part: no tables, no lists -/
def partOf (g : Addr → Option Obj) (as : List Addr) : PySem.W.Frag := He.frG (fun a => match g a with
  | some o => if (isTab o || isLst o) = true then none else some o
  | none => none) as
theorem partOf_in {as : List Addr} {h : Heap} : (partOf h.get? as).In h := fun a o e => by
  have e1 := He.frG_at as e
  split at e1
  · rename_i o' q
    split at e1
    · cases e1
    · cases e1; exact q
  · cases e1
theorem partOf_no {g : Addr → Option Obj} {as : List Addr} {a : Addr} {o : Obj} (e : (partOf g as).lookup a = some o) : isTab o = false ∧ isLst o = false := by
  have e1 := He.frG_at as e
  split at e1
  · rename_i o' q
    split at e1
    · cases e1
    · rename_i h
      cases e1
      simp only [Bool.or_eq_true, not_or, Bool.not_eq_true] at h
      exact h
  · cases e1
def hdB (K : PySem.W.Frag) (c P : Addr) : Bool := match K.lookup c with
  | some ⟨.type t, _, .fields vs, _⟩ => decide (t = "code") && decide (vs[11]? = some (.ref P)) && decide (c ≠ P) && (match vs.getD 18 .none with
    | .str _ _ => true
    | _ => false) && (match vs.getD 7 .none with
    | .int _ _ => true
    | _ => false) && (match vs.getD 9 .none with
    | .bool _ => true
    | _ => false) && (match vs.getD 10 .none with
    | .int _ _ => true
    | _ => false)
  | _ => false
theorem hdB_ok {K : PySem.W.Frag} {h : Heap} {c P : Addr} (X : K.In h) (e : hdB K c P = true) : PySem.W.CodeHd h c P := by
  unfold hdB at e
  split at e
  · rename_i t od vs sl q
    simp only [Bool.and_eq_true, decide_eq_true_eq] at e
    obtain ⟨⟨⟨⟨⟨⟨h1, h2⟩, h3⟩, h4⟩, h5⟩, h6⟩, h7⟩ := e
    subst h1
    have g11 : vs.getD 11 .none = .ref P := by
      rw [Array.getD_eq_getD_getElem?, h2]; rfl
    split at h4
    · rename_i x1 t1 q1
      split at h5
      · rename_i x2 t2 q2
        split at h6
        · rename_i x3 q3
          split at h7
          · rename_i x4 t4 q4
            exact ⟨_, vs, x1, t1, x2, t2, x3, x4, t4, X _ _ q, rfl, rfl, h2, g11, q1, q2, q3, q4, h3⟩
          · cases h7
        · cases h6
      · cases h5
    · cases h4
  · cases e
abbrev Nm2 : Type := Str × Option Str
/-- what the end leans on: all facts; each of cs has a code object with an empty table -/
structure Says (fa : List (PySem.W.Frag → Bool)) (fn : List He.DefD) (cs : List Nm2) (h : Heap) (K : PySem.W.Frag) : Prop where
  kin : K.In h
  fa : ∀ f ∈ fa, f K = true
  fn : ∀ d ∈ fn, d.ok K = true ∧ He.fnW K d.at_ = d.val
  tab : ∀ x ∈ cs, h.get? (tabP K (He.fAd K x)) = some { cls := .none, data := .fields #[] } ∧ K.lookup (tabP K (He.fAd K x)) = none ∧ hdB K (codeA K (He.fAd K x)) (tabP K (He.fAd K x)) = true ∧ codeOf K (He.fAd K x) = some (.ref (codeA K (He.fAd K x)))
  nolst : ∀ a o, K.lookup a = some o → isLst o = false
abbrev AlT : Type := Bool × List He.FnW
def tabsB (g : Addr → Option Obj) (cs : List Nm2) (K : PySem.W.Frag) : Bool := cs.all fun x => (match g (tabP K (He.fAd K x)) with
  | some o => isTab o
  | none => false) && hdB K (codeA K (He.fAd K x)) (tabP K (He.fAd K x)) && decide (codeOf K (He.fAd K x) = some (.ref (codeA K (He.fAd K x))))
def obsT (n : Nat) (fa : List (PySem.W.Frag → Bool)) (fn : List He.DefD) (cs : List Nm2) (g : Addr → Option Obj) : AlT :=
  let K := partOf g (He.asD g n)
  ((fa.all fun f => f K) && fn.all (fun d => d.ok K) && tabsB g cs K, fn.map fun d => He.fnW K d.at_)
theorem obsT_ok {n : Nat} {fa : List (PySem.W.Frag → Bool)} {fn : List He.DefD} {cs : List Nm2} {h : Heap} (e : obsT n fa fn cs h.get? = (true, fn.map He.DefD.val)) : Says fa fn cs h (partOf h.get? (He.asD h.get? n)) := by
  have e1 := congrArg (fun z : AlT => z.1) e
  have e2 := congrArg (fun z : AlT => z.2) e
  simp only [obsT, Bool.and_eq_true] at e1 e2
  obtain ⟨⟨h1, h2⟩, h3⟩ := e1
  refine ⟨partOf_in, fun f hf => List.all_eq_true.mp h1 f hf, fun d hd => ⟨List.all_eq_true.mp h2 d hd, ?_⟩, fun x hx => ?_, fun a o q => (partOf_no q).2⟩
  · obtain ⟨i, hi⟩ := List.mem_iff_getElem?.mp hd
    have e3 := congrArg (fun l => l[i]?) e2
    simp only [List.getElem?_map, hi, Option.map_some] at e3
    exact Option.some.inj e3
  · have z := List.all_eq_true.mp h3 x hx
    simp only [Bool.and_eq_true, decide_eq_true_eq] at z
    obtain ⟨⟨z1, z2⟩, z3⟩ := z
    split at z1
    · rename_i o q
      have eo := isTab_ok z1
      subst eo
      refine ⟨q, ?_, z2, z3⟩
      cases hk : (partOf h.get? (He.asD h.get? n)).lookup (tabP (partOf h.get? (He.asD h.get? n)) (He.fAd (partOf h.get? (He.asD h.get? n)) x)) with
      | none => rfl
      | some o' =>
        have k1 := partOf_in _ _ hk
        rw [q] at k1
        cases k1
        have := (partOf_no hk).1
        cases this
    · cases z1
theorem Says.keeps {fa : List (PySem.W.Frag → Bool)} {fn : List He.DefD} {cs : List Nm2} {h h' : Heap} {K : PySem.W.Frag} (c : Says fa fn cs h K) (k : ∀ b o, h.get? b = some o → h'.get? b = some o) : Says fa fn cs h' K :=
  ⟨PySem.W.Frag.In.keeps c.kin k, c.fa, c.fn, fun x hx => let ⟨a, b⟩ := c.tab x hx; ⟨k _ _ a, b⟩, c.nolst⟩
def hookT (n : Nat) (fa : List (PySem.W.Frag → Bool)) (fn : List He.DefD) (cs : List Nm2) : PySem.W.Hook where
  α := AlT
  obs := fun s => obsT n fa fn cs s.heap.get?
  val := fun _ => (true, fn.map He.DefD.val)
  says := fun _ h => ∃ K : PySem.W.Frag, Says fa fn cs h K
  of := fun _ _ e => ⟨_, obsT_ok e⟩
  keeps := fun _ _ _ ⟨K, c⟩ k => ⟨K, c.keeps k⟩
theorem obsT_eq {n : Nat} {fa : List (PySem.W.Frag → Bool)} {fn : List He.DefD} {cs : List Nm2} {g : Addr → Option Obj} {s : Shared} (h : ∀ a, g a = s.heap.get? a) : obsT n fa fn cs g = (hookT n fa fn cs).obs s := by
  have e : g = s.heap.get? := funext h
  rw [e] <;> rfl
theorem Says.at {fa : List (PySem.W.Frag → Bool)} {fn : List He.DefD} {cs : List Nm2} {h : Heap} {K : PySem.W.Frag} (c : Says fa fn cs h K) (i : Nat) {f : PySem.W.Frag → Bool} (e : fa[i]? = some f := by rfl) : f K = true := c.fa f (List.mem_of_getElem? e)
/-- a def by its place -/
theorem Says.def_ {fa : List (PySem.W.Frag → Bool)} {fn : List He.DefD} {cs : List Nm2} {h : Heap} {K : PySem.W.Frag} (c : Says fa fn cs h K) (i : Nat) {stm : Stmt} {x : Str} {q : Str} {at_ : Nm2} (e : fn[i]? = some ⟨at_, x, q, defArgs stm, defBody stm, defScope stm, [], []⟩ := by rfl) :
    ∃ fd, Fun K x q stm (He.fAd K at_) fd := by
  obtain ⟨h1, h2⟩ := c.fn _ (List.mem_of_getElem? e)
  obtain ⟨fd, ⟨oc, od, dV, kV, doc, pm, an, cdv, ct, osl, e1, e2, e3, e4, e5⟩, kp⟩ := He.DefD.funD h2 h1
  rcases e4 with ⟨_, rfl⟩ | ⟨z, _⟩
  · exact ⟨fd, ⟨oc, od, kV, doc, pm, an, cdv, ct, osl, e1, e2, e3⟩, kp⟩
  · exact absurd rfl z
/-! ### the law's call -/
section
variable {P : Program} {w : World} {K : PySem.W.Frag} {mg mb : Str → Option Value} {k : Nat} {fa a : Addr} {cs : List (Addr × Addr)} {tabs : List NdefX.NTab} {fd : FuncData} {x : Str} {mf : List D → Store → Res D} {s₁ : Shared} {vs : List Value} {ns : List Int}
/-- the heap at the call: the script is locked, the tables are empty, nothing else is tracked -/
def lawH (a : Addr) (o : Obj) (xs : List V) (ts : List Addr) : Hp := fun b => if b = a then some (.frz o (.lst xs)) else if b ∈ ts then some (.tbl #[]) else none
theorem cx_false {P : Program} {w : World} {outer : List Env} {H : Hp} {s : Shared} {e : Value} {s' : Shared} (h : L2.CX P w outer H s (fun _ _ _ => False) e s') : False := by
  unfold L2.CX at h
  simp only [and_false, exists_false] at h
theorem law_callD (KX : K.In s₁.heap) (hns : s₁.heap.Ns mainGlobals mg) (hb : s₁.heap.Ns builtinsNs mb) (hbb : ∀ x : Str, x ≠ "__name__" → mb x = bootBuiltins x) (hlim : s₁.heap.NoLimit) (hg : s₁.gens = #[])
    (hT : ∀ p ∈ cs, s₁.heap.get? p.2 = some { cls := .none, data := .fields #[] }) (nT : ∀ p ∈ cs, K.lookup p.2 = none) (C : ∀ p ∈ cs, PySem.W.CodeHd s₁.heap p.1 p.2) (nA : K.lookup a = none)
    (hbm : ∃ (bm : Addr) (ob : Obj), mg "__builtins__" = some (.ref bm) ∧ bm ≠ builtinsNs ∧ s₁.heap.get? bm = some ob ∧ ob.cls = .type "module" ∧ ob.dict = some builtinsNs ∧ ob.data = .plain)
    (ha : s₁.heap.get? a = some { cls := .type "list", data := .seq vs.toArray }) (hi : IntsAre vs ns) (hl : ns.length ≤ sizeLine) (hr : Room k callerA) (hgd : callerA.guards = some [])
    (F : ∀ base : Heap, K.In base → base.Ns mainGlobals mg → (∀ p ∈ cs, LamX.TabB base mg p.1 p.2) → FnD P w K mg base tabs k fa fd [x] mf) (hbind : ∀ (s : Shared) (u : Value), BindsTo s fd ⟨[u], []⟩ [(x, u)]) (ht : ∀ p ∈ tabs, p.1 ∈ cs.map (·.2))
    (hmf : mf [.rl (ns.map D.int)] [] = .ok (.bl true) []) :
    codeAny (model P w) callerA (.call (.ref fa) ⟨[.ref a], []⟩) (fun r s' => r = .ok (.ret (.bool true)) ∧ OldK s₁.heap s'.heap ∧ s'.os = s₁.os ∧ AllBare s'.gens) s₁ := by
  have isT : ∀ b : Addr, b ∈ cs.map (·.2) → s₁.heap.get? b = some { cls := .none, data := .fields #[] } := fun b hb => by
    obtain ⟨p, hp, e⟩ := List.mem_map.mp hb
    exact e ▸ hT p hp
  have aT : a ∉ cs.map (·.2) := fun z => by
    have q := isT a z
    rw [ha] at q
    cases q
  obtain ⟨H, eH⟩ : ∃ H, H = lawH a { cls := .type "list", data := .seq vs.toArray } (ns.map V.int) (cs.map (·.2)) := ⟨_, rfl⟩
  have Ha : H a = some (.frz { cls := .type "list", data := .seq vs.toArray } (.lst (ns.map V.int))) := by rw [eH]; exact if_pos rfl
  have Ht : ∀ b ∈ cs.map (·.2), H b = some (.tbl #[]) := fun b hb => by
    rw [eH]
    exact (if_neg (fun z => aT (by rw [← z]; exact hb))).trans (if_pos hb)
  have Hn : ∀ b, b ≠ a → b ∉ cs.map (·.2) → H b = none := fun b h1 h2 => by
    rw [eH]
    exact (if_neg h1).trans (if_neg h2)
  have hid : ∀ {b : Addr} {o : Obj}, s₁.heap.get? b = some o → (∀ us n, o.data ≠ .seq us n) → o.data ≠ .fields #[] → H b = none := fun {b o} e h1 h2 => by
    refine Hn b (fun z => ?_) fun z => ?_
    · rw [z, ha] at e; cases e; exact h1 _ _ rfl
    · rw [isT b z] at e; cases e; exact h2 rfl
  have gt : ∀ {b : Addr} {o : Obj}, s₁.heap.get? b = some o → H b = none → (L2.hidT s₁.heap H).get? b = some o := fun e n => L2.hidT_get e n
  have nsK : ∀ {b : Addr} {m : Str → Option Value}, s₁.heap.Ns b m → (L2.hidT s₁.heap H).Ns b m := fun {b m} ⟨o, es, ep, e, d, r⟩ => ⟨o, es, ep, gt e (hid e (fun us n z => by rw [d] at z; cases z) fun z => by rw [d] at z; cases z), d, r⟩
  have KB : K.In (L2.hidT s₁.heap H) := fun b o e => gt (KX b o e) (Hn b (fun z => by rw [z, nA] at e; cases e) fun z => by
    obtain ⟨p, hp, ep⟩ := List.mem_map.mp z
    rw [← ep, nT p hp] at e
    cases e)
  have hM : L2.Mod K mg (L2.hidT s₁.heap H) := ⟨KB, nsK hns, ⟨mb, nsK hb, hbb⟩, let ⟨mc, h1, h2⟩ := hlim; ⟨mc, nsK h1, h2⟩⟩
  have TB : ∀ p ∈ cs, LamX.TabB (L2.hidT s₁.heap H) mg p.1 p.2 := fun p hp => by
    refine ⟨?_, ?_, fun z => ?_⟩
    · obtain ⟨o, us, file, tf, flags, tg, inF, text, tt, e1, r1, r2, r3, rest⟩ := C p hp
      exact ⟨o, us, file, tf, flags, tg, inF, text, tt, gt e1 (hid e1 (fun us' n z => by rw [r2] at z; cases z) fun z => by rw [r2] at z; cases z; simp at r3), r1, r2, r3, rest⟩
    · obtain ⟨bm, ob, b1, b2, b3, b4, b5, b6⟩ := hbm
      refine ⟨bm, ob, b1, b2, fun q => ?_, fun q => ?_, gt b3 (hid b3 (fun us n z => by rw [b6] at z; cases z) fun z => by rw [b6] at z; cases z), b4, b5, b6⟩
      · obtain ⟨o, es, ep, e, hd, _⟩ := hns
        rw [q, e] at b3; cases b3; rw [hd] at b6; cases b6
      · rw [q, hT p hp] at b3; cases b3; cases b6
    · obtain ⟨o, es, ep, e, hd, _⟩ := hns
      rw [z, hT p hp] at e; cases e; cases hd
  have hok : HOk P w H s₁.heap := fun b u z => by
    by_cases h1 : b = a
    · subst h1
      rw [Ha] at z; cases z
      exact ⟨ha, by rw [List.length_map]; exact hl, vs, _, vals_ints hi, ha⟩
    · by_cases h2 : b ∈ cs.map (·.2)
      · rw [Ht b h2] at z; cases z
        exact isT b h2
      · rw [Hn b h1 h2] at z; cases z
  have e0 : Env0 P w K mg (L2.hidT s₁.heap H) callerA [] s₁ H := ⟨rfl, hM, fun b o e => L2.of_hidT e, Nat.le_of_eq (L2.hidT_size _ _), trivial, fun b hb => absurd (show b ∈ ([] : List Addr) from hb) (by simp), hok, .of_eq hg⟩
  have okW : Ok K ⟨tabs, [], []⟩ H ⟨[], []⟩ [] := ⟨rfl, .nil, fun n b c h1 => by simp at h1, fun p hp => NdefX.TabN.nil (Ht _ (ht p hp)), fun b hb => by simp at hb, ⟨fun p hp => by simp at hp, fun q hq => by simp at hq⟩⟩
  have intR : ∀ zs : List Int, RL K H ⟨[], []⟩ (zs.map D.int) (zs.map V.int) := fun zs => by
    induction zs with
    | nil => rfl
    | cons z zs ih => exact ⟨.int z, _, rfl, rfl, ih⟩
  have rd : RL K H ⟨[], []⟩ [.rl (ns.map D.int)] [.ref a] := ⟨.ref a, [], rfl, ⟨a, _, _, rfl, Ha, fun z => by rcases z with z | z <;> simp at z, intR ns⟩, rfl⟩
  refine codeAny_mono ((F _ KB (nsK hns) TB).run ⟨tabs, [], []⟩ callerA [] s₁ H ⟨[.ref a], []⟩ [.ref a] [.ref a] [.rl (ns.map D.int)] ⟨[], []⟩ [] (fun v _ => v = .bl true) (fun _ _ _ => False) rfl hr hgd e0 (hbind s₁ (.ref a)) (.cons rfl .nil) okW rd ?_) fun r s' h => ?_
  · rw [hmf]
    exact fun b H' ρ' _ _ e => e
  cases r with
  | error e =>
    exact (cx_false h).elim
  | ok fl =>
    cases fl with
    | next => exact False.elim h
    | brk => exact False.elim h
    | cont => exact False.elim h
    | ret u =>
      obtain ⟨v, H', os, bare, un, hok', r', rfl⟩ := h
      obtain rfl : u = Value.bool true := r'
      have key : ∀ b o, b ∉ cs.map (·.2) → s₁.heap.get? b = some o → s'.heap.get? b = some o := fun b o nb e => by
        by_cases h1 : b = a
        · subst h1
          obtain ⟨e2, _⟩ := hok' b _ (un.frzs b _ _ Ha)
          rw [ha] at e; cases e
          exact e2
        · exact un.keep b o e (Hn b h1 nb) (by intro z; exact absurd (show b ∈ ([] : List Addr) from z) (by simp)) (by simp)
      refine ⟨rfl, ⟨fun b o e => ?_, fun b o e => ?_⟩, os, bare⟩
      · by_cases hb : b ∈ cs.map (·.2)
        · obtain ⟨p, hp, ep⟩ := List.mem_map.mp hb
          obtain ⟨more, z⟩ := un.tbls b #[] (Ht b hb)
          have hm := hok' b _ z
          rw [isT b hb] at e; cases e
          refine .inr (.inl ⟨?_, rfl, #[], _, rfl, hm⟩)
          rw [← ep]
          exact ((C p hp).tab (hT p hp)).isCodeTable
        · exact .inl (key b o hb e)
      · by_cases hb : b ∈ cs.map (·.2)
        · obtain ⟨more, z⟩ := un.tbls b #[] (Ht b hb)
          exact ⟨_, hok' b _ z⟩
        · exact ⟨o, key b o hb e⟩
end
/-- the law by its def's mirror -/
theorem walk_ofD {l : PySem.W.OpenLaw} {n nn k : Nat} {q : Program} {loose : List Str} {XP : (Str → Option Value) → Heap → Prop} {d : DefRec} {fa : List (PySem.W.Frag → Bool)} {fn : List He.DefD} {cs : List Nm2} {x : Str}
    (hn : l.most = some n) (hn2 : n ≤ sizeLine) (hdf : d.params.defaults = []) (hr : Room k callerA) (hgd : callerA.guards = some [])
    (F : ∀ (w : World) (mg : Str → Option Value) (fad : Addr) (h : Heap) (K : PySem.W.Frag), Says fa fn cs h K → h.Ns mainGlobals mg → mg d.name = some (.ref fad) →
      ∃ (fd : FuncData) (mf : List D → Store → Res D) (tabs : List NdefX.NTab), (∀ (s : Shared) (u : Value), BindsTo s fd ⟨[u], []⟩ [(x, u)]) ∧ (∀ p ∈ tabs, ∃ y ∈ cs, p.1 = tabP K (He.fAd K y)) ∧
        (∀ ns : List Int, ns.length ≤ n → (∀ z ∈ ns, Builtin.Int.intBits z ≤ 1048576) → mf [.rl (ns.map D.int)] [] = .ok (.bl true) []) ∧
        ∀ base : Heap, K.In base → base.Ns mainGlobals mg → (∀ y ∈ cs, LamX.TabB base mg (codeA K (He.fAd K y)) (tabP K (He.fAd K y))) → FnD l.prog w K mg base tabs k fad fd [x] mf) :
    PySem.W.WalkO q loose XP (hookT nn fa fn cs).says l.row.toRowW d [] (fun f vs => PySem.call f vs) := by
  refine Att.attach_callB hn hdf fun w s₀ s₁ mg mb fad o pm cd doc a vs ns G Y ho hd hcd hmg hobj hints hlen hbits hg => ?_
  obtain ⟨K, S⟩ := Y
  obtain ⟨fd, mf, tabs, hb, ht, hm, hF⟩ := F w mg fad _ K S G.T.g hmg
  have nA : K.lookup a = none := by
    cases e : K.lookup a with
    | none => rfl
    | some o' =>
      have e1 := S.kin _ _ e
      have e2 := S.nolst _ _ e
      rw [hobj] at e1
      cases e1
      cases e2
  have mem : ∀ {p : Addr × Addr}, p ∈ cs.map (fun y => (codeA K (He.fAd K y), tabP K (He.fAd K y))) → ∃ y ∈ cs, p = (codeA K (He.fAd K y), tabP K (He.fAd K y)) := fun {p} hp => by
    obtain ⟨y, hy, e⟩ := List.mem_map.mp hp
    exact ⟨y, hy, e.symm⟩
  refine law_callD (cs := cs.map fun y => (codeA K (He.fAd K y), tabP K (He.fAd K y))) S.kin G.T.g G.T.b G.T.builtins G.T.nolimit hg (fun p hp => ?_) (fun p hp => ?_) (fun p hp => ?_) nA G.T.bmain hobj hints (Nat.le_trans hlen hn2) hr hgd
    (fun base k1 k2 k3 => hF base k1 k2 fun y hy => k3 _ (List.mem_map.mpr ⟨y, hy, rfl⟩)) hb (fun p hp => ?_) (hm ns hlen hbits)
  · obtain ⟨y, hy, rfl⟩ := mem hp
    exact (S.tab y hy).1
  · obtain ⟨y, hy, rfl⟩ := mem hp
    exact (S.tab y hy).2.1
  · obtain ⟨y, hy, rfl⟩ := mem hp
    exact hdB_ok S.kin (S.tab y hy).2.2.1
  · obtain ⟨y, hy, e⟩ := ht p hp
    rw [e]
    exact List.mem_map.mpr ⟨_, List.mem_map.mpr ⟨y, hy, rfl⟩, rfl⟩
end L3

/-! ### text Lq -/
namespace L3
open PySem PySem.Spec PyProof.Rows L2

/-! ### facts by names -/
def fdOf (K : PySem.W.Frag) (f : Addr) : FuncData := match K.lookup f with
  | some ⟨_, _, .func fd, _⟩ => fd
  | _ => PySem.W.fnOf "" "" ⟨[], [], none, [], [], none, []⟩ [] ⟨.function, [], false, false, []⟩ .none .none .none .none none .none .none
theorem fun_fd {K : PySem.W.Frag} {x q : Str} {stm : Stmt} {f : Addr} {fd : FuncData} (F : Fun K x q stm f fd) : Fun K x q stm f (fdOf K f) := by
  obtain ⟨oc, od, kV, doc, pm, an, cdv, ct, osl, e1, e2, e3⟩ := F.ex
  have e : fdOf K f = fd := by unfold fdOf; rw [e2]
  rw [e]
  exact F
/-- a def of the module, by its name -/
structure FunA (K : PySem.W.Frag) (mg : Str → Option Value) (x : Str) (stm : Stmt) : Prop where
  f : Fun K x x stm (He.ga K x) (fdOf K (He.ga K x))
  m : mg x = some (.ref (He.ga K x))
theorem BindD.of {K : PySem.W.Frag} {x q : Str} {st : Stmt} {f : Addr} {fd : FuncData} {ps ks : List Str} {nu : Nat} {is : List Nat} (F : Fun K x q st f fd)
    (h : ∀ (kV doc pm : Value) (an : Option Addr) (cdv ct : Value) (us ws : List Value), us.length = nu → ws.length = ks.length → bindArgs (PySem.W.fnOf x q (defArgs st) (defBody st) (defScope st) .none kV doc pm an cdv ct) ⟨us, ks.zip ws⟩ = pure (ps.zip (perm is (us ++ ws)))) : BindD K fd ps ks nu is := by
  obtain ⟨oc, od, kV, doc, pm, an, cdv, ct, osl, rfl, lk, hcd⟩ := F.ex
  exact ⟨fun s us ws _ h1 h2 => .of_eq (h kV doc pm an cdv ct us ws h1 h2)⟩
section
variable {X : Cx} {T : Tb} {W : WX} {x : Str} {pos : Pos}
theorem de_gint {i : Int} (h : ∃ t, X.mg x = some (.int i t)) (hg : Gl X x := by rfl) (hd : (x == ("__debug__" : Str)) = false := by decide) : DE X T W (.Name x pos) (eC (.int i)) := by
  obtain ⟨t, h⟩ := h
  exact de_glob (v := .int i) hg h ⟨t, rfl⟩ (fun _ _ => rfl) hd
theorem de_gstr {i : Str} (h : ∃ t, X.mg x = some (.str i t)) (hg : Gl X x := by rfl) (hd : (x == ("__debug__" : Str)) = false := by decide) : DE X T W (.Name x pos) (eC (.str i)) := by
  obtain ⟨t, h⟩ := h
  exact de_glob (v := .str i) hg h ⟨t, rfl⟩ (fun _ _ => rfl) hd
theorem de_gref {a : Addr} (h : X.mg x = some (.ref a)) (hg : Gl X x := by rfl) (hd : (x == ("__debug__" : Str)) = false := by decide) : DE X T W (.Name x pos) (eC (.ref a)) :=
  de_glob (v := .ref a) hg h rfl (fun _ _ => rfl) hd
end
def dvD (K : PySem.W.Frag) : He.Dv → D
  | .non => .non
  | .bl b => .bl b
  | .int i => .int i
  | .str x => .str x
  | .ty n => .ty n
  | .glo x => .ref (He.ga K x)
  | .adr p => .ref (p K)
  | _ => .non
def dvPlain : He.Dv → Bool
  | .byt _ => false
  | .flt _ => false
  | _ => true
theorem dv_R {K : PySem.W.Frag} {H : Hp} {ρ : Wo} : ∀ (vs : List He.Dv), vs.all dvPlain = true → RL K H ρ (vs.map (dvD K)) (vs.map (He.Dv.v K))
  | [], _ => rfl
  | d :: vs, h => by
    simp only [List.all_cons, Bool.and_eq_true] at h
    refine ⟨d.v K, _, rfl, ?_, dv_R vs h.2⟩
    cases d with
    | byt b => exact absurd (show false = true from h.1) (by decide)
    | flt b => exact absurd (show false = true from h.1) (by decide)
    | _ => rfl
/-- a flat tuple of the module -/
structure TupA (K : PySem.W.Frag) (mg : Str → Option Value) (x : Str) (vs : List He.Dv) : Prop where
  m : mg x = some (.ref (He.ga K x))
  s : SqT K (fun _ => none) (He.ga K x) (vs.map (He.Dv.v K))
theorem de_gtup {X : Cx} {T : Tb} {W : WX} {x : Str} {pos : Pos} {vs : List He.Dv} (h : TupA X.K X.mg x vs) (hp : vs.all dvPlain = true := by rfl) (hg : Gl X x := by rfl) (hd : (x == ("__debug__" : Str)) = false := by decide) : DE X T W (.Name x pos) (eC (.tup (vs.map (dvD X.K)))) :=
  de_glob (v := .ref (He.ga X.K x)) hg h.m rfl (fun H ρ => ⟨_, _, rfl, .inr h.s, dv_R vs hp⟩) hd
/-! ### the looks -/
def intB (x : Str) (i : Int) (K : PySem.W.Frag) : Bool := (He.Fa.int x i).ok K
def strB (x z : Str) (K : PySem.W.Frag) : Bool := (He.Fa.str x z).ok K
def gloB (x : Str) (K : PySem.W.Frag) : Bool := (He.Fa.glo x).ok K
def freeB (x : Str) (K : PySem.W.Frag) : Bool := (He.Fa.free x).ok K
def tupAB (x : Str) (vs : List He.Dv) (K : PySem.W.Frag) : Bool := gloB x K && He.tupB K x vs
/-- an own exception class of one field -/
def oexB (K : PySem.W.Frag) (C : Addr) : Bool := (match K.lookup C with
  | some ⟨.type t, _, .cls cd, sl⟩ => decide (t = "type") && (cd.hasDict && (!cd.hasDel && ((match cd.mro with
    | .ref C' :: bm => decide (C' = C) && HandSPX.refsVE bm
    | _ => false) && (match sl.toList with
    | [_, _, _, _, some (.builtin n), _] => decide (n = "ValueError.__new__")
    | _ => false))))
  | _ => false) && (decide (PySem.W.findIn K (.ref C) "__setattr__" = some (some (.builtin "object.__setattr__"))) && (decide (PySem.W.subIn K (.ref C) (.type "BaseException") = some true) && (decide (PySem.W.typeIn K (.ref C) = some (.type "type")) && PySem.W.keepIn K (.ref C))))
theorem oexB_ok {K : PySem.W.Frag} {C : Addr} (h : oexB K C = true) : OexC K C := by
  unfold oexB at h
  simp only [Bool.and_eq_true, decide_eq_true_eq] at h
  obtain ⟨h0, h1, h2, h3, h4⟩ := h
  refine ⟨?_, h1, h2, h3, h4⟩
  split at h0
  · rename_i t dd cd sl q
    simp only [Bool.and_eq_true, decide_eq_true_eq, Bool.not_eq_true'] at h0
    obtain ⟨a1, a2, a3, a4, a5⟩ := h0
    subst a1
    split at a4
    · rename_i C' bm e1
      simp only [Bool.and_eq_true, decide_eq_true_eq] at a4
      obtain ⟨rfl, a4⟩ := a4
      split at a5
      · rename_i k0 k1 k2 k3 n k5 e2
        have e3 := of_decide_eq_true a5
        subst e3
        obtain ⟨n1, n2, n3, n4, n5, n6, n7, n8, n9, n10, n11⟩ := cd
        simp only at a2 a3 e1
        subst a2 a3 e1
        refine ⟨n1, n5, n4, n2, bm, n7, n8, n9, n10, dd, k0, k1, k2, k3, k5, ?_, a4⟩
        rw [q]
        have e4 : sl = #[k0, k1, k2, k3, some (.builtin "ValueError.__new__"), k5] := by
          apply Array.toList_inj.mp
          rw [e2]
        rw [e4]
      · cases a5
    · cases a4
  · cases h0
def excB (x fld : Str) (K : PySem.W.Frag) : Bool := gloB x K && (oexB K (He.ga K x) && (decide (PySem.W.findIn K (.ref (He.ga K x)) "__init__" = some (some (.ref (He.ma K (He.ga K x) "__init__")))) && (decide (PySem.W.typeIn K (.ref (He.ma K (He.ga K x) "__init__")) = some (.type "function")) && (decide (PySem.W.findIn K (.ref (He.ga K x)) fld = some none) && xfB K (He.ga K x)))))
/-- what is known of an own exception class -/
structure ExA (P : Program) (w : World) (K : PySem.W.Frag) (mg : Str → Option Value) (base : Heap) (x fld : Str) : Prop where
  m : mg x = some (.ref (He.ga K x))
  e : ExD P w K mg base x (He.ga K x) fld
  xf : XfC K (He.ga K x)
  no : PySem.W.findIn K (.ref (He.ga K x)) fld = some none
theorem ExA.of {P : Program} {w : World} {K : PySem.W.Frag} {mg : Str → Option Value} {base h : Heap} {x fld q : Str} {stm : Stmt} {fd : FuncData} {fld2 : Str} {p1 p2 p3 p4 : Pos} (X : K.In h) (G : h.Ns mainGlobals mg) (c : excB x fld K = true) (F : Fun K "__init__" q stm (He.ma K (He.ga K x) "__init__") fd)
    (S : FnScope ["self", fld2] ["self", fld2] (defScope stm)) (hb : defBody stm = [.Assign [.Attribute (.Name "self" p1) fld p2] (.Name fld2 p3) p4]) (hd : (fld2 == ("__debug__" : Str)) = false) (hc : (fld2 == ("__classdict__" : Str)) = false)
    (hbind : ∀ (kV doc pm : Value) (an : Option Addr) (cdv ct : Value) (us : List Value), us.length = 2 → bindArgs (PySem.W.fnOf "__init__" q (defArgs stm) (defBody stm) (defScope stm) .none kV doc pm an cdv ct) ⟨us, []⟩ = pure ((["self", fld2] : List Str).zip us)) : ExA P w K mg base x fld := by
  unfold excB at c
  simp only [Bool.and_eq_true, decide_eq_true_eq] at c
  obtain ⟨c1, c2, c3, c4, c5, c6⟩ := c
  have m := He.glo_ok X G c1
  exact ⟨m, ⟨_, _, _, oexB_ok c2, c3, c4, exInit F S hb hd hc, F.binds hbind, m, c5⟩, xfB_ok c6, c5⟩
def exmB (x y : Str) (b : Bool) (K : PySem.W.Frag) : Bool := decide (PySem.W.exmOne K (.ref (He.ga K x)) (.ref (He.ga K y)) = some b)
end L3

/-! ### text Lr -/
namespace L3
open PySem PySem.Spec PyProof.Rows L2

theorem huOf {k : Nat} {A : Around} (h : Room k A) : A.units + 64 < cLine := by
  have := h.un
  omega
def freeC (sc nsc : Scope) : Bool := nsc.names.all fun y => !decide (y.2 = .free) || decide (sc.names.lookup y.1 = some .cell) || decide (sc.names.lookup y.1 = some .free)
theorem free_by {sc nsc : Scope} (h : freeC sc nsc = true) : ∀ y ∈ nsc.names, y.2 = .free → sc.names.lookup y.1 = some .cell ∨ sc.names.lookup y.1 = some .free := by
  unfold freeC at h
  simp only [Bool.or_eq_true, Bool.not_eq_true', decide_eq_true_eq, decide_eq_false_iff_not, List.all_eq_true] at h
  intro y hy e
  rcases h y hy with (z | z) | z
  · exact absurd e z
  · exact .inl z
  · exact .inr z
theorem tupA_of {K : PySem.W.Frag} {h : Heap} {mg : Str → Option Value} {x : Str} {vs : List He.Dv} (X : K.In h) (G : h.Ns mainGlobals mg) (c : tupAB x vs K = true) : TupA K mg x vs := by
  unfold tupAB at c
  rw [Bool.and_eq_true] at c
  exact ⟨He.glo_ok X G c.1, He.tupB_ok c.2 _⟩
theorem funA_of {fa : List (PySem.W.Frag → Bool)} {fn : List He.DefD} {cs : List Nm2} {h : Heap} {K : PySem.W.Frag} {mg : Str → Option Value} (S : Says fa fn cs h K) (G : h.Ns mainGlobals mg) {x : Str} {stm : Stmt} (c : gloB x K = true) (i : Nat)
    (e : fn[i]? = some ⟨(x, none), x, x, defArgs stm, defBody stm, defScope stm, [], []⟩) : FunA K mg x stm := by
  obtain ⟨fd, F⟩ := S.def_ i e
  exact ⟨fun_fd F, He.glo_ok S.kin G c⟩
def kitB (a b : String) (v : Bool) (K : PySem.W.Frag) : Bool := decide (PySem.W.kitOne K (.type a) (.type b) = some v)
end L3

/-! ### text Ls -/
namespace L3
open PySem PySem.Spec PyProof.Rows L2

/-! ### zip of three tuples -/
theorem valsB : ∀ {xs : List V} {us : List Value} {i : Nat} {u : Value}, Vals xs us → us[i]? = some u → ∃ x, xs[i]? = some x ∧ RelV x u
  | _, _, _, _, .nil, e => by simp at e
  | _, _, 0, _, .cons r _, e => by simp at e; subst e; exact ⟨_, rfl, r⟩
  | _, _, i + 1, u, .cons _ t, e => by
    obtain ⟨x, h1, h2⟩ := valsB (i := i) t (by simpa using e)
    exact ⟨x, by simpa using h1, h2⟩
def It3T (K : PySem.W.Frag) (a b c : Addr) : It :=
  ⟨fun i H => ∃ xs ys zs, i < min (min xs.length ys.length) zs.length ∧ SqT K H a xs ∧ SqT K H b ys ∧ SqT K H c zs,
    fun i H v H' => ∃ T x y z, v = .ref T ∧ H T = none ∧ H' = upd H T (.tup [x, y, z]) ∧ (∀ xs, SqT K H a xs → xs[i]? = some x) ∧ (∀ xs, SqT K H b xs → xs[i]? = some y) ∧ ∀ xs, SqT K H c xs → xs[i]? = some z,
    fun i H => ∃ xs ys zs, i = min (min xs.length ys.length) zs.length ∧ SqT K H a xs ∧ SqT K H b ys ∧ SqT K H c zs⟩
section
variable {P : Program} {w : World} {K : PySem.W.Frag} {elts : List Expr} {kk : Nat} {tpos : Pos} {a b c : Addr}
theorem turn_zip3 (N : Nat) (ha : a < N) (hb : b < N) (hc : c < N) :
    Turn P w K (.Tuple elts kk tpos) (It3T K a b c) [N + 5, N + 3, N + 4, N, N + 1, N + 2] (N + 5) (fun i h => IsZip h (N + 5) (N + 3) (N + 4) .none ∧ IsTupOf3 h (N + 3) (.ref N) (.ref (N + 1)) (.ref (N + 2)) ∧ (∃ x y z, IsTupOf3 h (N + 4) x y z) ∧ h.IsTupleIter N a i ∧ h.IsTupleIter (N + 1) b i ∧ h.IsTupleIter (N + 2) c i) where
  mem := by simp
  obj := fun i h st d hd => by
    obtain ⟨hz, hTI, ⟨x, y, z, hTO⟩, ⟨o1, e1, _, d1⟩, ⟨o2, e2, _, d2⟩, ⟨o3, e3, _, d3⟩⟩ := st
    simp only [List.mem_cons, List.not_mem_nil, or_false] at hd
    rcases hd with q | q | q | q | q | q
    · rw [q]; exact ⟨_, hz, fun v q => nomatch q⟩
    · rw [q]; exact ⟨_, hTI, fun v q => nomatch q⟩
    · rw [q]; exact ⟨_, hTO, fun v q => nomatch q⟩
    · rw [q]; exact ⟨o1, e1, fun v q => by rw [d1] at q; cases q⟩
    · rw [q]; exact ⟨o2, e2, fun v q => by rw [d2] at q; cases q⟩
    · rw [q]; exact ⟨o3, e3, fun v q => by rw [d3] at q; cases q⟩
  keep := fun i h h' st k => by
    obtain ⟨hz, hTI, ⟨x, y, z, hTO⟩, h1, h2, h3⟩ := st
    exact ⟨k _ (by simp) _ hz, k _ (by simp) _ hTI, ⟨x, y, z, k _ (by simp) _ hTO⟩, h1.at fun o q => k _ (by simp) o q, h2.at fun o q => k _ (by simp) o q, h3.at fun o q => k _ (by simp) o q⟩
  item := by
    intro X hP hw hK hcalm i pins s σ H E I hf st hg
    subst hP hw hK
    obtain ⟨hz, hTI, ⟨x0, y0, z0, hTO⟩, h1, h2, h3⟩ := st
    obtain ⟨xs, ys, zs, hi, sa, sb, sc⟩ := hg
    obtain ⟨ia, ra, pa, _⟩ := I.tuple sa
    obtain ⟨ib, rb, pb, _⟩ := I.tuple sb
    obtain ⟨ic, rc, pc, _⟩ := I.tuple sc
    have la := ra.length
    have lb := rb.length
    have lc := rc.length
    have hh : X.A.in1.handled = none := I.ok.hd hcalm
    have sep := zip_sep3 (N := N) (fp1 := [a]) (fp2 := [b]) (fp3 := [c]) (by simpa using ha) (by simpa using hb) (by simpa using hc)
    have G := PySem.GoesN.zip3 (elts := elts) (x1 := kk) (pos := tpos) sep (Draws.tuple (prog := X.prog) (w := X.w) (A := X.A.in1) hh N a (Nat.ne_of_lt ha) ia.toArray) (Draws.tuple hh (N + 1) b (Nat.ne_of_lt (Nat.lt_succ_of_lt hb)) ib.toArray) (Draws.tuple hh (N + 2) c (Nat.ne_of_lt (Nat.lt_succ_of_lt (Nat.lt_succ_of_lt hc))) ic.toArray)
    refine wpAny_mono (G.goes i s (fun v s2 => ∃ x H', Inv X pins σ H' s2 ∧ RelV x v ∧ (It3T X.K a b c).yld i H x H' ∧ (IsZip s2.heap (N + 5) (N + 3) (N + 4) .none ∧ IsTupOf3 s2.heap (N + 3) (.ref N) (.ref (N + 1)) (.ref (N + 2)) ∧ (∃ x y z, IsTupOf3 s2.heap (N + 4) x y z) ∧ s2.heap.IsTupleIter N a (i + 1) ∧ s2.heap.IsTupleIter (N + 1) b (i + 1) ∧ s2.heap.IsTupleIter (N + 2) c (i + 1)) ∧ ∀ d ∈ [N + 5, N + 3, N + 4, N, N + 1, N + 2], H' d = none) E
      (by simp only [List.size_toArray]; omega) ⟨hz, hTI, ⟨x0, y0, z0, hTO⟩, ⟨h1, isTuple_of pa⟩, ⟨h2, isTuple_of pb⟩, ⟨h3, isTuple_of pc⟩⟩ fun v h' tk hY st' hk _ => ?_) (fun r s1 ⟨v, e, h⟩ => ⟨v, e, h⟩) (fun _ _ e => e)
    obtain ⟨T, u1, u2, u3, rfl, hT, e1, e2, e3, hTup⟩ := hY
    obtain ⟨z', hTI', ⟨x1, y1, zz1, hTO'⟩, ⟨i1', _⟩, ⟨i2', _⟩, ⟨i3', _⟩⟩ := st'
    obtain ⟨v1, q1, r1⟩ := valsB ra (by simpa using e1)
    obtain ⟨v2, q2, r2⟩ := valsB rb (by simpa using e2)
    obtain ⟨v3, q3, r3⟩ := valsB rc (by simpa using e3)
    have hTn : H T = none := I.hok.fresh hT
    have new : ObjOk X.prog X.w (upd H T (.tup [v1, v2, v3])) h' T (.tup [v1, v2, v3]) := by
      obtain ⟨o, ho, hcl, n, hd⟩ := hTup
      exact ⟨by show 3 ≤ sizeLine; decide, [u1, u2, u3], .cons r1 (.cons r2 (.cons r3 .nil)), o, ho, hcl, n, hd⟩
    have I1 : Inv X pins σ (upd H T (.tup [v1, v2, v3])) { s with heap := h', toks := tk } :=
      I.turnedNew (ch := [N + 5, N + 3, N + 4, N, N + 1, N + 2]) (fun d o hb q => hk d o (fun z => hb (by simp only [List.mem_cons, List.not_mem_nil, or_false] at z ⊢; rcases z with z | z | z | z | z <;> simp [z])) q) hf hT new
    refine ⟨.ref T, _, I1, rfl, ⟨T, v1, v2, v3, rfl, hTn, rfl, fun l hl => by rw [I.tuple_inj hl sa]; exact q1, fun l hl => by rw [I.tuple_inj hl sb]; exact q2, fun l hl => by rw [I.tuple_inj hl sc]; exact q3⟩, ⟨z', hTI', ⟨x1, y1, zz1, hTO'⟩, i1', i2', i3'⟩, fun d hd => ?_⟩
    have hlt : d < s.heap.objs.size := by
      simp only [List.mem_cons, List.not_mem_nil, or_false] at hd
      have : d ≤ N + 5 := by omega
      exact Nat.lt_of_le_of_lt this (Heap.lt_size hz)
    rw [upd_ne (Nat.ne_of_lt (Nat.lt_of_lt_of_le hlt hT))]
    exact (hf d hd).1
  done := by
    intro X hP hw hK hcalm i pins s σ H E I hf st hg
    subst hP hw hK
    obtain ⟨hz, hTI, ⟨x0, y0, z0, hTO⟩, h1, h2, h3⟩ := st
    obtain ⟨xs, ys, zs, hi, sa, sb, sc⟩ := hg
    obtain ⟨ia, ra, pa, _⟩ := I.tuple sa
    obtain ⟨ib, rb, pb, _⟩ := I.tuple sb
    obtain ⟨ic, rc, pc, _⟩ := I.tuple sc
    have la := ra.length
    have lb := rb.length
    have lc := rc.length
    have hh : X.A.in1.handled = none := I.ok.hd hcalm
    have sep := zip_sep3 (N := N) (fp1 := [a]) (fp2 := [b]) (fp3 := [c]) (by simpa using ha) (by simpa using hb) (by simpa using hc)
    have G := PySem.GoesN.zip3 (elts := elts) (x1 := kk) (pos := tpos) sep (Draws.tuple (prog := X.prog) (w := X.w) (A := X.A.in1) hh N a (Nat.ne_of_lt ha) ia.toArray) (Draws.tuple hh (N + 1) b (Nat.ne_of_lt (Nat.lt_succ_of_lt hb)) ib.toArray) (Draws.tuple hh (N + 2) c (Nat.ne_of_lt (Nat.lt_succ_of_lt (Nat.lt_succ_of_lt hc))) ic.toArray)
    have hn : i = min (min ia.toArray.size ib.toArray.size) ic.toArray.size := by simp only [List.size_toArray]; omega
    subst hn
    exact wpAny_mono (G.stops s (fun s1 => Inv X pins σ H s1) E ⟨hz, hTI, ⟨x0, y0, z0, hTO⟩, ⟨h1, isTuple_of pa⟩, ⟨h2, isTuple_of pb⟩, ⟨h3, isTuple_of pc⟩⟩ fun h' tk hk _ =>
      I.turnedL (ch := [N + 5, N + 3, N + 4, N, N + 1, N + 2]) (fun d o hb q => hk d o (fun z => hb (by simp only [List.mem_cons, List.not_mem_nil, or_false] at z ⊢; rcases z with z | z | z | z | z <;> simp [z])) q) hf) (fun r s1 h => h) (fun _ _ e => e)
  self := fun A i s Q E st h => wpAny_pyIter_zip st.1 h
theorem walk_zip3 {n : Nat} : Walk (It3T K a b c) n (fun H => ∃ xs ys zs, n = min (min xs.length ys.length) zs.length ∧ SqT K H a xs ∧ SqT K H b ys ∧ SqT K H c zs) (fun i H v H' => ∃ T x y z, v = .ref T ∧ H T = none ∧ H' = upd H T (.tup [x, y, z]) ∧ (∀ xs, SqT K H a xs → xs[i]? = some x) ∧ (∀ xs, SqT K H b xs → xs[i]? = some y) ∧ ∀ xs, SqT K H c xs → xs[i]? = some z) :=
  ⟨fun i H hi ⟨xs, ys, zs, h, r⟩ => ⟨xs, ys, zs, by omega, r⟩, fun H h => h, fun i H x H' _ _ y => y⟩
def z3 (a b c : List D) : List D := (List.zip a (List.zip b c)).map fun p => .tup [p.1, p.2.1, p.2.2]
theorem z3_len (a b c : List D) : (z3 a b c).length = min (min a.length b.length) c.length := by
  simp only [z3, List.length_map, List.length_zip]
  omega
theorem z3_get {a b c : List D} {i : Nat} {d : D} (h : (z3 a b c)[i]? = some d) : ∃ x y z, a[i]? = some x ∧ b[i]? = some y ∧ c[i]? = some z ∧ d = .tup [x, y, z] := by
  unfold z3 at h
  rw [List.getElem?_map] at h
  cases q : (List.zip a (List.zip b c))[i]? with
  | none => rw [q] at h; cases h
  | some p =>
    rw [q] at h
    cases h
    obtain ⟨h1, h2⟩ := List.getElem?_zip_eq_some.mp q
    obtain ⟨h3, h4⟩ := List.getElem?_zip_eq_some.mp h2
    exact ⟨_, _, _, h1, h3, h4, rfl⟩
end
theorem wk_zip3 {K : PySem.W.Frag} {T : Tb} {H : Hp} {ρ : Wo} {a b c : Addr} {da db dc : List D} (ha : R K H ρ (.tup da) (.ref a)) (hb : R K H ρ (.tup db) (.ref b)) (hc : R K H ρ (.tup dc) (.ref c)) : WkR K T H ρ ⟨z3 da db dc, fun st => True⟩ (It3T K a b c) := by
  refine ⟨[.tup da, .tup db, .tup dc], [.ref a, .ref b, .ref c], _, _, ⟨_, _, rfl, ha, _, _, rfl, hb, _, _, rfl, hc, rfl⟩, walk_zip3, fun H1 ρ1 st1 o r0 k => ?_, fun i x H1 ρ1 st1 v H2 o r0 k hi hy => ?_⟩
  all_goals
    obtain ⟨_, _, e0, h, _, _, e00, h', _, _, e000, h'', _⟩ := r0
    cases e000
    cases e00
    cases e0
    obtain ⟨a', xs, e1, s, r⟩ := tupAt h
    cases ref_inj e1
    obtain ⟨b', ys, e2, s2, r2⟩ := tupAt h'
    cases ref_inj e2
    obtain ⟨c', zs, e3, s3, r3⟩ := tupAt h''
    cases ref_inj e3
  · exact ⟨xs, ys, zs, by rw [r.len, r2.len, r3.len]; exact z3_len _ _ _, s, s2, s3⟩
  · obtain ⟨p, y, z, u, rfl, hp, rfl, hy, hz, hu⟩ := hy
    obtain ⟨d1, d2, d3, f1, f2, f3, rfl⟩ := z3_get hi
    obtain ⟨v1, q1, t1⟩ := r.get f1
    obtain ⟨v2, q2, t2⟩ := r2.get f2
    obtain ⟨v3, q3, t3⟩ := r3.get f3
    rw [hy xs s] at q1; cases q1
    rw [hz ys s2] at q2; cases q2
    rw [hu zs s3] at q3; cases q3
    exact ⟨go_new hp, o.alloc hp, p, _, rfl, .inl ⟨.inl upd_same, o.new hp⟩, _, _, rfl, R.go (go_new hp) _ _ t1, _, _, rfl, R.go (go_new hp) _ _ t2, _, _, rfl, R.go (go_new hp) _ _ t3, rfl⟩
def iZip3 (m : AM) : IM := fun δ st => (m δ st).bind fun xs st1 => match xs with
  | [.tup a, .tup b, .tup c] => .ok ⟨z3 a b c, fun _ => True⟩ st1
  | _ => .bad
theorem di_zip3 {X : Cx} {T : Tb} {W : WX} {e e2 e3 : Expr} {mas : AM} {p1 pos tpos : Pos} {elts : List Expr} {kk : Nat} (hg : Gl X "zip") (hm : X.mg "zip" = none) (h : DA X T W [e, e2, e3] mas)
    (hs : starEach (e :: [e2, e3]) X.env = (false, eval e X.env) :: starEach [e2, e3] X.env := by rfl) (hpl : (backTo pos (starEach [e2, e3] X.env)).any (·.1) = false := by rfl) :
    DI X T W (.Tuple elts kk tpos) (.Call (.Name "zip" p1) [e, e2, e3] [] pos) (iZip3 mas) := by
  refine ⟨⟨fun pins s σ H Rr I ⟨ρ, δ, st, ok, rs, h0⟩ => ?_⟩⟩
  refine Call_ (ld_blt I hg hm PyProof.Rows.boot_zip (PyProof.Rows.callWith_type1 (thn (h.pa.run pos pins s σ H (fun vs H1 => ∃ ρ1 a b c da db dc, vs = [.ref a, .ref b, .ref c] ∧ R X.K H1 ρ1 (.tup da) (.ref a) ∧ R X.K H1 ρ1 (.tup db) (.ref b) ∧ R X.K H1 ρ1 (.tup dc) (.ref c) ∧ Rr (It3T X.K a b c) H1) I
    ⟨ρ, δ, st, ok, rs, Post.bind h0 fun xs st1 vs H1 ρ1 g1 ok1 rx h1 => ?_⟩) fun us s1 ⟨vs, H1, I1, r1, ρ1, a, b, c, da, db, dc, ex, ra, rb, rc, q⟩ => ?_) hs hpl))
  · split at h1
    · rename_i da db dc
      obtain ⟨v, u, w, rfl, r1, r2, r3⟩ := RL.three rx
      obtain ⟨a, xs, rfl, _⟩ := id r1
      obtain ⟨b, ys, rfl, _⟩ := id r2
      obtain ⟨c, zs, rfl, _⟩ := id r3
      exact ⟨ρ1, a, b, c, da, db, dc, rfl, r1, r2, r3, h1 _ H1 ρ1 (Go.refl _ _) ok1 (wk_zip3 r1 r2 r3)⟩
    · exact h1.elim
  · subst ex
    cases r1 with
    | cons t1 rr =>
      cases rr with
      | cons t2 rr =>
        cases rr with
        | cons t3 rr =>
          cases rr
          cases t1
          cases t2
          cases t3
          obtain ⟨_, xs, e1, sa, _⟩ := tupAt ra
          cases ref_inj e1
          obtain ⟨_, ys, e1, sb, _⟩ := tupAt rb
          cases ref_inj e1
          obtain ⟨_, zs, e1, sc, _⟩ := tupAt rc
          cases ref_inj e1
          obtain ⟨ia, va, pa, _⟩ := I1.tuple sa
          obtain ⟨ib, vb, pb, _⟩ := I1.tuple sb
          obtain ⟨ic, vc, pc, _⟩ := I1.tuple sc
          have ta := isTuple_of pa
          have tb := isTuple_of pb
          have tc := isTuple_of pc
          have lt : ∀ {x : Addr} {its : Array Value}, s1.heap.IsTuple x its → x < s1.heap.objs.size := fun {x its} ⟨o, ho, _⟩ => Heap.lt_size ho
          refine PySem.zip_begins3 (PySem.begins_tuple a ia.toArray) (PySem.begins_tuple b ib.toArray) (PySem.begins_tuple c ic.toArray) ta tb tc fun h' hz hTI hTO h1 h2 h3 hsz hk => wpAny_pyIter_zip hz ?_
          have I2 : Inv X pins σ H1 { s1 with heap := h' } := I1.kept (t' := s1.toks) hk
          refine ⟨_, [s1.heap.objs.size + 5, s1.heap.objs.size + 3, s1.heap.objs.size + 4, s1.heap.objs.size, s1.heap.objs.size + 1, s1.heap.objs.size + 2], _, _, H1, rfl, I2, turn_zip3 s1.heap.objs.size (lt ta) (lt tb) (lt tc), ⟨hz, hTI, ⟨_, _, _, hTO⟩, ⟨_, h1, rfl, rfl⟩, ⟨_, h2, rfl, rfl⟩, ⟨_, h3, rfl, rfl⟩⟩, fun d hd => ?_, q⟩
          have hle : s1.heap.objs.size ≤ d := by
            simp only [List.mem_cons, List.not_mem_nil, or_false] at hd
            rcases hd with z | z | z | z | z | z <;> rw [z] <;> omega
          exact I1.fpOk hle (I1.hok.fresh hle)
end L3

/-! ### text Lt -/
namespace L3
open PySem PySem.Spec PyProof.Rows L2

/-! ### plain laws: texts -/
theorem map_inj {α β : Type} {f : α → β} (hf : ∀ a b, f a = f b → a = b) : ∀ {l m : List α}, l.map f = m.map f → l = m
  | [], [], _ => rfl
  | [], _ :: _, h => by simp at h
  | _ :: _, [], h => by simp at h
  | a :: l, b :: m, h => by
    simp only [List.map_cons, List.cons.injEq] at h
    rw [hf a b h.1, map_inj hf h.2]
theorem lit_eq (a b : String) : (Str.ofString a = Str.ofString b) = (a = b) := by
  apply propext
  constructor
  · intro h
    rw [Str.ofString_eq_toList, Str.ofString_eq_toList] at h
    have h1 : (a.toList.map Char.toNat).toArray = (b.toList.map Char.toNat).toArray := congrArg Str.cps h
    have h2 : a.toList.map Char.toNat = b.toList.map Char.toNat := by simpa using congrArg Array.toList h1
    have h3 := map_inj (fun x y e => Char.toNat_inj.mp e) h2
    exact String.toList_inj.mp h3
  · intro h; rw [h]
/-! ### repr tells data -/
mutual
/-- a bound of a shown text -/
def pw : PyData → Nat
  | .none => 4
  | .bool _ => 5
  | .int _ => 101
  | .str x => 10 * x.length + 2
  | .list xs => pwL xs + 3
  | .tuple xs => pwL xs + 3
  | .dict _ => 0
def pwL : List PyData → Nat
  | [] => 0
  | x :: xs => pw x + 2 + pwL xs
end
mutual
/-- ints below 10 ^ 100, texts of whole letters, no dicts -/
def pok : PyData → Bool
  | .none => true
  | .bool _ => true
  | .int i => decide (i.natAbs < 10 ^ 100)
  | .str x => x.cps.toList.all fun c => decide (c < 16 ^ 8)
  | .list xs => pokL xs
  | .tuple xs => pokL xs
  | .dict _ => false
def pokL : List PyData → Bool
  | [] => true
  | x :: xs => pok x && pokL xs
end
theorem strApp (a b : Str) : (a ++ b).length = a.length + b.length := strLen_append a b
mutual
theorem pw_le : ∀ d : PyData, pok d = true → d.shown.length ≤ pw d
  | .none, _ => by show (PyData.shown .none).length ≤ 4; decide
  | .bool b, _ => by cases b <;> (show (PyData.shown (.bool _)).length ≤ 5; decide)
  | .int i, h => by
    have h1 : i.natAbs < 10 ^ 100 := of_decide_eq_true h
    have e := int_text_length_le10 (a := i) (k := 100) (by decide) h1
    show (Str.ofString (toString i)).length ≤ 101
    rw [PySem.ofString_length]
    exact e
  | .str x, h => by
    have hx : ∀ c ∈ x.cps.toList, c < 16 ^ 8 := fun c hc => of_decide_eq_true (List.all_eq_true.mp (show (x.cps.toList.all fun c => decide (c < 16 ^ 8)) = true from h) c hc)
    exact StrLaws.reprText_len x hx
  | .list xs, h => by
    have e1 := listText_len_le (PyData.shownAll xs)
    have e2 := pwL_le xs h
    simp only [PyData.shown, pw]
    omega
  | .tuple xs, h => by
    have e1 := tupleText_len_le (PyData.shownAll xs)
    have e2 := pwL_le xs h
    simp only [PyData.shown, pw]
    omega
  | .dict _, h => by cases h
theorem pwL_le : ∀ ds : List PyData, pokL ds = true → ((PyData.shownAll ds).map (·.length)).sum + 2 * (PyData.shownAll ds).length ≤ pwL ds
  | [], _ => by simp [PyData.shownAll, pwL]
  | d :: ds, h => by
    simp only [pokL, Bool.and_eq_true] at h
    have e1 := pw_le d h.1
    have e2 := pwL_le ds h.2
    simp only [PyData.shownAll, List.map_cons, List.sum_cons, List.length_cons, pwL]
    omega
end
mutual
theorem pok_ok : ∀ d : PyData, pok d = true → d.showable = true ∧ d.hasDict = false
  | .none, _ => ⟨rfl, rfl⟩
  | .bool b, _ => ⟨rfl, rfl⟩
  | .int i, h => by
    refine ⟨?_, rfl⟩
    have h1 : i.natAbs < 10 ^ 100 := of_decide_eq_true h
    show decide (i.natAbs.log2 < 1920) = true
    apply decide_eq_true
    by_cases h0 : i.natAbs = 0
    · rw [h0]; decide
    · rw [Nat.log2_lt h0]
      exact Nat.lt_of_lt_of_le h1 (by decide +kernel)
  | .str x, _ => ⟨rfl, rfl⟩
  | .list xs, h => pokL_ok xs h
  | .tuple xs, h => pokL_ok xs h
  | .dict _, h => by cases h
theorem pokL_ok : ∀ ds : List PyData, pokL ds = true → PyData.showableAll ds = true ∧ PyData.hasDictAll ds = false
  | [], _ => ⟨rfl, rfl⟩
  | d :: ds, h => by
    simp only [pokL, Bool.and_eq_true] at h
    obtain ⟨a1, a2⟩ := pok_ok d h.1
    obtain ⟨b1, b2⟩ := pokL_ok ds h.2
    exact ⟨by simp [PyData.showableAll, a1, b1], by simp [PyData.hasDictAll, a2, b2]⟩
end
theorem reprOk_of {p : PyData} (h : pok p = true) (hw : pw p ≤ 1000000) (hd : p.depth ≤ 40) : reprOk p = true := by
  obtain ⟨h1, h2⟩ := pok_ok p h
  have h3 := pw_le p h
  unfold reprOk
  rw [h1, h2, decide_eq_true hd, decide_eq_true (Nat.le_trans h3 hw)]
  rfl
theorem lit_lt (s : String) : ∀ c ∈ (Str.ofString s).cps.toList, c < 0x110000 := by
  intro c hc
  rw [Str.ofString_eq_toList] at hc
  simp only [List.mem_map] at hc
  obtain ⟨ch, _, rfl⟩ := hc
  have := ch.valid
  have e : ch.toNat = ch.val.toNat := rfl
  rw [e]
  rcases this with h | h
  · exact Nat.lt_trans h (by decide)
  · exact h.2
@[simp] theorem pok_lit (s : String) : pok (.str (Str.ofString s)) = true := by
  show ((Str.ofString s).cps.toList.all fun c => decide (c < 16 ^ 8)) = true
  rw [List.all_eq_true]
  exact fun c hc => decide_eq_true (Nat.lt_of_lt_of_le (lit_lt s c hc) (by decide))
@[simp] theorem shaped_lit (s : String) : SeqAt.shaped (.str (Str.ofString s)) = true := by
  unfold SeqAt.shaped
  have h1 : PyData.canLay0 (.str (Str.ofString s)) = true := by
    show PyData.strOk (Str.ofString s) = true
    unfold PyData.strOk
    rw [Array.all_eq_true]
    intro i hi
    exact decide_eq_true (lit_lt s _ (by simp))
  rw [h1]
  rfl
@[simp] theorem shaped_int (i : Int) : SeqAt.shaped (.int i) = true := rfl
@[simp] theorem shaped_bool (i : Bool) : SeqAt.shaped (.bool i) = true := rfl
@[simp] theorem shaped_none : SeqAt.shaped .none = true := rfl
/-! ### == on data -/
theorem dEq_str (a b : Str) (st : Store) : dEq (.str a) (.str b) st = .ok (.bl (decide (a = b))) st := rfl
theorem dEq_lit (a b : String) (st : Store) : dEq (.str (Str.ofString a)) (.str (Str.ofString b)) st = .ok (.bl (decide (a = b))) st := by
  rw [dEq_str]
  congr 2
  rw [Bool.eq_iff_iff, decide_eq_true_iff, lit_eq, decide_eq_true_iff]
theorem dEq_int (a b : Int) (st : Store) : dEq (.int a) (.int b) st = .ok (.bl (decide (a = b))) st := by
  simp only [dEq, toPd, toP, shaped_int, and_self, if_true]
  congr 2
theorem dNe_int (a b : Int) (st : Store) : dNe (.int a) (.int b) st = .ok (.bl (!decide (a = b))) st := by
  simp only [dNe, toPd, toP, shaped_int, and_self, if_true]
  congr 2
/-! ### loops -/
/-- a for that goes through -/
theorem loop_ok {keep : Store → Prop} {t : Nm} {m : SM} {n0 : Nat} (Iv : Nat → Sl → Store → Prop) : ∀ (ds : List D) (i : Nat) (δ : Sl) (st : Store), Iv i δ st → (∀ j δ st, Iv j δ st → keep st) →
    (∀ (j : Nat) (d : D) (δ : Sl) (st : Store), ds[j]? = some d → Iv (i + j) δ st → ∃ δ1 δ2 st2 δ3 st3, t.put d δ = some δ1 ∧ (m δ1 st = .nx δ2 st2 ∨ m δ1 st = .ct δ2 st2) ∧ tidy n0 δ2 st2 = some (δ3, st3) ∧ Iv (i + j + 1) δ3 st3) →
    ∃ δ' st', loop keep t m n0 ds δ st = .nx δ' st' ∧ Iv (i + ds.length) δ' st'
  | [], i, δ, st, h, hk, _ => ⟨δ, st, by rw [loop, if_pos (hk _ _ _ h)], h⟩
  | d :: ds, i, δ, st, h, hk, hs => by
    obtain ⟨δ1, δ2, st2, δ3, st3, e1, e2, e3, h3⟩ := hs 0 d δ st rfl h
    obtain ⟨δ', st', e4, h4⟩ := loop_ok (keep := keep) (t := t) (m := m) (n0 := n0) Iv ds (i + 1) δ3 st3 (by simpa using h3) hk (fun j d' δ st hd hi => by
      have := hs (j + 1) d' δ st (by simpa using hd) (by rw [show i + (j + 1) = i + 1 + j by omega]; exact hi)
      rw [show i + (j + 1) + 1 = i + 1 + j + 1 by omega] at this
      exact this)
    refine ⟨δ', st', ?_, by rw [List.length_cons, show i + (ds.length + 1) = i + 1 + ds.length by omega]; exact h4⟩
    rw [loop, if_pos (hk _ _ _ h), e1]
    rcases e2 with e2 | e2 <;> simp only [e2, e3] <;> exact e4
/-- a comprehension whose items leave the store alone -/
theorem lcL_map {keep : Store → Prop} {t : Nm} {m : EM} {δ : Sl} {st : Store} (f : D → D) (hk : keep st) : ∀ (ds acc : List D), acc.length + ds.length ≤ 1000000 →
    (∀ d ∈ ds, ∃ δ1, t.put d δ = some δ1 ∧ m δ1 st = .ok (f d) st) → lcL keep t tYesM m δ ds acc st = .ok (acc ++ ds.map f) st
  | [], acc, _, _ => by rw [lcL, if_pos hk]; simp
  | d :: ds, acc, hl, h => by
    obtain ⟨δ1, e1, e2⟩ := h d List.mem_cons_self
    simp only [List.length_cons] at hl
    rw [lcL, if_pos ⟨hk, by omega⟩, e1]
    simp only [tYesM, e2, noErr, Res.bind_ok]
    rw [lcL_map f hk ds (acc ++ [f d]) (by simp; omega) (fun d hd => h d (List.mem_cons_of_mem _ hd))]
    simp
/-- .. whose items change it -/
theorem lcL_go {keep : Store → Prop} {t : Nm} {m : EM} {δ : Sl} (Iv : Store → Prop) (G : D → Prop) (hk : ∀ st, Iv st → keep st) : ∀ (ds acc : List D) (st : Store), acc.length + ds.length ≤ 1000000 → Iv st →
    (∀ d ∈ ds, ∀ st, Iv st → ∃ δ1 x st', t.put d δ = some δ1 ∧ m δ1 st = .ok x st' ∧ G x ∧ Iv st') → ∃ xs st', lcL keep t tYesM m δ ds acc st = .ok (acc ++ xs) st' ∧ xs.length = ds.length ∧ (∀ x ∈ xs, G x) ∧ Iv st'
  | [], acc, st, _, h0, _ => ⟨[], st, by rw [lcL, if_pos (hk _ h0)]; simp, rfl, by simp, h0⟩
  | d :: ds, acc, st, hl, h0, h => by
    obtain ⟨δ1, x, st1, e1, e2, g, h1⟩ := h d List.mem_cons_self st h0
    simp only [List.length_cons] at hl
    obtain ⟨xs, st2, e3, l3, g3, h3⟩ := lcL_go (keep := keep) (t := t) (m := m) (δ := δ) Iv G hk ds (acc ++ [x]) st1 (by simp; omega) h1 (fun d hd => h d (List.mem_cons_of_mem _ hd))
    refine ⟨x :: xs, st2, ?_, by simp [l3], fun y hy => ?_, h3⟩
    · rw [lcL, if_pos ⟨hk _ h0, by omega⟩, e1]
      simp only [tYesM, noErr, Res.bind_ok, if_true, e2, e3]
      simp
    · rcases List.mem_cons.mp hy with rfl | hy
      · exact g
      · exact g3 y hy
end L3

/-! ### text walks -/
namespace K12
open PySem PySem.Spec PyProof.Rows L2 L3
def top (i : Nat) : Stmt := PySem.Challenge.pw_leavelots_k12_whole_ways_of_accruing.main.body.getD i (.Pass ⟨0, 0, 0, 0⟩)
abbrev s_is_whole : Stmt := top 5
abbrev s_is_number : Stmt := top 6
abbrev s_is_one_of : Stmt := top 7
abbrev s_check_number : Stmt := top 10
abbrev s_sum_behind : Stmt := top 19
abbrev s_sums_of : Stmt := top 20
abbrev s_parts_of : Stmt := top 21
abbrev s_check_way : Stmt := top 22
abbrev s_check_parted : Stmt := top 23
abbrev s_accrued : Stmt := top 24
abbrev s_sums : Stmt := top 25
abbrev s_greatest_gap : Stmt := top 26
abbrev s__law_well : Stmt := top 28
abbrev s__law_draw : Stmt := top 29
abbrev s__law_of : Stmt := top 30
abbrev s__law_is : Stmt := top 31
abbrev s__law_sum : Stmt := top 32
abbrev s__law_sums : Stmt := top 33
abbrev s__law_accrued : Stmt := top 34
abbrev s__law_refused : Stmt := top 35
abbrev s__law_wrong_right : Stmt := top 36
abbrev s__law_right : Stmt := top 37
abbrev s_law : Stmt := top 38
abbrev s_InvalidNumber : Stmt := inClass (top 2) 0
abbrev s_InvalidWay : Stmt := inClass (top 3) 0
def dv_WAYS : List He.Dv := [.str "down", .str "near", .str "up", .str "first", .str "last"]
def isC (K : PySem.W.Frag) : List Addr := []
noncomputable def m_is_whole (K : PySem.W.Frag) : SM := sRet (eAndM (eN (bIsi K (isC K)) (aCons (eV 0) (aCons (eC (.ty "int")) (aNil)))) (eNotM (eN (bIsi K (isC K)) (aCons (eV 0) (aCons (eC (.ty "bool")) (aNil))))))
noncomputable def mf_is_whole (K : PySem.W.Frag) : List D → Store → Res D := fnM leave 1 1 (m_is_whole K)
noncomputable def m_is_number (K : PySem.W.Frag) : SM := sSeq (sIf (tOrM (tNotM (tVal (eCall1 (mf_is_whole K) (aCons (eV 0) (aNil))))) (tAndM (t2 dNotN (eV 1) (eC .non)) (t2 dLt (eV 0) (eV 1)))) (sRet (eC (.bl false))) (sNil)) (sRet (eOrM (e2 dIsN (eV 2) (eC .non)) (e2 dLe (eV 0) (eV 2))))
noncomputable def mf_is_number (K : PySem.W.Frag) : List D → Store → Res D := fnM leave 3 3 (m_is_number K)
noncomputable def m_is_one_of (K : PySem.W.Frag) : SM := sRet (eAndM (eN (bIsi K (isC K)) (aCons (eV 0) (aCons (eC (.ty "str")) (aNil)))) (e2 (dIn false) (eV 0) (eV 1)))
noncomputable def mf_is_one_of (K : PySem.W.Frag) : List D → Store → Res D := fnM leave 2 2 (m_is_one_of K)
noncomputable def m_check_number (K : PySem.W.Frag) : SM := sIf (tNotM (tVal (eCall1 (mf_is_number K) (aCons (eV 0) (aCons (eV 1) (aCons (eV 2) (aNil))))))) (sRaise (He.ga K "InvalidNumber") "given" (eV 0)) (sNil)
noncomputable def mf_check_number (K : PySem.W.Frag) : List D → Store → Res D := fnM leave 3 3 (m_check_number K)
noncomputable def m_sum_behind (K : PySem.W.Frag) : SM := sSeq (sSet 4 (e2 dMul (eV 3) (eV 0))) (sSeq (sIf (t2 dEq (eV 2) (eC (.str "down"))) (sRet (e2 dDiv (eV 4) (eV 1))) (sNil)) (sSeq (sIf (t2 dEq (eV 2) (eC (.str "near"))) (sRet (e2 dDiv (e2 dAdd (e2 dMul (eC (.int 2)) (eV 4)) (eV 1)) (e2 dMul (eC (.int 2)) (eV 1)))) (sNil)) (sSeq (sIf (t2 dEq (eV 2) (eC (.str "up"))) (sRet (e2 dSub (eC (.int 0)) (e2 dDiv (e2 dSub (eC (.int 0)) (eV 4)) (eV 1)))) (sNil)) (sSeq (sSet 5 (e2 dDiv (eV 0) (eV 1))) (sSeq (sIf (tOrM (t2 dEq (eV 2) (eC (.str "first"))) (t2 dEq (eV 3) (eV 1))) (sRet (e2 dSub (e2 dAdd (e2 dMul (eV 3) (eV 5)) (eV 0)) (e2 dMul (eV 1) (eV 5)))) (sNil)) (sRet (e2 dMul (eV 3) (eV 5))))))))
noncomputable def mf_sum_behind (K : PySem.W.Frag) : List D → Store → Res D := fnM leave 6 4 (m_sum_behind K)
noncomputable def m_sums_of (K : PySem.W.Frag) : SM := sRet (eLC (iRange2 (aCons (eC (.int 1)) (aCons (e2 dAdd (eV 1) (eC (.int 1))) (aNil)))) (.one 3) (tYesM) (eCall1 (mf_sum_behind K) (aCons (eV 0) (aCons (eV 1) (aCons (eV 2) (aCons (eV 3) (aNil)))))) [3])
noncomputable def mf_sums_of (K : PySem.W.Frag) : List D → Store → Res D := fnM leave 4 3 (m_sums_of K)
noncomputable def m_parts_of (K : PySem.W.Frag) : SM := sSeq (sSet 3 (eCall1 (mf_sums_of K) (aCons (eV 0) (aCons (eV 1) (aCons (eV 2) (aNil)))))) (sRet (eLC (iZip (aCons (eLst (aCons (eC (.int 0)) (aStar (eV 3) (aNil)))) (aCons (eV 3) (aNil)))) (.tup ((.one 4) :: (.one 5) :: [])) (tYesM) (e2 dSub (eV 5) (eV 4)) [4, 5]))
noncomputable def mf_parts_of (K : PySem.W.Frag) : List D → Store → Res D := fnM leave 6 3 (m_parts_of K)
noncomputable def m_check_way (K : PySem.W.Frag) : SM := sIf (tNotM (tVal (eCall1 (mf_is_one_of K) (aCons (eV 0) (aCons (eC (.tup (dv_WAYS.map (dvD K)))) (aNil)))))) (sRaise (He.ga K "InvalidWay") "given" (eV 0)) (sNil)
noncomputable def mf_check_way (K : PySem.W.Frag) : List D → Store → Res D := fnM leave 1 1 (m_check_way K)
noncomputable def m_check_parted (K : PySem.W.Frag) : SM := sSeq (sDrop (eCall1 (mf_check_number K) (aCons (eV 0) (aCons (eC (.int 0)) (aCons (eC (.int 1000000)) (aNil)))))) (sSeq (sDrop (eCall1 (mf_check_number K) (aCons (eV 1) (aCons (eC (.int 1)) (aCons (eC (.int 24)) (aNil)))))) (sDrop (eCall1 (mf_check_way K) (aCons (eV 2) (aNil)))))
noncomputable def mf_check_parted (K : PySem.W.Frag) : List D → Store → Res D := fnM leave 3 3 (m_check_parted K)
noncomputable def m_accrued (K : PySem.W.Frag) : SM := sSeq (sDrop (eCall1 (mf_check_parted K) (aCons (eV 0) (aCons (eV 1) (aCons (eV 2) (aNil)))))) (sRet (eN bTuple (aCons (eCall1 (mf_parts_of K) (aCons (eV 0) (aCons (eV 1) (aCons (eV 2) (aNil))))) (aNil))))
noncomputable def mf_accrued (K : PySem.W.Frag) : List D → Store → Res D := fnM leave 3 3 (m_accrued K)
noncomputable def m_sums (K : PySem.W.Frag) : SM := sSeq (sDrop (eCall1 (mf_check_parted K) (aCons (eV 0) (aCons (eV 1) (aCons (eV 2) (aNil)))))) (sRet (eN bTuple (aCons (eCall1 (mf_sums_of K) (aCons (eV 0) (aCons (eV 1) (aCons (eV 2) (aNil))))) (aNil))))
noncomputable def mf_sums (K : PySem.W.Frag) : List D → Store → Res D := fnM leave 3 3 (m_sums K)
noncomputable def m_greatest_gap (K : PySem.W.Frag) : SM := sSeq (sDrop (eCall1 (mf_check_parted K) (aCons (eV 0) (aCons (eV 1) (aCons (eV 2) (aNil)))))) (sSeq (sDrop (eCall1 (mf_check_way K) (aCons (eV 3) (aNil)))) (sSeq (sPar 4 5 (aCons (eCall1 (mf_sums_of K) (aCons (eV 0) (aCons (eV 1) (aCons (eV 2) (aNil))))) (aCons (eCall1 (mf_sums_of K) (aCons (eV 0) (aCons (eV 1) (aCons (eV 3) (aNil))))) (aNil)))) (sRet (eN (bMax) (aCons (eLC (iZip (aCons (eV 4) (aCons (eV 5) (aNil)))) (.tup ((.one 6) :: (.one 7) :: [])) (tYesM) (e2 dSub (eV 6) (eV 7)) [6, 7]) (aNil))))))
noncomputable def mf_greatest_gap (K : PySem.W.Frag) : List D → Store → Res D := fnM leave 8 4 (m_greatest_gap K)
noncomputable def m__law_well (K : PySem.W.Frag) : SM := sSeq (sSet 2 (e2 dAdd (eC (.int 1421964)) (e2 dMul (eC (.int 5231)) (eV 1)))) (sSeq (sFor (iSeq (eCut (eV 0) (oNone) (oSome (eC (.int 9))))) (.one 3) (sSet 2 (e2 dMod (eN bInt (aCons (e2 dAdd (e2 dAdd (e2 dMul (eV 2) (eC (.int 47521))) (e2 dMod (eN bInt (aCons (eV 3) (aNil))) (eC (.int 2147483549)))) (eC (.int 41))) (aNil))) (eC (.int 2147483629))))) (sSeq (sSet 4 (eIf (t2 dLt (eV 1) (eN (bLen) (aCons (eV 0) (aNil)))) (eN bInt (aCons (e2 dIx (eV 0) (eV 1)) (aNil))) (eC (.int 0)))) (sSeq (sSet 2 (e2 dMod (eN bInt (aCons (e2 dAdd (e2 dAdd (e2 dMul (eV 2) (eC (.int 61))) (e2 dMul (e2 dMod (eN bInt (aCons (eV 4) (aNil))) (eC (.int 2147483549))) (eC (.int 16007)))) (eC (.int 17))) (aNil))) (eC (.int 2147483629)))) (sRet (eLstN (aCons (eIf (tOrM (t2 dLt (eV 4) (eC (.int 0))) (t2 dGe (eV 4) (e2 dPow (eC (.int 10)) (eC (.int 15))))) (eN (bAbs) (aCons (eV 4) (aNil))) (eC (.int 0))) (aCons (eV 2) (aCons (eC (.int 0)) (aNil)))))))))
noncomputable def mf__law_well (K : PySem.W.Frag) : List D → Store → Res D := fnM leaveN 5 2 (m__law_well K)
noncomputable def m__law_draw (K : PySem.W.Frag) : SM := sSeq (sIf (t2 dGt (e2 dIx (eV 0) (eC (.int 0))) (eC (.int 0))) (sSeq (sAsg (eN (bDivmod) (aCons (e2 dIx (eV 0) (eC (.int 0))) (aCons (eV 1) (aNil)))) (gTupM (gsCons (gSubM (eV 0) (eC (.int 0))) (gsCons (gNm 3) (gsNil))) 2)) (sRet (eV 3))) (sNil)) (sSeq (sAsg (e2 dAdd (e2 dIx (eV 0) (eC (.int 2))) (eC (.int 1))) (gSubM (eV 0) (eC (.int 2)))) (sSeq (sSet 2 (e2 dMod (eN bInt (aCons (e2 dAdd (e2 dMul (e2 dIx (eV 0) (eC (.int 1))) (eC (.int 40009))) (e2 dMul (eC (.int 15013)) (e2 dIx (eV 0) (eC (.int 2))))) (aNil))) (eC (.int 2147483629)))) (sSeq (sAsg (e2 dMod (eN bInt (aCons (e2 dAdd (e2 dMul (eV 2) (e2 dAdd (e2 dMod (eN bInt (aCons (eV 2) (aNil))) (eC (.int 5003))) (eC (.int 20011)))) (e2 dIx (eV 0) (eC (.int 2)))) (aNil))) (eC (.int 2147483629))) (gSubM (eV 0) (eC (.int 1)))) (sRet (e2 dMod (eN bInt (aCons (e2 dDiv (e2 dIx (eV 0) (eC (.int 1))) (eC (.int 1031))) (aNil))) (eV 1))))))
noncomputable def mf__law_draw (K : PySem.W.Frag) : List D → Store → Res D := fnM leave 4 2 (m__law_draw K)
noncomputable def m__law_of (K : PySem.W.Frag) : SM := sRet (e2 dIx (eV 1) (eCall1 (mf__law_draw K) (aCons (eV 0) (aCons (eN (bLen) (aCons (eV 1) (aNil))) (aNil)))))
noncomputable def mf__law_of (K : PySem.W.Frag) : List D → Store → Res D := fnM leave 2 2 (m__law_of K)
noncomputable def m__law_is (K : PySem.W.Frag) : SM := sRet (e2 dEq (eN (bRepr) (aCons (eV 0) (aNil))) (eN (bRepr) (aCons (eV 1) (aNil))))
noncomputable def mf__law_is (K : PySem.W.Frag) : List D → Store → Res D := fnM leave 2 2 (m__law_is K)
noncomputable def m__law_sum (K : PySem.W.Frag) : SM := sSeq (sIf (t2 dEq (eV 2) (eC (.str "down"))) (sRet (e2 dDiv (e2 dMul (eV 3) (eV 0)) (eV 1))) (sNil)) (sSeq (sIf (t2 dEq (eV 2) (eC (.str "up"))) (sRet (e2 dSub (eC (.int 0)) (e2 dDiv (e2 dSub (eC (.int 0)) (e2 dMul (eV 3) (eV 0))) (eV 1)))) (sNil)) (sSeq (sIf (t2 dEq (eV 2) (eC (.str "near"))) (sRet (e2 dDiv (e2 dAdd (e2 dMul (e2 dMul (eC (.int 2)) (eV 3)) (eV 0)) (eV 1)) (e2 dMul (eC (.int 2)) (eV 1)))) (sNil)) (sSeq (sPar 4 5 (aCons (e2 dDiv (eV 0) (eV 1)) (aCons (e2 dSub (eV 0) (e2 dMul (eV 1) (e2 dDiv (eV 0) (eV 1)))) (aNil)))) (sRet (e2 dAdd (e2 dMul (eV 3) (eV 4)) (eIf (tOrM (tAndM (t2 dEq (eV 2) (eC (.str "first"))) (t2 dGt (eV 3) (eC (.int 0)))) (tAndM (t2 dEq (eV 2) (eC (.str "last"))) (t2 dEq (eV 3) (eV 1)))) (eV 5) (eC (.int 0))))))))
noncomputable def mf__law_sum (K : PySem.W.Frag) : List D → Store → Res D := fnM leave 6 4 (m__law_sum K)
noncomputable def m__law_sums (K : PySem.W.Frag) : SM := sRet (eLC (iRange2 (aCons (eC (.int 1)) (aCons (e2 dAdd (eV 1) (eC (.int 1))) (aNil)))) (.one 3) (tYesM) (eCall1 (mf__law_sum K) (aCons (eV 0) (aCons (eV 1) (aCons (eV 2) (aCons (eV 3) (aNil)))))) [3])
noncomputable def mf__law_sums (K : PySem.W.Frag) : List D → Store → Res D := fnM leave 4 3 (m__law_sums K)
noncomputable def m__law_accrued (K : PySem.W.Frag) : SM := sSeq (sSet 3 (e2 dAdd (eLst (aCons (eC (.int 0)) (aNil))) (eCall1 (mf__law_sums K) (aCons (eV 0) (aCons (eV 1) (aCons (eV 2) (aNil))))))) (sRet (eLC (iRange1 (aCons (eV 1) (aNil))) (.one 4) (tYesM) (e2 dSub (e2 dIx (eV 3) (e2 dAdd (eV 4) (eC (.int 1)))) (e2 dIx (eV 3) (eV 4))) [4]))
noncomputable def mf__law_accrued (K : PySem.W.Frag) : List D → Store → Res D := fnM leave 5 3 (m__law_accrued K)
noncomputable def m__law_refused (K : PySem.W.Frag) (g : Addr) (ap : List D → Store → Res D) : SM := sSeq (sTry K (.named (He.ga K "InvalidNumber") "given" 1 (fun a xd => sRet (eLst (aCons (eC (.str "number")) (aCons (eN (bRepr) (aCons (eXf 1 a xd) (aNil))) (aNil))))) :: .named (He.ga K "InvalidWay") "given" 1 (fun a xd => sRet (eLst (aCons (eC (.str "way")) (aCons (eN (bRepr) (aCons (eXf 1 a xd) (aNil))) (aNil))))) :: []) (sDrop (eClo 0 g ap (aNil)))) (sRet (eLst (aCons (eC (.str "told")) (aNil))))
noncomputable def mf__law_refused (K : PySem.W.Frag) : Addr → (List D → Store → Res D) → List D → Store → Res D := fun g ap => fnM leave 2 1 (m__law_refused K g ap)
noncomputable def m__law_wrong_right (K : PySem.W.Frag) : SM := sSeq (sAsg (eTup (aCons (eCall1 (mf__law_of K) (aCons (eV 0) (aCons (eTup (aCons (e1 dNeg (eC (.int 1))) (aCons (e2 dAdd (e2 dPow (eC (.int 10)) (eC (.int 6))) (eC (.int 1))) (aCons (eC (.bl true)) (aCons (eC .non) (aCons (eC (.str "5")) (aNil))))))) (aNil)))) (aCons (eCall1 (mf__law_of K) (aCons (eV 0) (aCons (eTup (aCons (eC (.int 0)) (aCons (eC (.int 25)) (aCons (eC (.bl true)) (aCons (eC .non) (aCons (eC (.str "5")) (aNil))))))) (aNil)))) (aNil)))) (gTupM (gsCons (gNm 7) (gsCons (gNm 8) (gsNil))) 2)) (sSeq (sSet 4 (eCall1 (mf__law_of K) (aCons (eV 0) (aCons (eTup (aCons (eC (.str "Down")) (aCons (eC (.str "")) (aCons (eC .non) (aCons (eC (.int 0)) (aCons (eTup (aCons (eC (.str "down")) (aNil))) (aCons (eC (.str "most")) (aCons (eLst (aCons (eC (.str "up")) (aNil))) (aNil))))))))) (aNil))))) (sSeq (sSet 5 (eLstN (aCons (eCallL (mf__law_refused K) 3 0 [7, 8, 4] (eCall1 (mf_accrued K) (aCons (eV 0) (aCons (eV 1) (aCons (eV 2) (aNil))))) (aNil)) (aNil)))) (sSeq (sDrop (eBM isLs dAppend (eV 5) (aCons (eCallL (mf__law_refused K) 3 0 [4, 8, 7] (eCall (mf_sums K) 0 3 [2, 1, 0] aNil (aCons (eV 0) (aCons (eV 1) (aCons (eV 2) (aNil))))) (aNil)) (aNil)))) (sSeq (sDrop (eBM isLs dAppend (eV 5) (aCons (eCallL (mf__law_refused K) 3 0 [7, 8, 4] (eCall1 (mf_greatest_gap K) (aCons (eV 0) (aCons (eV 1) (aCons (eV 2) (aCons (eV 2) (aNil)))))) (aNil)) (aNil)))) (sSeq (sDrop (eBM isLs dAppend (eV 5) (aCons (eCallL (mf__law_refused K) 3 0 [1, 8, 4] (eCall1 (mf_accrued K) (aCons (eV 0) (aCons (eV 1) (aCons (eV 2) (aNil))))) (aNil)) (aNil)))) (sSeq (sDrop (eBM isLs dAppend (eV 5) (aCons (eCallL (mf__law_refused K) 3 0 [1, 8, 4] (eCall1 (mf_greatest_gap K) (aCons (eV 0) (aCons (eV 1) (aCons (eV 2) (aCons (eV 2) (aNil)))))) (aNil)) (aNil)))) (sSeq (sDrop (eBM isLs dAppend (eV 5) (aCons (eCallL (mf__law_refused K) 3 0 [1, 2, 4] (eCall1 (mf_sums K) (aCons (eV 0) (aCons (eV 1) (aCons (eV 2) (aNil))))) (aNil)) (aNil)))) (sSeq (sDrop (eBM isLs dAppend (eV 5) (aCons (eCallL (mf__law_refused K) 3 0 [1, 2, 4] (eCall1 (mf_greatest_gap K) (aCons (eV 0) (aCons (eV 1) (aCons (eV 2) (aCons (eC (.int 5)) (aNil)))))) (aNil)) (aNil)))) (sSeq (sDrop (eBM isLs dAppend (eV 5) (aCons (eCallL (mf__law_refused K) 4 0 [4, 3, 2, 1] (eCall (mf_greatest_gap K) 0 4 [3, 2, 1, 0] aNil (aCons (eV 0) (aCons (eV 1) (aCons (eV 2) (aCons (eV 3) (aNil)))))) (aNil)) (aNil)))) (sSeq (sSet 6 (e2 dAdd (e2 dAdd (e2 dMul (eLst (aCons (eLst (aCons (eC (.str "number")) (aCons (eN (bRepr) (aCons (eV 7) (aNil))) (aNil)))) (aNil))) (eC (.int 3))) (e2 dMul (eLst (aCons (eLst (aCons (eC (.str "number")) (aCons (eN (bRepr) (aCons (eV 8) (aNil))) (aNil)))) (aNil))) (eC (.int 2)))) (e2 dMul (eLst (aCons (eLst (aCons (eC (.str "way")) (aCons (eN (bRepr) (aCons (eV 4) (aNil))) (aNil)))) (aNil))) (eC (.int 3))))) (sRet (eCall1 (mf__law_is K) (aCons (eV 5) (aCons (eV 6) (aNil)))))))))))))))
noncomputable def mf__law_wrong_right (K : PySem.W.Frag) : List D → Store → Res D := fnM leave 9 4 (m__law_wrong_right K)
noncomputable def m__law_right (K : PySem.W.Frag) : SM := sSeq (sSet 1 (eTup (aCons (eC (.str "down")) (aCons (eC (.str "near")) (aCons (eC (.str "up")) (aCons (eC (.str "first")) (aCons (eC (.str "last")) (aNil)))))))) (sSeq (sFor (iRange1 (aCons (eC (.int 9)) (aNil))) (.one 2) (sSeq (sPar 6 7 (aCons (eCall1 (mf__law_draw K) (aCons (eV 0) (aCons (eCall1 (mf__law_of K) (aCons (eV 0) (aCons (eTup (aCons (eC (.int 2)) (aCons (eC (.int 30)) (aCons (eC (.int 300)) (aCons (e2 dAdd (e2 dPow (eC (.int 10)) (eC (.int 6))) (eC (.int 1))) (aNil)))))) (aNil)))) (aNil)))) (aCons (e2 dAdd (eC (.int 1)) (eCall1 (mf__law_draw K) (aCons (eV 0) (aCons (eC (.int 24)) (aNil))))) (aNil)))) (sSeq (sSet 3 (eDictN)) (sSeq (sFor (iSeq (eV 1)) (.one 4) (sSeq (sPar 13 14 (aCons (eN bTuple (aCons (eCall1 (mf__law_sums K) (aCons (eV 6) (aCons (eV 7) (aCons (eV 4) (aNil))))) (aNil))) (aCons (eN bTuple (aCons (eCall1 (mf__law_accrued K) (aCons (eV 6) (aCons (eV 7) (aCons (eV 4) (aNil))))) (aNil))) (aNil)))) (sSeq (sSet 8 (eLstN (aCons (eCall1 (mf_accrued K) (aCons (eV 6) (aCons (eV 7) (aCons (eV 4) (aNil))))) (aCons (eCall (mf_accrued K) 0 3 [2, 1, 0] aNil (aCons (eV 4) (aCons (eV 7) (aCons (eV 6) (aNil))))) (aCons (eCall1 (mf_sums K) (aCons (eV 6) (aCons (eV 7) (aCons (eV 4) (aNil))))) (aNil)))))) (sSeq (sIf (tNotM (tVal (eCall1 (mf__law_is K) (aCons (e2 dAdd (eV 8) (eLst (aCons (eCall (mf_sums K) 0 3 [2, 1, 0] aNil (aCons (eV 4) (aCons (eV 7) (aCons (eV 6) (aNil))))) (aNil)))) (aCons (eLst (aCons (eV 14) (aCons (eV 14) (aCons (eV 13) (aCons (eV 13) (aNil)))))) (aNil)))))) (sRet (eC (.bl false))) (sNil)) (sSeq (sIf (tOrM (t2 dNe (e2 dIx (eV 13) (e1 dNeg (eC (.int 1)))) (eV 6)) (t2 dLt (eN (bMin) (aCons (eV 14) (aNil))) (eC (.int 0)))) (sRet (eC (.bl false))) (sNil)) (sKput (eV 3) (eV 4) (eV 13))))))) (sSeq (sFor (iSeq (eV 1)) (.one 5) (sFor (iSeq (eV 1)) (.one 9) (sSeq (sSet 15 (eN (bMax) (aCons (eLC (iZip (aCons (e2 dKx (eV 3) (eV 5)) (aCons (e2 dKx (eV 3) (eV 9)) (aNil)))) (.tup ((.one 16) :: (.one 17) :: [])) (tYesM) (e2 dSub (eV 16) (eV 17)) [16, 17]) (aNil)))) (sSeq (sSet 8 (eLstN (aCons (eCall1 (mf_greatest_gap K) (aCons (eV 6) (aCons (eV 7) (aCons (eV 5) (aCons (eV 9) (aNil)))))) (aNil)))) (sSeq (sDrop (eBM isLs dAppend (eV 8) (aCons (eCall (mf_greatest_gap K) 0 4 [3, 2, 1, 0] aNil (aCons (eV 9) (aCons (eV 5) (aCons (eV 7) (aCons (eV 6) (aNil)))))) (aNil)))) (sIf (tNotM (tVal (eCall1 (mf__law_is K) (aCons (eV 8) (aCons (eLst (aCons (eV 15) (aCons (eV 15) (aNil)))) (aNil)))))) (sRet (eC (.bl false))) (sNil))))))) (sSeq (sFor (iZip3 (aCons (e2 dKx (eV 3) (eC (.str "down"))) (aCons (e2 dKx (eV 3) (eC (.str "near"))) (aCons (e2 dKx (eV 3) (eC (.str "up"))) (aNil))))) (.tup ((.one 10) :: (.one 11) :: (.one 12) :: [])) (sIf (tNotM (tVal (eCh3 dLe dLe dLe (eV 10) (eV 11) (eV 12) (e2 dAdd (eV 10) (eC (.int 1)))))) (sRet (eC (.bl false))) (sNil))) (sIf (tNotM (tVal (eCall1 (mf__law_wrong_right K) (aCons (eV 0) (aCons (eV 6) (aCons (eV 7) (aCons (eCall1 (mf__law_of K) (aCons (eV 0) (aCons (eV 1) (aNil)))) (aNil)))))))) (sRet (eC (.bl false))) (sNil)))))))) (sRet (eC (.bl true))))
noncomputable def mf__law_right (K : PySem.W.Frag) : List D → Store → Res D := fnM leave 18 1 (m__law_right K)
noncomputable def m_law (K : PySem.W.Frag) : SM := sRet (eN (bAll) (aCons (eLC (iRange1 (aCons (eN (bMax) (aCons (eC (.int 1)) (aCons (eN (bMin) (aCons (eN (bLen) (aCons (eV 0) (aNil))) (aCons (eC (.int 3)) (aNil)))) (aNil)))) (aNil))) (.one 1) (tYesM) (eCall1 (mf__law_right K) (aCons (eCall1 (mf__law_well K) (aCons (eV 0) (aCons (eV 1) (aNil)))) (aNil))) [1]) (aNil)))
noncomputable def mf_law (K : PySem.W.Frag) : List D → Store → Res D := fnM leave 2 1 (m_law K)
def nmq (q : Str) : Nat → Nat → Str := fun _ _ => q
def tabs (K : PySem.W.Frag) : List NdefX.NTab := [(tabP K (He.ga K "_law_wrong_right"), nmq "_law_wrong_right.<locals>.<lambda>")]
/-- what stands behind the top -/
structure Gd (P : Program) (w : World) (K : PySem.W.Frag) (mg : Str → Option Value) (base : Heap) : Prop where
  n_abs : mg "abs" = none
  n_all : mg "all" = none
  n_bool : mg "bool" = none
  n_divmod : mg "divmod" = none
  n_int : mg "int" = none
  n_isinstance : mg "isinstance" = none
  n_len : mg "len" = none
  n_max : mg "max" = none
  n_min : mg "min" = none
  n_range : mg "range" = none
  n_repr : mg "repr" = none
  n_str : mg "str" = none
  n_tuple : mg "tuple" = none
  n_zip : mg "zip" = none
  v_DOWN : ∃ t, mg "DOWN" = some (.str "down" t)
  v_FIRST : ∃ t, mg "FIRST" = some (.str "first" t)
  v_MOST_PARTS : ∃ t, mg "MOST_PARTS" = some (.int 24 t)
  v_MOST_UNITS : ∃ t, mg "MOST_UNITS" = some (.int 1000000 t)
  v_NEAR : ∃ t, mg "NEAR" = some (.str "near" t)
  v_UP : ∃ t, mg "UP" = some (.str "up" t)
  v_WAYS : TupA K mg "WAYS" dv_WAYS
  f_is_whole : FunA K mg "is_whole" s_is_whole
  f_is_number : FunA K mg "is_number" s_is_number
  f_is_one_of : FunA K mg "is_one_of" s_is_one_of
  f_check_number : FunA K mg "check_number" s_check_number
  f_sum_behind : FunA K mg "sum_behind" s_sum_behind
  f_sums_of : FunA K mg "sums_of" s_sums_of
  f_parts_of : FunA K mg "parts_of" s_parts_of
  f_check_way : FunA K mg "check_way" s_check_way
  f_check_parted : FunA K mg "check_parted" s_check_parted
  f_accrued : FunA K mg "accrued" s_accrued
  f_sums : FunA K mg "sums" s_sums
  f_greatest_gap : FunA K mg "greatest_gap" s_greatest_gap
  f__law_well : FunA K mg "_law_well" s__law_well
  f__law_draw : FunA K mg "_law_draw" s__law_draw
  f__law_of : FunA K mg "_law_of" s__law_of
  f__law_is : FunA K mg "_law_is" s__law_is
  f__law_sum : FunA K mg "_law_sum" s__law_sum
  f__law_sums : FunA K mg "_law_sums" s__law_sums
  f__law_accrued : FunA K mg "_law_accrued" s__law_accrued
  f__law_refused : FunA K mg "_law_refused" s__law_refused
  f__law_wrong_right : FunA K mg "_law_wrong_right" s__law_wrong_right
  f__law_right : FunA K mg "_law_right" s__law_right
  f_law : FunA K mg "law" s_law
  c_InvalidNumber : ExA P w K mg base "InvalidNumber" "given"
  c_InvalidWay : ExA P w K mg base "InvalidWay" "given"
  x_InvalidNumber_InvalidNumber : PySem.W.exmOne K (.ref (He.ga K "InvalidNumber")) (.ref (He.ga K "InvalidNumber")) = some true
  x_InvalidNumber_InvalidWay : PySem.W.exmOne K (.ref (He.ga K "InvalidNumber")) (.ref (He.ga K "InvalidWay")) = some false
  x_InvalidWay_InvalidNumber : PySem.W.exmOne K (.ref (He.ga K "InvalidWay")) (.ref (He.ga K "InvalidNumber")) = some false
  x_InvalidWay_InvalidWay : PySem.W.exmOne K (.ref (He.ga K "InvalidWay")) (.ref (He.ga K "InvalidWay")) = some true
  isi : ∀ C ∈ isC K, TyC K C
  i_int_int : PySem.W.kitOne K (.type "int") (.type "int") = some true
  i_bool_int : PySem.W.kitOne K (.type "bool") (.type "int") = some true
  i_str_int : PySem.W.kitOne K (.type "str") (.type "int") = some false
  i_NoneType_int : PySem.W.kitOne K (.type "NoneType") (.type "int") = some false
  i_tuple_int : PySem.W.kitOne K (.type "tuple") (.type "int") = some false
  i_list_int : PySem.W.kitOne K (.type "list") (.type "int") = some false
  i_int_bool : PySem.W.kitOne K (.type "int") (.type "bool") = some false
  i_bool_bool : PySem.W.kitOne K (.type "bool") (.type "bool") = some true
  i_int_str : PySem.W.kitOne K (.type "int") (.type "str") = some false
  i_bool_str : PySem.W.kitOne K (.type "bool") (.type "str") = some false
  i_str_str : PySem.W.kitOne K (.type "str") (.type "str") = some true
  i_NoneType_str : PySem.W.kitOne K (.type "NoneType") (.type "str") = some false
  i_tuple_str : PySem.W.kitOne K (.type "tuple") (.type "str") = some false
  i_list_str : PySem.W.kitOne K (.type "list") (.type "str") = some false
  t__law_wrong_right : LamX.TabB base mg (codeA K (He.ga K "_law_wrong_right")) (tabP K (He.ga K "_law_wrong_right"))
  o__law_wrong_right : codeOf K (He.ga K "_law_wrong_right") = some (.ref (codeA K (He.ga K "_law_wrong_right")))
  tabs_u : ∀ p ∈ tabs K, ∀ q ∈ tabs K, p.1 = q.1 → p.2 = q.2
section
variable {P : Program} {w : World} {K : PySem.W.Frag} {mg : Str → Option Value} {base : Heap}
theorem sc_is_whole : FnScope ["value"] ["value"] (defScope s_is_whole) := ⟨rfl, rfl, rfl, by decide +kernel, rfl, by decide +kernel, by decide +kernel⟩
theorem b_is_whole (G : Gd P w K mg base) : Binds K (fdOf K (He.ga K "is_whole")) ["value"] [] := G.f_is_whole.f.binds fun _ _ _ _ _ _ us hl => match us, hl with | [_], _ => rfl
theorem sc_is_number : FnScope ["value", "low", "high"] ["value", "low", "high"] (defScope s_is_number) := ⟨rfl, rfl, rfl, by decide +kernel, rfl, by decide +kernel, by decide +kernel⟩
theorem b_is_number (G : Gd P w K mg base) : Binds K (fdOf K (He.ga K "is_number")) ["value", "low", "high"] [] := G.f_is_number.f.binds fun _ _ _ _ _ _ us hl => match us, hl with | [_, _, _], _ => rfl
theorem sc_is_one_of : FnScope ["value", "some"] ["value", "some"] (defScope s_is_one_of) := ⟨rfl, rfl, rfl, by decide +kernel, rfl, by decide +kernel, by decide +kernel⟩
theorem b_is_one_of (G : Gd P w K mg base) : Binds K (fdOf K (He.ga K "is_one_of")) ["value", "some"] [] := G.f_is_one_of.f.binds fun _ _ _ _ _ _ us hl => match us, hl with | [_, _], _ => rfl
theorem sc_check_number : FnScope ["value", "low", "high"] ["value", "low", "high"] (defScope s_check_number) := ⟨rfl, rfl, rfl, by decide +kernel, rfl, by decide +kernel, by decide +kernel⟩
theorem b_check_number (G : Gd P w K mg base) : Binds K (fdOf K (He.ga K "check_number")) ["value", "low", "high"] [] := G.f_check_number.f.binds fun _ _ _ _ _ _ us hl => match us, hl with | [_, _, _], _ => rfl
theorem sc_sum_behind : FnScope ["yearly", "parts", "way", "index", "here", "part"] ["yearly", "parts", "way", "index"] (defScope s_sum_behind) := ⟨rfl, rfl, rfl, by decide +kernel, rfl, by decide +kernel, by decide +kernel⟩
theorem b_sum_behind (G : Gd P w K mg base) : Binds K (fdOf K (He.ga K "sum_behind")) ["yearly", "parts", "way", "index"] [] := G.f_sum_behind.f.binds fun _ _ _ _ _ _ us hl => match us, hl with | [_, _, _, _], _ => rfl
theorem sc_sums_of : FnScope ["yearly", "parts", "way", "index"] ["yearly", "parts", "way"] (defScope s_sums_of) := ⟨rfl, rfl, rfl, by decide +kernel, rfl, by decide +kernel, by decide +kernel⟩
theorem b_sums_of (G : Gd P w K mg base) : Binds K (fdOf K (He.ga K "sums_of")) ["yearly", "parts", "way"] [] := G.f_sums_of.f.binds fun _ _ _ _ _ _ us hl => match us, hl with | [_, _, _], _ => rfl
theorem sc_parts_of : FnScope ["yearly", "parts", "way", "found", "ahead", "later"] ["yearly", "parts", "way"] (defScope s_parts_of) := ⟨rfl, rfl, rfl, by decide +kernel, rfl, by decide +kernel, by decide +kernel⟩
theorem b_parts_of (G : Gd P w K mg base) : Binds K (fdOf K (He.ga K "parts_of")) ["yearly", "parts", "way"] [] := G.f_parts_of.f.binds fun _ _ _ _ _ _ us hl => match us, hl with | [_, _, _], _ => rfl
theorem sc_check_way : FnScope ["value"] ["value"] (defScope s_check_way) := ⟨rfl, rfl, rfl, by decide +kernel, rfl, by decide +kernel, by decide +kernel⟩
theorem b_check_way (G : Gd P w K mg base) : Binds K (fdOf K (He.ga K "check_way")) ["value"] [] := G.f_check_way.f.binds fun _ _ _ _ _ _ us hl => match us, hl with | [_], _ => rfl
theorem sc_check_parted : FnScope ["yearly", "parts", "way"] ["yearly", "parts", "way"] (defScope s_check_parted) := ⟨rfl, rfl, rfl, by decide +kernel, rfl, by decide +kernel, by decide +kernel⟩
theorem b_check_parted (G : Gd P w K mg base) : Binds K (fdOf K (He.ga K "check_parted")) ["yearly", "parts", "way"] [] := G.f_check_parted.f.binds fun _ _ _ _ _ _ us hl => match us, hl with | [_, _, _], _ => rfl
theorem sc_accrued : FnScope ["yearly", "parts", "way"] ["yearly", "parts", "way"] (defScope s_accrued) := ⟨rfl, rfl, rfl, by decide +kernel, rfl, by decide +kernel, by decide +kernel⟩
theorem b_accrued (G : Gd P w K mg base) : Binds K (fdOf K (He.ga K "accrued")) ["yearly", "parts", "way"] [] := G.f_accrued.f.binds fun _ _ _ _ _ _ us hl => match us, hl with | [_, _, _], _ => rfl
theorem sc_sums : FnScope ["yearly", "parts", "way"] ["yearly", "parts", "way"] (defScope s_sums) := ⟨rfl, rfl, rfl, by decide +kernel, rfl, by decide +kernel, by decide +kernel⟩
theorem b_sums (G : Gd P w K mg base) : Binds K (fdOf K (He.ga K "sums")) ["yearly", "parts", "way"] [] := G.f_sums.f.binds fun _ _ _ _ _ _ us hl => match us, hl with | [_, _, _], _ => rfl
theorem sc_greatest_gap : FnScope ["yearly", "parts", "way", "way2", "one", "two", "first", "second"] ["yearly", "parts", "way", "way2"] (defScope s_greatest_gap) := ⟨rfl, rfl, rfl, by decide +kernel, rfl, by decide +kernel, by decide +kernel⟩
theorem b_greatest_gap (G : Gd P w K mg base) : Binds K (fdOf K (He.ga K "greatest_gap")) ["yearly", "parts", "way", "way2"] [] := G.f_greatest_gap.f.binds fun _ _ _ _ _ _ us hl => match us, hl with | [_, _, _, _], _ => rfl
theorem sc__law_well : FnScope ["script", "lap", "stirred", "cell", "own"] ["script", "lap"] (defScope s__law_well) := ⟨rfl, rfl, rfl, by decide +kernel, rfl, by decide +kernel, by decide +kernel⟩
theorem b__law_well (G : Gd P w K mg base) : Binds K (fdOf K (He.ga K "_law_well")) ["script", "lap"] [] := G.f__law_well.f.binds fun _ _ _ _ _ _ us hl => match us, hl with | [_, _], _ => rfl
theorem sc__law_draw : FnScope ["well", "limit", "mixed", "figure"] ["well", "limit"] (defScope s__law_draw) := ⟨rfl, rfl, rfl, by decide +kernel, rfl, by decide +kernel, by decide +kernel⟩
theorem b__law_draw (G : Gd P w K mg base) : Binds K (fdOf K (He.ga K "_law_draw")) ["well", "limit"] [] := G.f__law_draw.f.binds fun _ _ _ _ _ _ us hl => match us, hl with | [_, _], _ => rfl
theorem sc__law_of : FnScope ["well", "some"] ["well", "some"] (defScope s__law_of) := ⟨rfl, rfl, rfl, by decide +kernel, rfl, by decide +kernel, by decide +kernel⟩
theorem b__law_of (G : Gd P w K mg base) : Binds K (fdOf K (He.ga K "_law_of")) ["well", "some"] [] := G.f__law_of.f.binds fun _ _ _ _ _ _ us hl => match us, hl with | [_, _], _ => rfl
theorem sc__law_is : FnScope ["told", "due"] ["told", "due"] (defScope s__law_is) := ⟨rfl, rfl, rfl, by decide +kernel, rfl, by decide +kernel, by decide +kernel⟩
theorem b__law_is (G : Gd P w K mg base) : Binds K (fdOf K (He.ga K "_law_is")) ["told", "due"] [] := G.f__law_is.f.binds fun _ _ _ _ _ _ us hl => match us, hl with | [_, _], _ => rfl
theorem sc__law_sum : FnScope ["yearly", "parts", "way", "index", "plain", "rest"] ["yearly", "parts", "way", "index"] (defScope s__law_sum) := ⟨rfl, rfl, rfl, by decide +kernel, rfl, by decide +kernel, by decide +kernel⟩
theorem b__law_sum (G : Gd P w K mg base) : Binds K (fdOf K (He.ga K "_law_sum")) ["yearly", "parts", "way", "index"] [] := G.f__law_sum.f.binds fun _ _ _ _ _ _ us hl => match us, hl with | [_, _, _, _], _ => rfl
theorem sc__law_sums : FnScope ["yearly", "parts", "way", "index"] ["yearly", "parts", "way"] (defScope s__law_sums) := ⟨rfl, rfl, rfl, by decide +kernel, rfl, by decide +kernel, by decide +kernel⟩
theorem b__law_sums (G : Gd P w K mg base) : Binds K (fdOf K (He.ga K "_law_sums")) ["yearly", "parts", "way"] [] := G.f__law_sums.f.binds fun _ _ _ _ _ _ us hl => match us, hl with | [_, _, _], _ => rfl
theorem sc__law_accrued : FnScope ["yearly", "parts", "way", "found", "at"] ["yearly", "parts", "way"] (defScope s__law_accrued) := ⟨rfl, rfl, rfl, by decide +kernel, rfl, by decide +kernel, by decide +kernel⟩
theorem b__law_accrued (G : Gd P w K mg base) : Binds K (fdOf K (He.ga K "_law_accrued")) ["yearly", "parts", "way"] [] := G.f__law_accrued.f.binds fun _ _ _ _ _ _ us hl => match us, hl with | [_, _, _], _ => rfl
theorem sc__law_refused : FnScope ["act", "e"] ["act"] (defScope s__law_refused) := ⟨rfl, rfl, rfl, by decide +kernel, rfl, by decide +kernel, by decide +kernel⟩
theorem b__law_refused (G : Gd P w K mg base) : Binds K (fdOf K (He.ga K "_law_refused")) ["act"] [] := G.f__law_refused.f.binds fun _ _ _ _ _ _ us hl => match us, hl with | [_], _ => rfl
theorem sc__law_wrong_right : FnScope ["well", "yearly", "parts", "way", "bad", "had", "due", "one", "two"] ["well", "yearly", "parts", "way"] (defScope s__law_wrong_right) := ⟨rfl, rfl, rfl, by decide +kernel, rfl, by decide +kernel, by decide +kernel⟩
theorem b__law_wrong_right (G : Gd P w K mg base) : Binds K (fdOf K (He.ga K "_law_wrong_right")) ["well", "yearly", "parts", "way"] [] := G.f__law_wrong_right.f.binds fun _ _ _ _ _ _ us hl => match us, hl with | [_, _, _, _], _ => rfl
theorem sc__law_right : FnScope ["well", "ways", "turn", "rows", "way", "one", "yearly", "parts", "had", "two", "down", "near", "up", "row", "due", "gap", "a", "b"] ["well"] (defScope s__law_right) := ⟨rfl, rfl, rfl, by decide +kernel, rfl, by decide +kernel, by decide +kernel⟩
theorem b__law_right (G : Gd P w K mg base) : Binds K (fdOf K (He.ga K "_law_right")) ["well"] [] := G.f__law_right.f.binds fun _ _ _ _ _ _ us hl => match us, hl with | [_], _ => rfl
theorem sc_law : FnScope ["script", "lap"] ["script"] (defScope s_law) := ⟨rfl, rfl, rfl, by decide +kernel, rfl, by decide +kernel, by decide +kernel⟩
theorem b_law (G : Gd P w K mg base) : Binds K (fdOf K (He.ga K "law")) ["script"] [] := G.f_law.f.binds fun _ _ _ _ _ _ us hl => match us, hl with | [_], _ => rfl
theorem bk_accrued_0_way_parts_yearly (G : Gd P w K mg base) : BindD K (fdOf K (He.ga K "accrued")) ["yearly", "parts", "way"] ["way", "parts", "yearly"] 0 [2, 1, 0] := BindD.of G.f_accrued.f fun _ _ _ _ _ _ us ws h1 h2 => match us, ws, h1, h2 with | [], [_, _, _], _, _ => rfl
theorem bk_sums_0_way_parts_yearly (G : Gd P w K mg base) : BindD K (fdOf K (He.ga K "sums")) ["yearly", "parts", "way"] ["way", "parts", "yearly"] 0 [2, 1, 0] := BindD.of G.f_sums.f fun _ _ _ _ _ _ us ws h1 h2 => match us, ws, h1, h2 with | [], [_, _, _], _, _ => rfl
theorem bk_greatest_gap_0_way2_way_parts_yearly (G : Gd P w K mg base) : BindD K (fdOf K (He.ga K "greatest_gap")) ["yearly", "parts", "way", "way2"] ["way2", "way", "parts", "yearly"] 0 [3, 2, 1, 0] := BindD.of G.f_greatest_gap.f fun _ _ _ _ _ _ us ws h1 h2 => match us, ws, h1, h2 with | [], [_, _, _, _], _, _ => rfl
theorem w_is_whole (G : Gd P w K mg base) : FnD P w K mg base (tabs K) 3 (He.ga K "is_whole") (fdOf K (He.ga K "is_whole")) ["value"] (mf_is_whole K) := by
  refine FnD.of (m := m_is_whole K) G.f_is_whole.f sc_is_whole rfl rfl leaves_leave fun T cdv A outer s H E X hT hcd hX hr hgd tk hp => ?_
  subst hX
  obtain ⟨tb, ths, tvs⟩ := T
  obtain rfl : tb = tabs K := hT
  have hu := huOf hr
  have hN := sc_is_whole.nd
  have hc : (cxOf (L2.CX P w) P w K mg base ["value"] "is_whole" (defScope s_is_whole) (He.ga K "is_whole") cdv A outer s H E).calm = true := rfl
  exact db_one (ds_ret (de_and (de_isi G.isi G.n_isinstance (da_cons (de_v 0) (da_cons (de_ty G.n_int bv_int) (da_nil)))) (de_one (de_not (de_isi G.isi G.n_isinstance (da_cons (de_v 0) (da_cons (de_ty G.n_bool bv_bool) (da_nil))))))))
theorem w_is_number (G : Gd P w K mg base) : FnD P w K mg base (tabs K) 4 (He.ga K "is_number") (fdOf K (He.ga K "is_number")) ["value", "low", "high"] (mf_is_number K) := by
  refine FnD.of (m := m_is_number K) G.f_is_number.f sc_is_number rfl rfl leaves_leave fun T cdv A outer s H E X hT hcd hX hr hgd tk hp => ?_
  subst hX
  obtain ⟨tb, ths, tvs⟩ := T
  obtain rfl : tb = tabs K := hT
  have hu := huOf hr
  have hN := sc_is_number.nd
  have hc : (cxOf (L2.CX P w) P w K mg base ["value", "low", "high"] "is_number" (defScope s_is_number) (He.ga K "is_number") cdv A outer s H E).calm = true := rfl
  exact db_cons (ds_if ((dw_or (dt_not (dt_val (de_call (w_is_whole G) (hr.mono (by decide)) hgd tk (by rfl) G.f_is_whole.m G.f_is_whole.f.kp (b_is_whole G) (da_cons (de_v 0) (da_nil))))) (dw_or1 ((dw_and (dt_notN (de_v 1) (de_non)) (dw_and1 (dt_lt (de_v 0) (de_v 1)))).dt))).dt) (db_one (ds_ret (de_bl))) (db_nil)) (
    db_one (ds_ret (de_or (de_isN (de_v 2) (de_non)) (de_one (de_le (de_v 0) (de_v 2))))))
theorem w_is_one_of (G : Gd P w K mg base) : FnD P w K mg base (tabs K) 3 (He.ga K "is_one_of") (fdOf K (He.ga K "is_one_of")) ["value", "some"] (mf_is_one_of K) := by
  refine FnD.of (m := m_is_one_of K) G.f_is_one_of.f sc_is_one_of rfl rfl leaves_leave fun T cdv A outer s H E X hT hcd hX hr hgd tk hp => ?_
  subst hX
  obtain ⟨tb, ths, tvs⟩ := T
  obtain rfl : tb = tabs K := hT
  have hu := huOf hr
  have hN := sc_is_one_of.nd
  have hc : (cxOf (L2.CX P w) P w K mg base ["value", "some"] "is_one_of" (defScope s_is_one_of) (He.ga K "is_one_of") cdv A outer s H E).calm = true := rfl
  exact db_one (ds_ret (de_and (de_isi G.isi G.n_isinstance (da_cons (de_v 0) (da_cons (de_ty G.n_str bv_str) (da_nil)))) (de_one (de_in (de_v 0) (de_v 1)))))
theorem w_check_number (G : Gd P w K mg base) : FnD P w K mg base (tabs K) 5 (He.ga K "check_number") (fdOf K (He.ga K "check_number")) ["value", "low", "high"] (mf_check_number K) := by
  refine FnD.of (m := m_check_number K) G.f_check_number.f sc_check_number rfl rfl leaves_leave fun T cdv A outer s H E X hT hcd hX hr hgd tk hp => ?_
  subst hX
  obtain ⟨tb, ths, tvs⟩ := T
  obtain rfl : tb = tabs K := hT
  have hu := huOf hr
  have hN := sc_check_number.nd
  have hc : (cxOf (L2.CX P w) P w K mg base ["value", "low", "high"] "check_number" (defScope s_check_number) (He.ga K "check_number") cdv A outer s H E).calm = true := rfl
  exact db_one (ds_if (dt_not (dt_val (de_call (w_is_number G) (hr.mono (by decide)) hgd tk (by rfl) G.f_is_number.m G.f_is_number.f.kp (b_is_number G) (da_cons (de_v 0) (da_cons (de_v 1) (da_cons (de_v 2) (da_nil))))))) (db_one (ds_raise G.c_InvalidNumber.e (hr.mono (by decide)) hc tk (by rfl) (de_v 0))) (db_nil))
theorem w_sum_behind (G : Gd P w K mg base) : FnD P w K mg base (tabs K) 3 (He.ga K "sum_behind") (fdOf K (He.ga K "sum_behind")) ["yearly", "parts", "way", "index"] (mf_sum_behind K) := by
  refine FnD.of (m := m_sum_behind K) G.f_sum_behind.f sc_sum_behind rfl rfl leaves_leave fun T cdv A outer s H E X hT hcd hX hr hgd tk hp => ?_
  subst hX
  obtain ⟨tb, ths, tvs⟩ := T
  obtain rfl : tb = tabs K := hT
  have hu := huOf hr
  have hN := sc_sum_behind.nd
  have hc : (cxOf (L2.CX P w) P w K mg base ["yearly", "parts", "way", "index", "here", "part"] "sum_behind" (defScope s_sum_behind) (He.ga K "sum_behind") cdv A outer s H E).calm = true := rfl
  exact db_cons (ds_set 4 hN (de_mul (de_v 3) (de_v 0))) (
    db_cons (ds_if (dt_eq hu (de_v 2) (de_gstr G.v_DOWN)) (db_one (ds_ret (de_div (de_v 4) (de_v 1)))) (db_nil)) (
    db_cons (ds_if (dt_eq hu (de_v 2) (de_gstr G.v_NEAR)) (db_one (ds_ret (de_div (de_add (de_mul (de_int) (de_v 4)) (de_v 1)) (de_mul (de_int) (de_v 1))))) (db_nil)) (
    db_cons (ds_if (dt_eq hu (de_v 2) (de_gstr G.v_UP)) (db_one (ds_ret (de_sub (de_int) (de_div (de_sub (de_int) (de_v 4)) (de_v 1))))) (db_nil)) (
    db_cons (ds_set 5 hN (de_div (de_v 0) (de_v 1))) (
    db_cons (ds_if ((dw_or (dt_eq hu (de_v 2) (de_gstr G.v_FIRST)) (dw_or1 (dt_eq hu (de_v 3) (de_v 1)))).dt) (db_one (ds_ret (de_sub (de_add (de_mul (de_v 3) (de_v 5)) (de_v 0)) (de_mul (de_v 1) (de_v 5))))) (db_nil)) (
    db_one (ds_ret (de_mul (de_v 3) (de_v 5)))))))))
theorem w_sums_of (G : Gd P w K mg base) : FnD P w K mg base (tabs K) 4 (He.ga K "sums_of") (fdOf K (He.ga K "sums_of")) ["yearly", "parts", "way"] (mf_sums_of K) := by
  refine FnD.of (m := m_sums_of K) G.f_sums_of.f sc_sums_of rfl rfl leaves_leave fun T cdv A outer s H E X hT hcd hX hr hgd tk hp => ?_
  subst hX
  obtain ⟨tb, ths, tvs⟩ := T
  obtain rfl : tb = tabs K := hT
  have hu := huOf hr
  have hN := sc_sums_of.nd
  have hc : (cxOf (L2.CX P w) P w K mg base ["yearly", "parts", "way", "index"] "sums_of" (defScope s_sums_of) (He.ga K "sums_of") cdv A outer s H E).calm = true := rfl
  exact db_one (ds_ret (de_lc hc hN (di_range2 (by rfl) G.n_range (da_cons (de_int) (da_cons (de_add (de_v 1) (de_int)) (da_nil)))) (own := [("index", 3)]) (blkOk_by (N := ["yearly", "parts", "way", "index"]) (sc := defScope s_sums_of) (by decide +kernel)) (by decide) (fun s H C cl fp => dn_name 3 hN) (fun s H C cl fp => dts_nil) (fun s H C cl fp => de_call (w_sum_behind G) (hr.mono (by decide)) hgd takes_none5 (by rfl) G.f_sum_behind.m G.f_sum_behind.f.kp (b_sum_behind G) (da_cons (de_v 0) (da_cons (de_v 1) (da_cons (de_v 2) (da_cons (de_v 3) (da_nil))))))))
theorem w_parts_of (G : Gd P w K mg base) : FnD P w K mg base (tabs K) 5 (He.ga K "parts_of") (fdOf K (He.ga K "parts_of")) ["yearly", "parts", "way"] (mf_parts_of K) := by
  refine FnD.of (m := m_parts_of K) G.f_parts_of.f sc_parts_of rfl rfl leaves_leave fun T cdv A outer s H E X hT hcd hX hr hgd tk hp => ?_
  subst hX
  obtain ⟨tb, ths, tvs⟩ := T
  obtain rfl : tb = tabs K := hT
  have hu := huOf hr
  have hN := sc_parts_of.nd
  have hc : (cxOf (L2.CX P w) P w K mg base ["yearly", "parts", "way", "found", "ahead", "later"] "parts_of" (defScope s_parts_of) (He.ga K "parts_of") cdv A outer s H E).calm = true := rfl
  exact db_cons (ds_set 3 hN (de_call (w_sums_of G) (hr.mono (by decide)) hgd tk (by rfl) G.f_sums_of.m G.f_sums_of.f.kp (b_sums_of G) (da_cons (de_v 0) (da_cons (de_v 1) (da_cons (de_v 2) (da_nil)))))) (
    db_one (ds_ret (de_lc hc hN (di_zip (by rfl) G.n_zip (da_cons (de_lst (da_cons (de_int) (da_star (de_v 3) (da_nil)))) (da_cons (de_v 3) (da_nil)))) (own := [("ahead", 4), ("later", 5)]) (blkOk_by (N := ["yearly", "parts", "way", "found", "ahead", "later"]) (sc := defScope s_parts_of) (by decide +kernel)) (by decide) (fun s H C cl fp => dn_tup hc (dns_cons (dn_name 4 hN) (dns_cons (dn_name 5 hN) (dns_nil)))) (fun s H C cl fp => dts_nil) (fun s H C cl fp => de_sub (de_v 5) (de_v 4)))))
theorem w_check_way (G : Gd P w K mg base) : FnD P w K mg base (tabs K) 4 (He.ga K "check_way") (fdOf K (He.ga K "check_way")) ["value"] (mf_check_way K) := by
  refine FnD.of (m := m_check_way K) G.f_check_way.f sc_check_way rfl rfl leaves_leave fun T cdv A outer s H E X hT hcd hX hr hgd tk hp => ?_
  subst hX
  obtain ⟨tb, ths, tvs⟩ := T
  obtain rfl : tb = tabs K := hT
  have hu := huOf hr
  have hN := sc_check_way.nd
  have hc : (cxOf (L2.CX P w) P w K mg base ["value"] "check_way" (defScope s_check_way) (He.ga K "check_way") cdv A outer s H E).calm = true := rfl
  exact db_one (ds_if (dt_not (dt_val (de_call (w_is_one_of G) (hr.mono (by decide)) hgd tk (by rfl) G.f_is_one_of.m G.f_is_one_of.f.kp (b_is_one_of G) (da_cons (de_v 0) (da_cons (de_gtup (vs := dv_WAYS) G.v_WAYS) (da_nil)))))) (db_one (ds_raise G.c_InvalidWay.e (hr.mono (by decide)) hc tk (by rfl) (de_v 0))) (db_nil))
theorem w_check_parted (G : Gd P w K mg base) : FnD P w K mg base (tabs K) 6 (He.ga K "check_parted") (fdOf K (He.ga K "check_parted")) ["yearly", "parts", "way"] (mf_check_parted K) := by
  refine FnD.of (m := m_check_parted K) G.f_check_parted.f sc_check_parted rfl rfl leaves_leave fun T cdv A outer s H E X hT hcd hX hr hgd tk hp => ?_
  subst hX
  obtain ⟨tb, ths, tvs⟩ := T
  obtain rfl : tb = tabs K := hT
  have hu := huOf hr
  have hN := sc_check_parted.nd
  have hc : (cxOf (L2.CX P w) P w K mg base ["yearly", "parts", "way"] "check_parted" (defScope s_check_parted) (He.ga K "check_parted") cdv A outer s H E).calm = true := rfl
  exact db_cons (ds_expr (de_call (w_check_number G) (hr.mono (by decide)) hgd tk (by rfl) G.f_check_number.m G.f_check_number.f.kp (b_check_number G) (da_cons (de_v 0) (da_cons (de_int) (da_cons (de_gint G.v_MOST_UNITS) (da_nil)))))) (
    db_cons (ds_expr (de_call (w_check_number G) (hr.mono (by decide)) hgd tk (by rfl) G.f_check_number.m G.f_check_number.f.kp (b_check_number G) (da_cons (de_v 1) (da_cons (de_int) (da_cons (de_gint G.v_MOST_PARTS) (da_nil)))))) (
    db_one (ds_expr (de_call (w_check_way G) (hr.mono (by decide)) hgd tk (by rfl) G.f_check_way.m G.f_check_way.f.kp (b_check_way G) (da_cons (de_v 2) (da_nil))))))
theorem w_accrued (G : Gd P w K mg base) : FnD P w K mg base (tabs K) 7 (He.ga K "accrued") (fdOf K (He.ga K "accrued")) ["yearly", "parts", "way"] (mf_accrued K) := by
  refine FnD.of (m := m_accrued K) G.f_accrued.f sc_accrued rfl rfl leaves_leave fun T cdv A outer s H E X hT hcd hX hr hgd tk hp => ?_
  subst hX
  obtain ⟨tb, ths, tvs⟩ := T
  obtain rfl : tb = tabs K := hT
  have hu := huOf hr
  have hN := sc_accrued.nd
  have hc : (cxOf (L2.CX P w) P w K mg base ["yearly", "parts", "way"] "accrued" (defScope s_accrued) (He.ga K "accrued") cdv A outer s H E).calm = true := rfl
  exact db_cons (ds_expr (de_call (w_check_parted G) (hr.mono (by decide)) hgd tk (by rfl) G.f_check_parted.m G.f_check_parted.f.kp (b_check_parted G) (da_cons (de_v 0) (da_cons (de_v 1) (da_cons (de_v 2) (da_nil)))))) (
    db_one (ds_ret (de_tuple G.n_tuple (da_cons (de_call (w_parts_of G) (hr.mono (by decide)) hgd tk (by rfl) G.f_parts_of.m G.f_parts_of.f.kp (b_parts_of G) (da_cons (de_v 0) (da_cons (de_v 1) (da_cons (de_v 2) (da_nil))))) (da_nil)))))
theorem w_sums (G : Gd P w K mg base) : FnD P w K mg base (tabs K) 7 (He.ga K "sums") (fdOf K (He.ga K "sums")) ["yearly", "parts", "way"] (mf_sums K) := by
  refine FnD.of (m := m_sums K) G.f_sums.f sc_sums rfl rfl leaves_leave fun T cdv A outer s H E X hT hcd hX hr hgd tk hp => ?_
  subst hX
  obtain ⟨tb, ths, tvs⟩ := T
  obtain rfl : tb = tabs K := hT
  have hu := huOf hr
  have hN := sc_sums.nd
  have hc : (cxOf (L2.CX P w) P w K mg base ["yearly", "parts", "way"] "sums" (defScope s_sums) (He.ga K "sums") cdv A outer s H E).calm = true := rfl
  exact db_cons (ds_expr (de_call (w_check_parted G) (hr.mono (by decide)) hgd tk (by rfl) G.f_check_parted.m G.f_check_parted.f.kp (b_check_parted G) (da_cons (de_v 0) (da_cons (de_v 1) (da_cons (de_v 2) (da_nil)))))) (
    db_one (ds_ret (de_tuple G.n_tuple (da_cons (de_call (w_sums_of G) (hr.mono (by decide)) hgd tk (by rfl) G.f_sums_of.m G.f_sums_of.f.kp (b_sums_of G) (da_cons (de_v 0) (da_cons (de_v 1) (da_cons (de_v 2) (da_nil))))) (da_nil)))))
theorem w_greatest_gap (G : Gd P w K mg base) : FnD P w K mg base (tabs K) 7 (He.ga K "greatest_gap") (fdOf K (He.ga K "greatest_gap")) ["yearly", "parts", "way", "way2"] (mf_greatest_gap K) := by
  refine FnD.of (m := m_greatest_gap K) G.f_greatest_gap.f sc_greatest_gap rfl rfl leaves_leave fun T cdv A outer s H E X hT hcd hX hr hgd tk hp => ?_
  subst hX
  obtain ⟨tb, ths, tvs⟩ := T
  obtain rfl : tb = tabs K := hT
  have hu := huOf hr
  have hN := sc_greatest_gap.nd
  have hc : (cxOf (L2.CX P w) P w K mg base ["yearly", "parts", "way", "way2", "one", "two", "first", "second"] "greatest_gap" (defScope s_greatest_gap) (He.ga K "greatest_gap") cdv A outer s H E).calm = true := rfl
  exact db_cons (ds_expr (de_call (w_check_parted G) (hr.mono (by decide)) hgd tk (by rfl) G.f_check_parted.m G.f_check_parted.f.kp (b_check_parted G) (da_cons (de_v 0) (da_cons (de_v 1) (da_cons (de_v 2) (da_nil)))))) (
    db_cons (ds_expr (de_call (w_check_way G) (hr.mono (by decide)) hgd tk (by rfl) G.f_check_way.m G.f_check_way.f.kp (b_check_way G) (da_cons (de_v 3) (da_nil)))) (
    db_cons (ds_par (i := 4) (j := 5) hc hN (da_cons (de_call (w_sums_of G) (hr.mono (by decide)) hgd tk (by rfl) G.f_sums_of.m G.f_sums_of.f.kp (b_sums_of G) (da_cons (de_v 0) (da_cons (de_v 1) (da_cons (de_v 2) (da_nil))))) (da_cons (de_call (w_sums_of G) (hr.mono (by decide)) hgd tk (by rfl) G.f_sums_of.m G.f_sums_of.f.kp (b_sums_of G) (da_cons (de_v 0) (da_cons (de_v 1) (da_cons (de_v 3) (da_nil))))) (da_nil)))) (
    db_one (ds_ret (de_max hc hu G.n_max (da_cons (de_lc hc hN (di_zip (by rfl) G.n_zip (da_cons (de_v 4) (da_cons (de_v 5) (da_nil)))) (own := [("first", 6), ("second", 7)]) (blkOk_by (N := ["yearly", "parts", "way", "way2", "one", "two", "first", "second"]) (sc := defScope s_greatest_gap) (by decide +kernel)) (by decide) (fun s H C cl fp => dn_tup hc (dns_cons (dn_name 6 hN) (dns_cons (dn_name 7 hN) (dns_nil)))) (fun s H C cl fp => dts_nil) (fun s H C cl fp => de_sub (de_v 6) (de_v 7))) (da_nil)))))))
theorem w__law_well (G : Gd P w K mg base) : FnD P w K mg base (tabs K) 3 (He.ga K "_law_well") (fdOf K (He.ga K "_law_well")) ["script", "lap"] (mf__law_well K) := by
  refine FnD.of (m := m__law_well K) G.f__law_well.f sc__law_well rfl rfl leaves_leaveN fun T cdv A outer s H E X hT hcd hX hr hgd tk hp => ?_
  subst hX
  obtain ⟨tb, ths, tvs⟩ := T
  obtain rfl : tb = tabs K := hT
  have hu := huOf hr
  have hN := sc__law_well.nd
  have hc : (cxOf (L2.CX P w) P w K mg base ["script", "lap", "stirred", "cell", "own"] "_law_well" (defScope s__law_well) (He.ga K "_law_well") cdv A outer s H E).calm = true := rfl
  exact db_cons (ds_set 2 hN (de_add (de_int) (de_mul (de_int) (de_v 1)))) (
    db_cons (ds_for hp hc (di_seq (de_cut (de_v 0) (do_none) (do_some (de_int)))) (dn_name 3 hN) (db_one (ds_set 2 hN (de_mod (de_intc G.n_int (da_cons (de_add (de_add (de_mul (de_v 2) (de_int)) (de_mod (de_intc G.n_int (da_cons (de_v 3) (da_nil))) (de_int))) (de_int)) (da_nil))) (de_int))))) (
    db_cons (ds_set 4 hN (de_if (dt_lt (de_v 1) (de_len G.n_len (da_cons (de_v 0) (da_nil)))) (de_intc G.n_int (da_cons (de_ix (de_v 0) (de_v 1)) (da_nil))) (de_int))) (
    db_cons (ds_set 2 hN (de_mod (de_intc G.n_int (da_cons (de_add (de_add (de_mul (de_v 2) (de_int)) (de_mul (de_mod (de_intc G.n_int (da_cons (de_v 4) (da_nil))) (de_int)) (de_int))) (de_int)) (da_nil))) (de_int))) (
    db_one (ds_ret (de_lstN (da_cons (de_if ((dw_or (dt_lt (de_v 4) (de_int)) (dw_or1 (dt_ge (de_v 4) (de_pow (de_int) (de_int))))).dt) (de_abs G.n_abs (da_cons (de_v 4) (da_nil))) (de_int)) (da_cons (de_v 2) (da_cons (de_int) (da_nil))))))))))
theorem w__law_draw (G : Gd P w K mg base) : FnD P w K mg base (tabs K) 3 (He.ga K "_law_draw") (fdOf K (He.ga K "_law_draw")) ["well", "limit"] (mf__law_draw K) := by
  refine FnD.of (m := m__law_draw K) G.f__law_draw.f sc__law_draw rfl rfl leaves_leave fun T cdv A outer s H E X hT hcd hX hr hgd tk hp => ?_
  subst hX
  obtain ⟨tb, ths, tvs⟩ := T
  obtain rfl : tb = tabs K := hT
  have hu := huOf hr
  have hN := sc__law_draw.nd
  have hc : (cxOf (L2.CX P w) P w K mg base ["well", "limit", "mixed", "figure"] "_law_draw" (defScope s__law_draw) (He.ga K "_law_draw") cdv A outer s H E).calm = true := rfl
  exact db_cons (ds_if (dt_gt (de_ix (de_v 0) (de_int)) (de_int)) (db_cons (ds_asg (de_divmod G.n_divmod (da_cons (de_ix (de_v 0) (de_int)) (da_cons (de_v 1) (da_nil)))) (dg_tup hc (dgs_cons (dg_sub (de_v 0) (de_int)) (dgs_cons (dg_name 3 hN) (dgs_nil))))) (
    db_one (ds_ret (de_v 3)))) (db_nil)) (
    db_cons (ds_asg (de_add (de_ix (de_v 0) (de_int)) (de_int)) (dg_sub (de_v 0) (de_int))) (
    db_cons (ds_set 2 hN (de_mod (de_intc G.n_int (da_cons (de_add (de_mul (de_ix (de_v 0) (de_int)) (de_int)) (de_mul (de_int) (de_ix (de_v 0) (de_int)))) (da_nil))) (de_int))) (
    db_cons (ds_asg (de_mod (de_intc G.n_int (da_cons (de_add (de_mul (de_v 2) (de_add (de_mod (de_intc G.n_int (da_cons (de_v 2) (da_nil))) (de_int)) (de_int))) (de_ix (de_v 0) (de_int))) (da_nil))) (de_int)) (dg_sub (de_v 0) (de_int))) (
    db_one (ds_ret (de_mod (de_intc G.n_int (da_cons (de_div (de_ix (de_v 0) (de_int)) (de_int)) (da_nil))) (de_v 1)))))))
theorem w__law_of (G : Gd P w K mg base) : FnD P w K mg base (tabs K) 4 (He.ga K "_law_of") (fdOf K (He.ga K "_law_of")) ["well", "some"] (mf__law_of K) := by
  refine FnD.of (m := m__law_of K) G.f__law_of.f sc__law_of rfl rfl leaves_leave fun T cdv A outer s H E X hT hcd hX hr hgd tk hp => ?_
  subst hX
  obtain ⟨tb, ths, tvs⟩ := T
  obtain rfl : tb = tabs K := hT
  have hu := huOf hr
  have hN := sc__law_of.nd
  have hc : (cxOf (L2.CX P w) P w K mg base ["well", "some"] "_law_of" (defScope s__law_of) (He.ga K "_law_of") cdv A outer s H E).calm = true := rfl
  exact db_one (ds_ret (de_ix (de_v 1) (de_call (w__law_draw G) (hr.mono (by decide)) hgd tk (by rfl) G.f__law_draw.m G.f__law_draw.f.kp (b__law_draw G) (da_cons (de_v 0) (da_cons (de_len G.n_len (da_cons (de_v 1) (da_nil))) (da_nil))))))
theorem w__law_is (G : Gd P w K mg base) : FnD P w K mg base (tabs K) 3 (He.ga K "_law_is") (fdOf K (He.ga K "_law_is")) ["told", "due"] (mf__law_is K) := by
  refine FnD.of (m := m__law_is K) G.f__law_is.f sc__law_is rfl rfl leaves_leave fun T cdv A outer s H E X hT hcd hX hr hgd tk hp => ?_
  subst hX
  obtain ⟨tb, ths, tvs⟩ := T
  obtain rfl : tb = tabs K := hT
  have hu := huOf hr
  have hN := sc__law_is.nd
  have hc : (cxOf (L2.CX P w) P w K mg base ["told", "due"] "_law_is" (defScope s__law_is) (He.ga K "_law_is") cdv A outer s H E).calm = true := rfl
  exact db_one (ds_ret (de_eq hu (de_repr hgd hu G.n_repr (da_cons (de_v 0) (da_nil))) (de_repr hgd hu G.n_repr (da_cons (de_v 1) (da_nil)))))
theorem w__law_sum (G : Gd P w K mg base) : FnD P w K mg base (tabs K) 3 (He.ga K "_law_sum") (fdOf K (He.ga K "_law_sum")) ["yearly", "parts", "way", "index"] (mf__law_sum K) := by
  refine FnD.of (m := m__law_sum K) G.f__law_sum.f sc__law_sum rfl rfl leaves_leave fun T cdv A outer s H E X hT hcd hX hr hgd tk hp => ?_
  subst hX
  obtain ⟨tb, ths, tvs⟩ := T
  obtain rfl : tb = tabs K := hT
  have hu := huOf hr
  have hN := sc__law_sum.nd
  have hc : (cxOf (L2.CX P w) P w K mg base ["yearly", "parts", "way", "index", "plain", "rest"] "_law_sum" (defScope s__law_sum) (He.ga K "_law_sum") cdv A outer s H E).calm = true := rfl
  exact db_cons (ds_if (dt_eq hu (de_v 2) (de_str)) (db_one (ds_ret (de_div (de_mul (de_v 3) (de_v 0)) (de_v 1)))) (db_nil)) (
    db_cons (ds_if (dt_eq hu (de_v 2) (de_str)) (db_one (ds_ret (de_sub (de_int) (de_div (de_sub (de_int) (de_mul (de_v 3) (de_v 0))) (de_v 1))))) (db_nil)) (
    db_cons (ds_if (dt_eq hu (de_v 2) (de_str)) (db_one (ds_ret (de_div (de_add (de_mul (de_mul (de_int) (de_v 3)) (de_v 0)) (de_v 1)) (de_mul (de_int) (de_v 1))))) (db_nil)) (
    db_cons (ds_par (i := 4) (j := 5) hc hN (da_cons (de_div (de_v 0) (de_v 1)) (da_cons (de_sub (de_v 0) (de_mul (de_v 1) (de_div (de_v 0) (de_v 1)))) (da_nil)))) (
    db_one (ds_ret (de_add (de_mul (de_v 3) (de_v 4)) (de_if ((dw_or ((dw_and (dt_eq hu (de_v 2) (de_str)) (dw_and1 (dt_gt (de_v 3) (de_int)))).dt) (dw_or1 ((dw_and (dt_eq hu (de_v 2) (de_str)) (dw_and1 (dt_eq hu (de_v 3) (de_v 1)))).dt))).dt) (de_v 5) (de_int))))))))
theorem w__law_sums (G : Gd P w K mg base) : FnD P w K mg base (tabs K) 4 (He.ga K "_law_sums") (fdOf K (He.ga K "_law_sums")) ["yearly", "parts", "way"] (mf__law_sums K) := by
  refine FnD.of (m := m__law_sums K) G.f__law_sums.f sc__law_sums rfl rfl leaves_leave fun T cdv A outer s H E X hT hcd hX hr hgd tk hp => ?_
  subst hX
  obtain ⟨tb, ths, tvs⟩ := T
  obtain rfl : tb = tabs K := hT
  have hu := huOf hr
  have hN := sc__law_sums.nd
  have hc : (cxOf (L2.CX P w) P w K mg base ["yearly", "parts", "way", "index"] "_law_sums" (defScope s__law_sums) (He.ga K "_law_sums") cdv A outer s H E).calm = true := rfl
  exact db_one (ds_ret (de_lc hc hN (di_range2 (by rfl) G.n_range (da_cons (de_int) (da_cons (de_add (de_v 1) (de_int)) (da_nil)))) (own := [("index", 3)]) (blkOk_by (N := ["yearly", "parts", "way", "index"]) (sc := defScope s__law_sums) (by decide +kernel)) (by decide) (fun s H C cl fp => dn_name 3 hN) (fun s H C cl fp => dts_nil) (fun s H C cl fp => de_call (w__law_sum G) (hr.mono (by decide)) hgd takes_none5 (by rfl) G.f__law_sum.m G.f__law_sum.f.kp (b__law_sum G) (da_cons (de_v 0) (da_cons (de_v 1) (da_cons (de_v 2) (da_cons (de_v 3) (da_nil))))))))
theorem w__law_accrued (G : Gd P w K mg base) : FnD P w K mg base (tabs K) 5 (He.ga K "_law_accrued") (fdOf K (He.ga K "_law_accrued")) ["yearly", "parts", "way"] (mf__law_accrued K) := by
  refine FnD.of (m := m__law_accrued K) G.f__law_accrued.f sc__law_accrued rfl rfl leaves_leave fun T cdv A outer s H E X hT hcd hX hr hgd tk hp => ?_
  subst hX
  obtain ⟨tb, ths, tvs⟩ := T
  obtain rfl : tb = tabs K := hT
  have hu := huOf hr
  have hN := sc__law_accrued.nd
  have hc : (cxOf (L2.CX P w) P w K mg base ["yearly", "parts", "way", "found", "at"] "_law_accrued" (defScope s__law_accrued) (He.ga K "_law_accrued") cdv A outer s H E).calm = true := rfl
  exact db_cons (ds_set 3 hN (de_add (de_lst (da_cons (de_int) (da_nil))) (de_call (w__law_sums G) (hr.mono (by decide)) hgd tk (by rfl) G.f__law_sums.m G.f__law_sums.f.kp (b__law_sums G) (da_cons (de_v 0) (da_cons (de_v 1) (da_cons (de_v 2) (da_nil))))))) (
    db_one (ds_ret (de_lc hc hN (di_range1 (by rfl) G.n_range (da_cons (de_v 1) (da_nil))) (own := [("at", 4)]) (blkOk_by (N := ["yearly", "parts", "way", "found", "at"]) (sc := defScope s__law_accrued) (by decide +kernel)) (by decide) (fun s H C cl fp => dn_name 4 hN) (fun s H C cl fp => dts_nil) (fun s H C cl fp => de_sub (de_ix (de_v 3) (de_add (de_v 4) (de_int))) (de_ix (de_v 3) (de_v 4))))))
theorem w__law_refused (G : Gd P w K mg base) : FnC P w K mg base (tabs K) 41 42 (He.ga K "_law_refused") (fdOf K (He.ga K "_law_refused")) ["act"] (mf__law_refused K) := by
  refine FnC.of (m := m__law_refused K) G.f__law_refused.f sc__law_refused rfl rfl leaves_leave fun T g cl fr ws ap cdv A outer s H E X hT hcd hX hclo hC hr hgd tk hp => ?_
  subst hX
  obtain ⟨tb, ths, tvs⟩ := T
  obtain rfl : tb = tabs K := hT
  have hu := huOf hr
  have hN := sc__law_refused.nd
  have hc : (cxOf (L2.CX P w) P w K mg base ["act", "e"] "_law_refused" (defScope s__law_refused) (He.ga K "_law_refused") cdv A outer s H E).calm = true := rfl
  exact db_cons (ds_try (by rfl) (by rfl) hN tk (fun W' pn xe tk' hp' => db_one (ds_expr (de_clo0 0 hclo hC.tr hr hgd tk'))) (.named (i := 1) (fld := "given") ⟨by rfl, by decide, .inl G.c_InvalidNumber.m⟩ (by rfl) (by rfl) (fun T' a dd oe w xd pn hT' hd hw hz hf => db_one (ds_ret (de_lst (da_cons (de_str) (da_cons (de_repr hgd hu G.n_repr (da_cons (de_xf 1 G.c_InvalidNumber.xf G.c_InvalidNumber.no hz hf hd hw) (da_nil))) (da_nil)))))) (.named (i := 1) (fld := "given") ⟨by rfl, by decide, .inl G.c_InvalidWay.m⟩ (by rfl) (by rfl) (fun T' a dd oe w xd pn hT' hd hw hz hf => db_one (ds_ret (de_lst (da_cons (de_str) (da_cons (de_repr hgd hu G.n_repr (da_cons (de_xf 1 G.c_InvalidWay.xf G.c_InvalidWay.no hz hf hd hw) (da_nil))) (da_nil)))))) (.nil)))) (
    db_one (ds_ret (de_lst (da_cons (de_str) (da_nil)))))
theorem w__law_wrong_right (G : Gd P w K mg base) : FnD P w K mg base (tabs K) 43 (He.ga K "_law_wrong_right") (fdOf K (He.ga K "_law_wrong_right")) ["well", "yearly", "parts", "way"] (mf__law_wrong_right K) := by
  refine FnD.of (m := m__law_wrong_right K) G.f__law_wrong_right.f sc__law_wrong_right rfl rfl leaves_leave fun T cdv A outer s H E X hT hcd hX hr hgd tk hp => ?_
  subst hX
  obtain ⟨tb, ths, tvs⟩ := T
  obtain rfl : tb = tabs K := hT
  have hu := huOf hr
  have hN := sc__law_wrong_right.nd
  have hc : (cxOf (L2.CX P w) P w K mg base ["well", "yearly", "parts", "way", "bad", "had", "due", "one", "two"] "_law_wrong_right" (defScope s__law_wrong_right) (He.ga K "_law_wrong_right") cdv A outer s H E).calm = true := rfl
  have hlamK : LamK (cxOf (L2.CX P w) P w K mg base ["well", "yearly", "parts", "way", "bad", "had", "due", "one", "two"] "_law_wrong_right" (defScope s__law_wrong_right) (He.ga K "_law_wrong_right") cdv A outer s H E) (tabs K) (nmq "_law_wrong_right.<locals>.<lambda>") := ⟨_, _, G.t__law_wrong_right, (show cdv = _ from Option.some.inj (hcd.symm.trans G.o__law_wrong_right)), by simp [tabs], fun p hp e => G.tabs_u p hp (tabP K (He.ga K "_law_wrong_right"), nmq "_law_wrong_right.<locals>.<lambda>") (by simp [tabs]) e⟩
  exact db_cons (ds_asg (de_tup (da_cons (de_call (w__law_of G) (hr.mono (by decide)) hgd tk (by rfl) G.f__law_of.m G.f__law_of.f.kp (b__law_of G) (da_cons (de_v 0) (da_cons (de_tup (da_cons (de_neg (de_int)) (da_cons (de_add (de_pow (de_int) (de_int)) (de_int)) (da_cons (de_bl) (da_cons (de_non) (da_cons (de_str) (da_nil))))))) (da_nil)))) (da_cons (de_call (w__law_of G) (hr.mono (by decide)) hgd tk (by rfl) G.f__law_of.m G.f__law_of.f.kp (b__law_of G) (da_cons (de_v 0) (da_cons (de_tup (da_cons (de_int) (da_cons (de_int) (da_cons (de_bl) (da_cons (de_non) (da_cons (de_str) (da_nil))))))) (da_nil)))) (da_nil)))) (dg_tup hc (dgs_cons (dg_name 7 hN) (dgs_cons (dg_name 8 hN) (dgs_nil))))) (
    db_cons (ds_set 4 hN (de_call (w__law_of G) (hr.mono (by decide)) hgd tk (by rfl) G.f__law_of.m G.f__law_of.f.kp (b__law_of G) (da_cons (de_v 0) (da_cons (de_tup (da_cons (de_str) (da_cons (de_str) (da_cons (de_non) (da_cons (de_int) (da_cons (de_tup (da_cons (de_str) (da_nil))) (da_cons (de_str) (da_cons (de_lst (da_cons (de_str) (da_nil))) (da_nil))))))))) (da_nil))))) (
    db_cons (ds_set 5 hN (de_lstN (da_cons (de_callL (w__law_refused G) (N := ["one", "two", "bad"]) (qs := []) (fr := ["one", "two", "bad"]) (js := [7, 8, 4]) (kc := 40) (NdefX.nscope_by (by decide +kernel)) rfl rfl (by decide +kernel) (free_by (sc := defScope s__law_wrong_right) (by decide +kernel)) (by rfl) (fun _ _ _ us hl => match us, hl with | [], _ => rfl) (fun T' f c' A outer s H E X hT hX hr hgd tk => by
        subst hX
        obtain ⟨tb2, ths2, tvs2⟩ := T'
        obtain rfl : tb2 = tabs K := hT
        have hu := huOf hr
        exact de_call (w_accrued G) (hr.mono (by decide)) hgd tk (by rfl) G.f_accrued.m G.f_accrued.f.kp (b_accrued G) (da_cons (de_v 0) (da_cons (de_v 1) (da_cons (de_v 2) (da_nil))))) (hr.mono (by decide)) hgd tk (by rfl) G.f__law_refused.m G.f__law_refused.f.kp (b__law_refused G) (dal_one hlamK (by rfl) (by rfl) (free_by (sc := defScope s__law_wrong_right) (by decide +kernel)))) (da_nil)))) (
    db_cons (ds_expr (de_append (de_v 5) (da_cons (de_callL (w__law_refused G) (N := ["bad", "two", "one"]) (qs := []) (fr := ["bad", "two", "one"]) (js := [4, 8, 7]) (kc := 40) (NdefX.nscope_by (by decide +kernel)) rfl rfl (by decide +kernel) (free_by (sc := defScope s__law_wrong_right) (by decide +kernel)) (by rfl) (fun _ _ _ us hl => match us, hl with | [], _ => rfl) (fun T' f c' A outer s H E X hT hX hr hgd tk => by
        subst hX
        obtain ⟨tb2, ths2, tvs2⟩ := T'
        obtain rfl : tb2 = tabs K := hT
        have hu := huOf hr
        exact de_callK0 (w_sums G) (hr.mono (by decide)) hgd tk (by rfl) G.f_sums.m G.f_sums.f.kp (bk_sums_0_way_parts_yearly G) (dk_cons (de_v 0) (dk_cons (de_v 1) (dk_cons (de_v 2) (dk_nil))))) (hr.mono (by decide)) hgd tk (by rfl) G.f__law_refused.m G.f__law_refused.f.kp (b__law_refused G) (dal_one hlamK (by rfl) (by rfl) (free_by (sc := defScope s__law_wrong_right) (by decide +kernel)))) (da_nil)))) (
    db_cons (ds_expr (de_append (de_v 5) (da_cons (de_callL (w__law_refused G) (N := ["one", "two", "bad"]) (qs := []) (fr := ["one", "two", "bad"]) (js := [7, 8, 4]) (kc := 40) (NdefX.nscope_by (by decide +kernel)) rfl rfl (by decide +kernel) (free_by (sc := defScope s__law_wrong_right) (by decide +kernel)) (by rfl) (fun _ _ _ us hl => match us, hl with | [], _ => rfl) (fun T' f c' A outer s H E X hT hX hr hgd tk => by
        subst hX
        obtain ⟨tb2, ths2, tvs2⟩ := T'
        obtain rfl : tb2 = tabs K := hT
        have hu := huOf hr
        exact de_call (w_greatest_gap G) (hr.mono (by decide)) hgd tk (by rfl) G.f_greatest_gap.m G.f_greatest_gap.f.kp (b_greatest_gap G) (da_cons (de_v 0) (da_cons (de_v 1) (da_cons (de_v 2) (da_cons (de_v 2) (da_nil)))))) (hr.mono (by decide)) hgd tk (by rfl) G.f__law_refused.m G.f__law_refused.f.kp (b__law_refused G) (dal_one hlamK (by rfl) (by rfl) (free_by (sc := defScope s__law_wrong_right) (by decide +kernel)))) (da_nil)))) (
    db_cons (ds_expr (de_append (de_v 5) (da_cons (de_callL (w__law_refused G) (N := ["yearly", "two", "bad"]) (qs := []) (fr := ["yearly", "two", "bad"]) (js := [1, 8, 4]) (kc := 40) (NdefX.nscope_by (by decide +kernel)) rfl rfl (by decide +kernel) (free_by (sc := defScope s__law_wrong_right) (by decide +kernel)) (by rfl) (fun _ _ _ us hl => match us, hl with | [], _ => rfl) (fun T' f c' A outer s H E X hT hX hr hgd tk => by
        subst hX
        obtain ⟨tb2, ths2, tvs2⟩ := T'
        obtain rfl : tb2 = tabs K := hT
        have hu := huOf hr
        exact de_call (w_accrued G) (hr.mono (by decide)) hgd tk (by rfl) G.f_accrued.m G.f_accrued.f.kp (b_accrued G) (da_cons (de_v 0) (da_cons (de_v 1) (da_cons (de_v 2) (da_nil))))) (hr.mono (by decide)) hgd tk (by rfl) G.f__law_refused.m G.f__law_refused.f.kp (b__law_refused G) (dal_one hlamK (by rfl) (by rfl) (free_by (sc := defScope s__law_wrong_right) (by decide +kernel)))) (da_nil)))) (
    db_cons (ds_expr (de_append (de_v 5) (da_cons (de_callL (w__law_refused G) (N := ["yearly", "two", "bad"]) (qs := []) (fr := ["yearly", "two", "bad"]) (js := [1, 8, 4]) (kc := 40) (NdefX.nscope_by (by decide +kernel)) rfl rfl (by decide +kernel) (free_by (sc := defScope s__law_wrong_right) (by decide +kernel)) (by rfl) (fun _ _ _ us hl => match us, hl with | [], _ => rfl) (fun T' f c' A outer s H E X hT hX hr hgd tk => by
        subst hX
        obtain ⟨tb2, ths2, tvs2⟩ := T'
        obtain rfl : tb2 = tabs K := hT
        have hu := huOf hr
        exact de_call (w_greatest_gap G) (hr.mono (by decide)) hgd tk (by rfl) G.f_greatest_gap.m G.f_greatest_gap.f.kp (b_greatest_gap G) (da_cons (de_v 0) (da_cons (de_v 1) (da_cons (de_v 2) (da_cons (de_v 2) (da_nil)))))) (hr.mono (by decide)) hgd tk (by rfl) G.f__law_refused.m G.f__law_refused.f.kp (b__law_refused G) (dal_one hlamK (by rfl) (by rfl) (free_by (sc := defScope s__law_wrong_right) (by decide +kernel)))) (da_nil)))) (
    db_cons (ds_expr (de_append (de_v 5) (da_cons (de_callL (w__law_refused G) (N := ["yearly", "parts", "bad"]) (qs := []) (fr := ["yearly", "parts", "bad"]) (js := [1, 2, 4]) (kc := 40) (NdefX.nscope_by (by decide +kernel)) rfl rfl (by decide +kernel) (free_by (sc := defScope s__law_wrong_right) (by decide +kernel)) (by rfl) (fun _ _ _ us hl => match us, hl with | [], _ => rfl) (fun T' f c' A outer s H E X hT hX hr hgd tk => by
        subst hX
        obtain ⟨tb2, ths2, tvs2⟩ := T'
        obtain rfl : tb2 = tabs K := hT
        have hu := huOf hr
        exact de_call (w_sums G) (hr.mono (by decide)) hgd tk (by rfl) G.f_sums.m G.f_sums.f.kp (b_sums G) (da_cons (de_v 0) (da_cons (de_v 1) (da_cons (de_v 2) (da_nil))))) (hr.mono (by decide)) hgd tk (by rfl) G.f__law_refused.m G.f__law_refused.f.kp (b__law_refused G) (dal_one hlamK (by rfl) (by rfl) (free_by (sc := defScope s__law_wrong_right) (by decide +kernel)))) (da_nil)))) (
    db_cons (ds_expr (de_append (de_v 5) (da_cons (de_callL (w__law_refused G) (N := ["yearly", "parts", "bad"]) (qs := []) (fr := ["yearly", "parts", "bad"]) (js := [1, 2, 4]) (kc := 40) (NdefX.nscope_by (by decide +kernel)) rfl rfl (by decide +kernel) (free_by (sc := defScope s__law_wrong_right) (by decide +kernel)) (by rfl) (fun _ _ _ us hl => match us, hl with | [], _ => rfl) (fun T' f c' A outer s H E X hT hX hr hgd tk => by
        subst hX
        obtain ⟨tb2, ths2, tvs2⟩ := T'
        obtain rfl : tb2 = tabs K := hT
        have hu := huOf hr
        exact de_call (w_greatest_gap G) (hr.mono (by decide)) hgd tk (by rfl) G.f_greatest_gap.m G.f_greatest_gap.f.kp (b_greatest_gap G) (da_cons (de_v 0) (da_cons (de_v 1) (da_cons (de_v 2) (da_cons (de_int) (da_nil)))))) (hr.mono (by decide)) hgd tk (by rfl) G.f__law_refused.m G.f__law_refused.f.kp (b__law_refused G) (dal_one hlamK (by rfl) (by rfl) (free_by (sc := defScope s__law_wrong_right) (by decide +kernel)))) (da_nil)))) (
    db_cons (ds_expr (de_append (de_v 5) (da_cons (de_callL (w__law_refused G) (N := ["bad", "way", "parts", "yearly"]) (qs := []) (fr := ["bad", "way", "parts", "yearly"]) (js := [4, 3, 2, 1]) (kc := 40) (NdefX.nscope_by (by decide +kernel)) rfl rfl (by decide +kernel) (free_by (sc := defScope s__law_wrong_right) (by decide +kernel)) (by rfl) (fun _ _ _ us hl => match us, hl with | [], _ => rfl) (fun T' f c' A outer s H E X hT hX hr hgd tk => by
        subst hX
        obtain ⟨tb2, ths2, tvs2⟩ := T'
        obtain rfl : tb2 = tabs K := hT
        have hu := huOf hr
        exact de_callK0 (w_greatest_gap G) (hr.mono (by decide)) hgd tk (by rfl) G.f_greatest_gap.m G.f_greatest_gap.f.kp (bk_greatest_gap_0_way2_way_parts_yearly G) (dk_cons (de_v 0) (dk_cons (de_v 1) (dk_cons (de_v 2) (dk_cons (de_v 3) (dk_nil)))))) (hr.mono (by decide)) hgd tk (by rfl) G.f__law_refused.m G.f__law_refused.f.kp (b__law_refused G) (dal_one hlamK (by rfl) (by rfl) (free_by (sc := defScope s__law_wrong_right) (by decide +kernel)))) (da_nil)))) (
    db_cons (ds_set 6 hN (de_add (de_add (de_mul (de_lst (da_cons (de_lst (da_cons (de_str) (da_cons (de_repr hgd hu G.n_repr (da_cons (de_v 7) (da_nil))) (da_nil)))) (da_nil))) (de_int)) (de_mul (de_lst (da_cons (de_lst (da_cons (de_str) (da_cons (de_repr hgd hu G.n_repr (da_cons (de_v 8) (da_nil))) (da_nil)))) (da_nil))) (de_int))) (de_mul (de_lst (da_cons (de_lst (da_cons (de_str) (da_cons (de_repr hgd hu G.n_repr (da_cons (de_v 4) (da_nil))) (da_nil)))) (da_nil))) (de_int)))) (
    db_one (ds_ret (de_call (w__law_is G) (hr.mono (by decide)) hgd tk (by rfl) G.f__law_is.m G.f__law_is.f.kp (b__law_is G) (da_cons (de_v 5) (da_cons (de_v 6) (da_nil))))))))))))))))
theorem w__law_right (G : Gd P w K mg base) : FnD P w K mg base (tabs K) 44 (He.ga K "_law_right") (fdOf K (He.ga K "_law_right")) ["well"] (mf__law_right K) := by
  refine FnD.of (m := m__law_right K) G.f__law_right.f sc__law_right rfl rfl leaves_leave fun T cdv A outer s H E X hT hcd hX hr hgd tk hp => ?_
  subst hX
  obtain ⟨tb, ths, tvs⟩ := T
  obtain rfl : tb = tabs K := hT
  have hu := huOf hr
  have hN := sc__law_right.nd
  have hc : (cxOf (L2.CX P w) P w K mg base ["well", "ways", "turn", "rows", "way", "one", "yearly", "parts", "had", "two", "down", "near", "up", "row", "due", "gap", "a", "b"] "_law_right" (defScope s__law_right) (He.ga K "_law_right") cdv A outer s H E).calm = true := rfl
  exact db_cons (ds_set 1 hN (de_tup (da_cons (de_str) (da_cons (de_str) (da_cons (de_str) (da_cons (de_str) (da_cons (de_str) (da_nil)))))))) (
    db_cons (ds_for hp hc (di_range1 (by rfl) G.n_range (da_cons (de_int) (da_nil))) (dn_name 2 hN) (db_cons (ds_par (i := 6) (j := 7) hc hN (da_cons (de_call (w__law_draw G) (hr.mono (by decide)) hgd tk (by rfl) G.f__law_draw.m G.f__law_draw.f.kp (b__law_draw G) (da_cons (de_v 0) (da_cons (de_call (w__law_of G) (hr.mono (by decide)) hgd tk (by rfl) G.f__law_of.m G.f__law_of.f.kp (b__law_of G) (da_cons (de_v 0) (da_cons (de_tup (da_cons (de_int) (da_cons (de_int) (da_cons (de_int) (da_cons (de_add (de_pow (de_int) (de_int)) (de_int)) (da_nil)))))) (da_nil)))) (da_nil)))) (da_cons (de_add (de_int) (de_call (w__law_draw G) (hr.mono (by decide)) hgd tk (by rfl) G.f__law_draw.m G.f__law_draw.f.kp (b__law_draw G) (da_cons (de_v 0) (da_cons (de_int) (da_nil))))) (da_nil)))) (
    db_cons (ds_set 3 hN (de_dictN)) (
    db_cons (ds_for hp hc (di_seq (de_v 1)) (dn_name 4 hN) (db_cons (ds_par (i := 13) (j := 14) hc hN (da_cons (de_tuple G.n_tuple (da_cons (de_call (w__law_sums G) (hr.mono (by decide)) hgd tk (by rfl) G.f__law_sums.m G.f__law_sums.f.kp (b__law_sums G) (da_cons (de_v 6) (da_cons (de_v 7) (da_cons (de_v 4) (da_nil))))) (da_nil))) (da_cons (de_tuple G.n_tuple (da_cons (de_call (w__law_accrued G) (hr.mono (by decide)) hgd tk (by rfl) G.f__law_accrued.m G.f__law_accrued.f.kp (b__law_accrued G) (da_cons (de_v 6) (da_cons (de_v 7) (da_cons (de_v 4) (da_nil))))) (da_nil))) (da_nil)))) (
    db_cons (ds_set 8 hN (de_lstN (da_cons (de_call (w_accrued G) (hr.mono (by decide)) hgd tk (by rfl) G.f_accrued.m G.f_accrued.f.kp (b_accrued G) (da_cons (de_v 6) (da_cons (de_v 7) (da_cons (de_v 4) (da_nil))))) (da_cons (de_callK0 (w_accrued G) (hr.mono (by decide)) hgd tk (by rfl) G.f_accrued.m G.f_accrued.f.kp (bk_accrued_0_way_parts_yearly G) (dk_cons (de_v 4) (dk_cons (de_v 7) (dk_cons (de_v 6) (dk_nil))))) (da_cons (de_call (w_sums G) (hr.mono (by decide)) hgd tk (by rfl) G.f_sums.m G.f_sums.f.kp (b_sums G) (da_cons (de_v 6) (da_cons (de_v 7) (da_cons (de_v 4) (da_nil))))) (da_nil)))))) (
    db_cons (ds_if (dt_not (dt_val (de_call (w__law_is G) (hr.mono (by decide)) hgd tk (by rfl) G.f__law_is.m G.f__law_is.f.kp (b__law_is G) (da_cons (de_add (de_v 8) (de_lst (da_cons (de_callK0 (w_sums G) (hr.mono (by decide)) hgd tk (by rfl) G.f_sums.m G.f_sums.f.kp (bk_sums_0_way_parts_yearly G) (dk_cons (de_v 4) (dk_cons (de_v 7) (dk_cons (de_v 6) (dk_nil))))) (da_nil)))) (da_cons (de_lst (da_cons (de_v 14) (da_cons (de_v 14) (da_cons (de_v 13) (da_cons (de_v 13) (da_nil)))))) (da_nil)))))) (db_one (ds_ret (de_bl))) (db_nil)) (
    db_cons (ds_if ((dw_or (dt_ne hu (de_ix (de_v 13) (de_neg (de_int))) (de_v 6)) (dw_or1 (dt_lt (de_min hc hu G.n_min (da_cons (de_v 14) (da_nil))) (de_int)))).dt) (db_one (ds_ret (de_bl))) (db_nil)) (
    db_one (ds_kput hu (de_v 3) (de_v 4) (de_v 13)))))))) (
    db_cons (ds_for hp hc (di_seq (de_v 1)) (dn_name 5 hN) (db_one (ds_for hp hc (di_seq (de_v 1)) (dn_name 9 hN) (db_cons (ds_set 15 hN (de_max hc hu G.n_max (da_cons (de_lc hc hN (di_zip (by rfl) G.n_zip (da_cons (de_kx hu (de_v 3) (de_v 5)) (da_cons (de_kx hu (de_v 3) (de_v 9)) (da_nil)))) (own := [("a", 16), ("b", 17)]) (blkOk_by (N := ["well", "ways", "turn", "rows", "way", "one", "yearly", "parts", "had", "two", "down", "near", "up", "row", "due", "gap", "a", "b"]) (sc := defScope s__law_right) (by decide +kernel)) (by decide) (fun s H C cl fp => dn_tup hc (dns_cons (dn_name 16 hN) (dns_cons (dn_name 17 hN) (dns_nil)))) (fun s H C cl fp => dts_nil) (fun s H C cl fp => de_sub (de_v 16) (de_v 17))) (da_nil)))) (
    db_cons (ds_set 8 hN (de_lstN (da_cons (de_call (w_greatest_gap G) (hr.mono (by decide)) hgd tk (by rfl) G.f_greatest_gap.m G.f_greatest_gap.f.kp (b_greatest_gap G) (da_cons (de_v 6) (da_cons (de_v 7) (da_cons (de_v 5) (da_cons (de_v 9) (da_nil)))))) (da_nil)))) (
    db_cons (ds_expr (de_append (de_v 8) (da_cons (de_callK0 (w_greatest_gap G) (hr.mono (by decide)) hgd tk (by rfl) G.f_greatest_gap.m G.f_greatest_gap.f.kp (bk_greatest_gap_0_way2_way_parts_yearly G) (dk_cons (de_v 9) (dk_cons (de_v 5) (dk_cons (de_v 7) (dk_cons (de_v 6) (dk_nil)))))) (da_nil)))) (
    db_one (ds_if (dt_not (dt_val (de_call (w__law_is G) (hr.mono (by decide)) hgd tk (by rfl) G.f__law_is.m G.f__law_is.f.kp (b__law_is G) (da_cons (de_v 8) (da_cons (de_lst (da_cons (de_v 15) (da_cons (de_v 15) (da_nil)))) (da_nil)))))) (db_one (ds_ret (de_bl))) (db_nil))))))))) (
    db_cons (ds_for hp hc (di_zip3 (by rfl) G.n_zip (da_cons (de_kx hu (de_v 3) (de_str)) (da_cons (de_kx hu (de_v 3) (de_str)) (da_cons (de_kx hu (de_v 3) (de_str)) (da_nil))))) (dn_tup hc (dns_cons (dn_name 10 hN) (dns_cons (dn_name 11 hN) (dns_cons (dn_name 12 hN) (dns_nil))))) (db_one (ds_if (dt_not (dt_ch3 op_le op_le op_le tell_le tell_le tell_le (de_v 10) (de_v 11) (de_v 12) (de_add (de_v 10) (de_int)))) (db_one (ds_ret (de_bl))) (db_nil)))) (
    db_one (ds_if (dt_not (dt_val (de_call (w__law_wrong_right G) (hr.mono (by decide)) hgd tk (by rfl) G.f__law_wrong_right.m G.f__law_wrong_right.f.kp (b__law_wrong_right G) (da_cons (de_v 0) (da_cons (de_v 6) (da_cons (de_v 7) (da_cons (de_call (w__law_of G) (hr.mono (by decide)) hgd tk (by rfl) G.f__law_of.m G.f__law_of.f.kp (b__law_of G) (da_cons (de_v 0) (da_cons (de_v 1) (da_nil)))) (da_nil)))))))) (db_one (ds_ret (de_bl))) (db_nil))))))))) (
    db_one (ds_ret (de_bl))))
theorem w_law (G : Gd P w K mg base) : FnD P w K mg base (tabs K) 45 (He.ga K "law") (fdOf K (He.ga K "law")) ["script"] (mf_law K) := by
  refine FnD.of (m := m_law K) G.f_law.f sc_law rfl rfl leaves_leave fun T cdv A outer s H E X hT hcd hX hr hgd tk hp => ?_
  subst hX
  obtain ⟨tb, ths, tvs⟩ := T
  obtain rfl : tb = tabs K := hT
  have hu := huOf hr
  have hN := sc_law.nd
  have hc : (cxOf (L2.CX P w) P w K mg base ["script", "lap"] "law" (defScope s_law) (He.ga K "law") cdv A outer s H E).calm = true := rfl
  exact db_one (ds_ret (de_all hc G.n_all (da_cons (de_lc hc hN (di_range1 (by rfl) G.n_range (da_cons (de_max hc hu G.n_max (da_cons (de_int) (da_cons (de_min hc hu G.n_min (da_cons (de_len G.n_len (da_cons (de_v 0) (da_nil))) (da_cons (de_int) (da_nil)))) (da_nil)))) (da_nil))) (own := [("lap", 1)]) (blkOk_by (N := ["script", "lap"]) (sc := defScope s_law) (by decide +kernel)) (by decide) (fun s H C cl fp => dn_name 1 hN) (fun s H C cl fp => dts_nil) (fun s H C cl fp => de_call (w__law_right G) (hr.mono (by decide)) hgd takes_none5 (by rfl) G.f__law_right.m G.f__law_right.f.kp (b__law_right G) (da_cons (de_call (w__law_well G) (hr.mono (by decide)) hgd takes_none5 (by rfl) G.f__law_well.m G.f__law_well.f.kp (b__law_well G) (da_cons (de_v 0) (da_cons (de_v 1) (da_nil)))) (da_nil)))) (da_nil))))
end
end K12

/-! ### text K12p.src -/
namespace K12
open PySem PySem.Spec PyProof.Rows L2 L3
/-- what the plain law asks of the classes -/
structure Pf (K : PySem.W.Frag) : Prop where
  int_int : PySem.W.kitOne K (.type "int") (.type "int") = some true
  bool_int : PySem.W.kitOne K (.type "bool") (.type "int") = some true
  str_int : PySem.W.kitOne K (.type "str") (.type "int") = some false
  non_int : PySem.W.kitOne K (.type "NoneType") (.type "int") = some false
  int_bool : PySem.W.kitOne K (.type "int") (.type "bool") = some false
  bool_bool : PySem.W.kitOne K (.type "bool") (.type "bool") = some true
  int_str : PySem.W.kitOne K (.type "int") (.type "str") = some false
  str_str : PySem.W.kitOne K (.type "str") (.type "str") = some true
  non_str : PySem.W.kitOne K (.type "NoneType") (.type "str") = some false
  tup_str : PySem.W.kitOne K (.type "tuple") (.type "str") = some false
  lst_str : PySem.W.kitOne K (.type "list") (.type "str") = some false
  nn : PySem.W.exmOne K (.ref (He.ga K "InvalidNumber")) (.ref (He.ga K "InvalidNumber")) = some true
  wn : PySem.W.exmOne K (.ref (He.ga K "InvalidWay")) (.ref (He.ga K "InvalidNumber")) = some false
  ww : PySem.W.exmOne K (.ref (He.ga K "InvalidWay")) (.ref (He.ga K "InvalidWay")) = some true
section
variable {K : PySem.W.Frag} (F : Pf K)
include F
theorem whole_int (i : Int) (st : Store) : mf_is_whole K [.int i] st = .ok (.bl true) st := by
  simp [mf_is_whole, m_is_whole, eV, eC, e2, e1, eN, eIf, eAndM, eOrM, eNotM, aNil, aCons, aStar, eTup, eLst, eLstN, eCut, oNone, oSome, tVal, t2, tAndM, tOrM, tNotM, sNil, sSeq, sIf, sRet, sRetN, sSet, sAsg, gNm, gSubM, gTupM, gsNil, gsCons, sPar, sDrop, sRaise, eCall1, eCall, perm, fnM, endF, leave, leaveN, leaveE, beg, Res.bind_ok, Res.bind_err, sBind_ok, sBind_err, bIsi, tyD, clsD, okTy, F.int_int, F.int_bool]
theorem whole_bl (i : Bool) (st : Store) : mf_is_whole K [.bl i] st = .ok (.bl false) st := by
  simp [mf_is_whole, m_is_whole, eV, eC, e2, e1, eN, eIf, eAndM, eOrM, eNotM, aNil, aCons, aStar, eTup, eLst, eLstN, eCut, oNone, oSome, tVal, t2, tAndM, tOrM, tNotM, sNil, sSeq, sIf, sRet, sRetN, sSet, sAsg, gNm, gSubM, gTupM, gsNil, gsCons, sPar, sDrop, sRaise, eCall1, eCall, perm, fnM, endF, leave, leaveN, leaveE, beg, Res.bind_ok, Res.bind_err, sBind_ok, sBind_err, bIsi, tyD, clsD, okTy, F.bool_int, F.bool_bool]
theorem whole_non (st : Store) : mf_is_whole K [.non] st = .ok (.bl false) st := by
  simp [mf_is_whole, m_is_whole, eV, eC, e2, e1, eN, eIf, eAndM, eOrM, eNotM, aNil, aCons, aStar, eTup, eLst, eLstN, eCut, oNone, oSome, tVal, t2, tAndM, tOrM, tNotM, sNil, sSeq, sIf, sRet, sRetN, sSet, sAsg, gNm, gSubM, gTupM, gsNil, gsCons, sPar, sDrop, sRaise, eCall1, eCall, perm, fnM, endF, leave, leaveN, leaveE, beg, Res.bind_ok, Res.bind_err, sBind_ok, sBind_err, bIsi, tyD, clsD, okTy, F.non_int]
theorem whole_str (x : Str) (st : Store) : mf_is_whole K [.str x] st = .ok (.bl false) st := by
  simp [mf_is_whole, m_is_whole, eV, eC, e2, e1, eN, eIf, eAndM, eOrM, eNotM, aNil, aCons, aStar, eTup, eLst, eLstN, eCut, oNone, oSome, tVal, t2, tAndM, tOrM, tNotM, sNil, sSeq, sIf, sRet, sRetN, sSet, sAsg, gNm, gSubM, gTupM, gsNil, gsCons, sPar, sDrop, sRaise, eCall1, eCall, perm, fnM, endF, leave, leaveN, leaveE, beg, Res.bind_ok, Res.bind_err, sBind_ok, sBind_err, bIsi, tyD, clsD, okTy, F.str_int]
theorem number_int (i a b : Int) (st : Store) : mf_is_number K [.int i, .int a, .int b] st = .ok (.bl (decide (a ≤ i ∧ i ≤ b))) st := by
  by_cases h : i < a <;> by_cases h2 : i ≤ b <;> simp [mf_is_number, m_is_number, eV, eC, e2, e1, eN, eIf, eAndM, eOrM, eNotM, aNil, aCons, aStar, eTup, eLst, eLstN, eCut, oNone, oSome, tVal, t2, tAndM, tOrM, tNotM, sNil, sSeq, sIf, sRet, sRetN, sSet, sAsg, gNm, gSubM, gTupM, gsNil, gsCons, sPar, sDrop, sRaise, eCall1, eCall, perm, fnM, endF, leave, leaveN, leaveE, beg, Res.bind_ok, Res.bind_err, sBind_ok, sBind_err, dAdd, dSub, dMul, dDiv, dMod, dPow, dNeg, dLt, dLe, dGt, dGe, isN, dIsN, dNotN, dIx, sqOf, lsOf, trOf, dSetIx, bInt, bAbs, bLen, bDivmod, bMax, bMin, bTuple, bAll, whole_int F, h, h2] <;> omega
theorem number_bl (i : Bool) (a b : Int) (st : Store) : mf_is_number K [.bl i, .int a, .int b] st = .ok (.bl false) st := by
  simp [mf_is_number, m_is_number, eV, eC, e2, e1, eN, eIf, eAndM, eOrM, eNotM, aNil, aCons, aStar, eTup, eLst, eLstN, eCut, oNone, oSome, tVal, t2, tAndM, tOrM, tNotM, sNil, sSeq, sIf, sRet, sRetN, sSet, sAsg, gNm, gSubM, gTupM, gsNil, gsCons, sPar, sDrop, sRaise, eCall1, eCall, perm, fnM, endF, leave, leaveN, leaveE, beg, Res.bind_ok, Res.bind_err, sBind_ok, sBind_err, dAdd, dSub, dMul, dDiv, dMod, dPow, dNeg, dLt, dLe, dGt, dGe, isN, dIsN, dNotN, dIx, sqOf, lsOf, trOf, dSetIx, bInt, bAbs, bLen, bDivmod, bMax, bMin, bTuple, bAll, whole_bl F]
theorem number_non (a b : Int) (st : Store) : mf_is_number K [.non, .int a, .int b] st = .ok (.bl false) st := by
  simp [mf_is_number, m_is_number, eV, eC, e2, e1, eN, eIf, eAndM, eOrM, eNotM, aNil, aCons, aStar, eTup, eLst, eLstN, eCut, oNone, oSome, tVal, t2, tAndM, tOrM, tNotM, sNil, sSeq, sIf, sRet, sRetN, sSet, sAsg, gNm, gSubM, gTupM, gsNil, gsCons, sPar, sDrop, sRaise, eCall1, eCall, perm, fnM, endF, leave, leaveN, leaveE, beg, Res.bind_ok, Res.bind_err, sBind_ok, sBind_err, dAdd, dSub, dMul, dDiv, dMod, dPow, dNeg, dLt, dLe, dGt, dGe, isN, dIsN, dNotN, dIx, sqOf, lsOf, trOf, dSetIx, bInt, bAbs, bLen, bDivmod, bMax, bMin, bTuple, bAll, whole_non F]
theorem number_str (x : Str) (a b : Int) (st : Store) : mf_is_number K [.str x, .int a, .int b] st = .ok (.bl false) st := by
  simp [mf_is_number, m_is_number, eV, eC, e2, e1, eN, eIf, eAndM, eOrM, eNotM, aNil, aCons, aStar, eTup, eLst, eLstN, eCut, oNone, oSome, tVal, t2, tAndM, tOrM, tNotM, sNil, sSeq, sIf, sRet, sRetN, sSet, sAsg, gNm, gSubM, gTupM, gsNil, gsCons, sPar, sDrop, sRaise, eCall1, eCall, perm, fnM, endF, leave, leaveN, leaveE, beg, Res.bind_ok, Res.bind_err, sBind_ok, sBind_err, dAdd, dSub, dMul, dDiv, dMod, dPow, dNeg, dLt, dLe, dGt, dGe, isN, dIsN, dNotN, dIx, sqOf, lsOf, trOf, dSetIx, bInt, bAbs, bLen, bDivmod, bMax, bMin, bTuple, bAll, whole_str F]
theorem chk_int (i a b : Int) (st : Store) : mf_check_number K [.int i, .int a, .int b] st = if a ≤ i ∧ i ≤ b then .ok .non st else .err (He.ga K "InvalidNumber") (some ("given", .int i)) st := by
  by_cases h : a ≤ i ∧ i ≤ b <;> simp [mf_check_number, m_check_number, eV, eC, e2, e1, eN, eIf, eAndM, eOrM, eNotM, aNil, aCons, aStar, eTup, eLst, eLstN, eCut, oNone, oSome, tVal, t2, tAndM, tOrM, tNotM, sNil, sSeq, sIf, sRet, sRetN, sSet, sAsg, gNm, gSubM, gTupM, gsNil, gsCons, sPar, sDrop, sRaise, eCall1, eCall, perm, fnM, endF, leave, leaveN, leaveE, beg, Res.bind_ok, Res.bind_err, sBind_ok, sBind_err, dAdd, dSub, dMul, dDiv, dMod, dPow, dNeg, dLt, dLe, dGt, dGe, isN, dIsN, dNotN, dIx, sqOf, lsOf, trOf, dSetIx, bInt, bAbs, bLen, bDivmod, bMax, bMin, bTuple, bAll, number_int F, h]
theorem chk_bl (i : Bool) (a b : Int) (st : Store) : mf_check_number K [.bl i, .int a, .int b] st = .err (He.ga K "InvalidNumber") (some ("given", .bl i)) st := by
  simp [mf_check_number, m_check_number, eV, eC, e2, e1, eN, eIf, eAndM, eOrM, eNotM, aNil, aCons, aStar, eTup, eLst, eLstN, eCut, oNone, oSome, tVal, t2, tAndM, tOrM, tNotM, sNil, sSeq, sIf, sRet, sRetN, sSet, sAsg, gNm, gSubM, gTupM, gsNil, gsCons, sPar, sDrop, sRaise, eCall1, eCall, perm, fnM, endF, leave, leaveN, leaveE, beg, Res.bind_ok, Res.bind_err, sBind_ok, sBind_err, dAdd, dSub, dMul, dDiv, dMod, dPow, dNeg, dLt, dLe, dGt, dGe, isN, dIsN, dNotN, dIx, sqOf, lsOf, trOf, dSetIx, bInt, bAbs, bLen, bDivmod, bMax, bMin, bTuple, bAll, number_bl F]
theorem chk_non (a b : Int) (st : Store) : mf_check_number K [.non, .int a, .int b] st = .err (He.ga K "InvalidNumber") (some ("given", .non)) st := by
  simp [mf_check_number, m_check_number, eV, eC, e2, e1, eN, eIf, eAndM, eOrM, eNotM, aNil, aCons, aStar, eTup, eLst, eLstN, eCut, oNone, oSome, tVal, t2, tAndM, tOrM, tNotM, sNil, sSeq, sIf, sRet, sRetN, sSet, sAsg, gNm, gSubM, gTupM, gsNil, gsCons, sPar, sDrop, sRaise, eCall1, eCall, perm, fnM, endF, leave, leaveN, leaveE, beg, Res.bind_ok, Res.bind_err, sBind_ok, sBind_err, dAdd, dSub, dMul, dDiv, dMod, dPow, dNeg, dLt, dLe, dGt, dGe, isN, dIsN, dNotN, dIx, sqOf, lsOf, trOf, dSetIx, bInt, bAbs, bLen, bDivmod, bMax, bMin, bTuple, bAll, number_non F]
theorem chk_str (x : Str) (a b : Int) (st : Store) : mf_check_number K [.str x, .int a, .int b] st = .err (He.ga K "InvalidNumber") (some ("given", .str x)) st := by
  simp [mf_check_number, m_check_number, eV, eC, e2, e1, eN, eIf, eAndM, eOrM, eNotM, aNil, aCons, aStar, eTup, eLst, eLstN, eCut, oNone, oSome, tVal, t2, tAndM, tOrM, tNotM, sNil, sSeq, sIf, sRet, sRetN, sSet, sAsg, gNm, gSubM, gTupM, gsNil, gsCons, sPar, sDrop, sRaise, eCall1, eCall, perm, fnM, endF, leave, leaveN, leaveE, beg, Res.bind_ok, Res.bind_err, sBind_ok, sBind_err, dAdd, dSub, dMul, dDiv, dMod, dPow, dNeg, dLt, dLe, dGt, dGe, isN, dIsN, dNotN, dIx, sqOf, lsOf, trOf, dSetIx, bInt, bAbs, bLen, bDivmod, bMax, bMin, bTuple, bAll, number_str F]
end
/-! ### draws -/
/-- a well stands at n -/
def Well (st : Store) (n : Nat) : Prop := ∃ a b c : Int, st[n]? = some (.lst [.int a, .int b, .int c])
theorem dIx_loc {st : Store} {n : Nat} {xs : List D} {i : Int} {d : D} (h : st[n]? = some (.lst xs)) (e : atI xs i = some d) : dIx (.loc n) (.int i) st = .ok d st := by
  simp only [dIx, sqOf, lsOf, h, e]
theorem dSetIx_loc {st : Store} {n : Nat} {xs : List D} {i : Int} {j : Nat} {v : D} (h : st[n]? = some (.lst xs)) (e : ixN xs.length i = some j) : dSetIx (.loc n) (.int i) v st = some (st.set n (.lst (xs.set j v))) := by
  simp only [dSetIx, h, e]
section
variable {K : PySem.W.Frag}
theorem draw_ok {st : Store} {n : Nat} {l : Int} (h : Well st n) (h0 : 0 < l) (h1 : l < 1073741824) : ∃ (v : Int) (c : Cell), mf__law_draw K [.loc n, .int l] st = .ok (.int v) (st.set n c) ∧ 0 ≤ v ∧ v < l ∧ Well (st.set n c) n := by
  obtain ⟨a, b, c, e⟩ := h
  have hn : n < st.length := (List.getElem?_eq_some_iff.mp e).1
  have hl : l.natAbs < 1073741824 := by omega
  have g0 := dIx_loc (i := 0) (d := .int a) e rfl
  have g1 := dIx_loc (i := 1) (d := .int b) e rfl
  have g2 := dIx_loc (i := 2) (d := .int c) e rfl
  have s0 := fun v => dSetIx_loc (i := 0) (j := 0) (v := v) e rfl
  have s2 := fun v => dSetIx_loc (i := 2) (j := 2) (v := v) e rfl
  by_cases ha : 0 < a
  · refine ⟨a % l, .lst [.int (a / l), .int b, .int c], ?_, Int.emod_nonneg _ (by omega), Int.emod_lt_of_pos _ h0, _, _, _, List.getElem?_set_self hn⟩
    clear hn
    simp [mf__law_draw, m__law_draw, eV, eC, e2, e1, eN, eIf, eAndM, eOrM, eNotM, aNil, aCons, aStar, eTup, eLst, eLstN, eCut, oNone, oSome, tVal, t2, tAndM, tOrM, tNotM, sNil, sSeq, sIf, sRet, sRetN, sSet, sAsg, gNm, gSubM, gTupM, gsNil, gsCons, sPar, sDrop, sRaise, eCall1, eCall, perm, fnM, endF, leave, leaveN, leaveE, beg, Res.bind_ok, Res.bind_err, sBind_ok, sBind_err, dGt, bDivmod, g0, g1, g2, s0, ha, h0, hl]
  · have q2 : (st.set n (.lst [.int a, .int b, .int (c + 1)]))[n]? = some (.lst [.int a, .int b, .int (c + 1)]) := List.getElem?_set_self hn
    have k1 := dIx_loc (i := 1) (d := .int b) q2 rfl
    have k2 := dIx_loc (i := 2) (d := .int (c + 1)) q2 rfl
    have t1 := fun v => dSetIx_loc (i := 1) (j := 1) (v := v) q2 rfl
    generalize hm : (b * 40009 + 15013 * (c + 1)) % 2147483629 = m at *
    have q3 : (st.set n (.lst [.int a, .int ((m * (m % 5003 + 20011) + (c + 1)) % 2147483629), .int (c + 1)]))[n]? = some (.lst [.int a, .int ((m * (m % 5003 + 20011) + (c + 1)) % 2147483629), .int (c + 1)]) := List.getElem?_set_self hn
    have k3 := dIx_loc (i := 1) (d := .int ((m * (m % 5003 + 20011) + (c + 1)) % 2147483629)) q3 rfl
    have hb : (m % 5003 + 20011).natAbs < 2 ^ 64 := by omega
    refine ⟨(m * (m % 5003 + 20011) + (c + 1)) % 2147483629 / 1031 % l, .lst [.int a, .int ((m * (m % 5003 + 20011) + (c + 1)) % 2147483629), .int (c + 1)], ?_, Int.emod_nonneg _ (by omega), Int.emod_lt_of_pos _ h0, _, _, _, List.getElem?_set_self hn⟩
    clear hn
    have hb' : (m % 5003 + 20011).natAbs < 18446744073709551616 := hb
    simp [mf__law_draw, m__law_draw, eV, eC, e2, e1, eN, eIf, eAndM, eOrM, eNotM, aNil, aCons, aStar, eTup, eLst, eLstN, eCut, oNone, oSome, tVal, t2, tAndM, tOrM, tNotM, sNil, sSeq, sIf, sRet, sRetN, sSet, sAsg, gNm, gSubM, gTupM, gsNil, gsCons, sPar, sDrop, sRaise, eCall1, eCall, perm, fnM, endF, leave, leaveN, leaveE, beg, Res.bind_ok, Res.bind_err, sBind_ok, sBind_err, dGt, dAdd, dMul, dMod, dDiv, bInt, g0, g1, g2, s2, ha, h0, hm, k1, k2, k3, t1, hb', List.set_set]
/-- one of some -/
theorem of_ok {st : Store} {n : Nat} {xs : List D} (h : Well st n) (h0 : 0 < xs.length) (h1 : xs.length < 1073741824) : ∃ (i : Nat) (d : D) (c : Cell), xs[i]? = some d ∧ mf__law_of K [.loc n, .tup xs] st = .ok d (st.set n c) ∧ Well (st.set n c) n := by
  obtain ⟨v, c, e, v0, v1, w⟩ := draw_ok (K := K) h (l := xs.length) (by omega) (by omega)
  have hi : v.toNat < xs.length := by omega
  refine ⟨v.toNat, xs[v.toNat], c, List.getElem?_eq_getElem hi, ?_, w⟩
  have ix : atI xs v = some xs[v.toNat] := by
    unfold atI ixN
    rw [if_pos v0, if_pos (by omega)]
    exact List.getElem?_eq_getElem hi
  simp [mf__law_of, m__law_of, eV, eC, e2, e1, eN, eIf, eAndM, eOrM, eNotM, aNil, aCons, aStar, eTup, eLst, eLstN, eCut, oNone, oSome, tVal, t2, tAndM, tOrM, tNotM, sNil, sSeq, sIf, sRet, sRetN, sSet, sAsg, gNm, gSubM, gTupM, gsNil, gsCons, sPar, sDrop, sRaise, eCall1, eCall, perm, fnM, endF, leave, leaveN, leaveE, beg, Res.bind_ok, Res.bind_err, sBind_ok, sBind_err, bLen, sqOf, e, dIx, ix]
end
end K12

/-! ### text K12q.src -/
namespace K12
open PySem PySem.Spec PyProof.Rows L2 L3
/-! ### sums -/
def sumB (w : String) (y p i : Int) : Int :=
  if w = "down" then i * y / p else if w = "near" then (2 * (i * y) + p) / (2 * p) else if w = "up" then 0 - (0 - i * y) / p else if w = "first" ∨ i = p then i * (y / p) + y - p * (y / p) else i * (y / p)
def IsWay (w : String) : Prop := w = "down" ∨ w = "near" ∨ w = "up" ∨ w = "first" ∨ w = "last"
section
variable {K : PySem.W.Frag} {w : String} {y p i : Int}
theorem behind_ok (hw : IsWay w) (hp : 1 ≤ p) (hp2 : p ≤ 24) (hi : 1 ≤ i) (hi2 : i ≤ 24) (st : Store) : mf_sum_behind K [.int y, .int p, .str (Str.ofString w), .int i] st = .ok (.int (sumB w y p i)) st := by
  have b1 : i.natAbs < 18446744073709551616 := by omega
  have b2 : p.natAbs < 18446744073709551616 := by omega
  have b3 : 0 < p := by omega
  have b4 : p < 1073741824 := by omega
  have b5 : 2 * p < 1073741824 := by omega
  have b8 : 0 < 2 * p := by omega
  rcases hw with rfl | rfl | rfl | rfl | rfl
  · simp [mf_sum_behind, m_sum_behind, eV, eC, e2, e1, eN, eIf, eAndM, eOrM, eNotM, aNil, aCons, aStar, eTup, eLst, eLstN, eCut, oNone, oSome, tVal, t2, tAndM, tOrM, tNotM, sNil, sSeq, sIf, sRet, sRetN, sSet, sAsg, gNm, gSubM, gTupM, gsNil, gsCons, sPar, sDrop, sRaise, eCall1, eCall, perm, fnM, endF, leave, leaveN, leaveE, beg, Res.bind_ok, Res.bind_err, sBind_ok, sBind_err, dEq_lit, dEq_int, dMul, dDiv, dAdd, dSub, b1, b2, b3, b4, b5, b8, sumB]
  · simp [mf_sum_behind, m_sum_behind, eV, eC, e2, e1, eN, eIf, eAndM, eOrM, eNotM, aNil, aCons, aStar, eTup, eLst, eLstN, eCut, oNone, oSome, tVal, t2, tAndM, tOrM, tNotM, sNil, sSeq, sIf, sRet, sRetN, sSet, sAsg, gNm, gSubM, gTupM, gsNil, gsCons, sPar, sDrop, sRaise, eCall1, eCall, perm, fnM, endF, leave, leaveN, leaveE, beg, Res.bind_ok, Res.bind_err, sBind_ok, sBind_err, dEq_lit, dEq_int, dMul, dDiv, dAdd, dSub, b1, b2, b3, b4, b5, b8, sumB]
  · simp [mf_sum_behind, m_sum_behind, eV, eC, e2, e1, eN, eIf, eAndM, eOrM, eNotM, aNil, aCons, aStar, eTup, eLst, eLstN, eCut, oNone, oSome, tVal, t2, tAndM, tOrM, tNotM, sNil, sSeq, sIf, sRet, sRetN, sSet, sAsg, gNm, gSubM, gTupM, gsNil, gsCons, sPar, sDrop, sRaise, eCall1, eCall, perm, fnM, endF, leave, leaveN, leaveE, beg, Res.bind_ok, Res.bind_err, sBind_ok, sBind_err, dEq_lit, dEq_int, dMul, dDiv, dAdd, dSub, b1, b2, b3, b4, b5, b8, sumB]
  · simp [mf_sum_behind, m_sum_behind, eV, eC, e2, e1, eN, eIf, eAndM, eOrM, eNotM, aNil, aCons, aStar, eTup, eLst, eLstN, eCut, oNone, oSome, tVal, t2, tAndM, tOrM, tNotM, sNil, sSeq, sIf, sRet, sRetN, sSet, sAsg, gNm, gSubM, gTupM, gsNil, gsCons, sPar, sDrop, sRaise, eCall1, eCall, perm, fnM, endF, leave, leaveN, leaveE, beg, Res.bind_ok, Res.bind_err, sBind_ok, sBind_err, dEq_lit, dEq_int, dMul, dDiv, dAdd, dSub, b1, b2, b3, b4, b5, b8, sumB]
  · by_cases h : i = p
    · subst h; simp [mf_sum_behind, m_sum_behind, eV, eC, e2, e1, eN, eIf, eAndM, eOrM, eNotM, aNil, aCons, aStar, eTup, eLst, eLstN, eCut, oNone, oSome, tVal, t2, tAndM, tOrM, tNotM, sNil, sSeq, sIf, sRet, sRetN, sSet, sAsg, gNm, gSubM, gTupM, gsNil, gsCons, sPar, sDrop, sRaise, eCall1, eCall, perm, fnM, endF, leave, leaveN, leaveE, beg, Res.bind_ok, Res.bind_err, sBind_ok, sBind_err, dEq_lit, dEq_int, dMul, dDiv, dAdd, dSub, b1, b2, b3, b4, b5, b8, sumB]
    · simp [mf_sum_behind, m_sum_behind, eV, eC, e2, e1, eN, eIf, eAndM, eOrM, eNotM, aNil, aCons, aStar, eTup, eLst, eLstN, eCut, oNone, oSome, tVal, t2, tAndM, tOrM, tNotM, sNil, sSeq, sIf, sRet, sRetN, sSet, sAsg, gNm, gSubM, gTupM, gsNil, gsCons, sPar, sDrop, sRaise, eCall1, eCall, perm, fnM, endF, leave, leaveN, leaveE, beg, Res.bind_ok, Res.bind_err, sBind_ok, sBind_err, dEq_lit, dEq_int, dMul, dDiv, dAdd, dSub, b1, b2, b3, b4, b5, b8, sumB, h]
theorem lsum_ok (hw : IsWay w) (hp : 1 ≤ p) (hp2 : p ≤ 24) (hi : 1 ≤ i) (hi2 : i ≤ 24) (st : Store) : mf__law_sum K [.int y, .int p, .str (Str.ofString w), .int i] st = .ok (.int (sumB w y p i)) st := by
  have b1 : i.natAbs < 18446744073709551616 := by omega
  have b2 : p.natAbs < 18446744073709551616 := by omega
  have b3 : 0 < p := by omega
  have b4 : p < 1073741824 := by omega
  have b5 : 2 * p < 1073741824 := by omega
  have b8 : 0 < 2 * p := by omega
  have b6 : (2 * i).natAbs < 18446744073709551616 := by omega
  have b7 : 0 < i := by omega
  rcases hw with rfl | rfl | rfl | rfl | rfl
  · simp [mf__law_sum, m__law_sum, eV, eC, e2, e1, eN, eIf, eAndM, eOrM, eNotM, aNil, aCons, aStar, eTup, eLst, eLstN, eCut, oNone, oSome, tVal, t2, tAndM, tOrM, tNotM, sNil, sSeq, sIf, sRet, sRetN, sSet, sAsg, gNm, gSubM, gTupM, gsNil, gsCons, sPar, sDrop, sRaise, eCall1, eCall, perm, fnM, endF, leave, leaveN, leaveE, beg, Res.bind_ok, Res.bind_err, sBind_ok, sBind_err, dEq_lit, dEq_int, dMul, dDiv, dAdd, dSub, dGt, b1, b2, b3, b4, b5, b8, b6, b7, sumB]
  · simp [mf__law_sum, m__law_sum, eV, eC, e2, e1, eN, eIf, eAndM, eOrM, eNotM, aNil, aCons, aStar, eTup, eLst, eLstN, eCut, oNone, oSome, tVal, t2, tAndM, tOrM, tNotM, sNil, sSeq, sIf, sRet, sRetN, sSet, sAsg, gNm, gSubM, gTupM, gsNil, gsCons, sPar, sDrop, sRaise, eCall1, eCall, perm, fnM, endF, leave, leaveN, leaveE, beg, Res.bind_ok, Res.bind_err, sBind_ok, sBind_err, dEq_lit, dEq_int, dMul, dDiv, dAdd, dSub, dGt, b1, b2, b3, b4, b5, b8, b6, b7, sumB, Int.mul_assoc]
  · simp [mf__law_sum, m__law_sum, eV, eC, e2, e1, eN, eIf, eAndM, eOrM, eNotM, aNil, aCons, aStar, eTup, eLst, eLstN, eCut, oNone, oSome, tVal, t2, tAndM, tOrM, tNotM, sNil, sSeq, sIf, sRet, sRetN, sSet, sAsg, gNm, gSubM, gTupM, gsNil, gsCons, sPar, sDrop, sRaise, eCall1, eCall, perm, fnM, endF, leave, leaveN, leaveE, beg, Res.bind_ok, Res.bind_err, sBind_ok, sBind_err, dEq_lit, dEq_int, dMul, dDiv, dAdd, dSub, dGt, b1, b2, b3, b4, b5, b8, b6, b7, sumB]
  · simp [mf__law_sum, m__law_sum, eV, eC, e2, e1, eN, eIf, eAndM, eOrM, eNotM, aNil, aCons, aStar, eTup, eLst, eLstN, eCut, oNone, oSome, tVal, t2, tAndM, tOrM, tNotM, sNil, sSeq, sIf, sRet, sRetN, sSet, sAsg, gNm, gSubM, gTupM, gsNil, gsCons, sPar, sDrop, sRaise, eCall1, eCall, perm, fnM, endF, leave, leaveN, leaveE, beg, Res.bind_ok, Res.bind_err, sBind_ok, sBind_err, dEq_lit, dEq_int, dMul, dDiv, dAdd, dSub, dGt, b1, b2, b3, b4, b5, b8, b6, b7, sumB]
    omega
  · by_cases h : i = p
    · subst h; simp [mf__law_sum, m__law_sum, eV, eC, e2, e1, eN, eIf, eAndM, eOrM, eNotM, aNil, aCons, aStar, eTup, eLst, eLstN, eCut, oNone, oSome, tVal, t2, tAndM, tOrM, tNotM, sNil, sSeq, sIf, sRet, sRetN, sSet, sAsg, gNm, gSubM, gTupM, gsNil, gsCons, sPar, sDrop, sRaise, eCall1, eCall, perm, fnM, endF, leave, leaveN, leaveE, beg, Res.bind_ok, Res.bind_err, sBind_ok, sBind_err, dEq_lit, dEq_int, dMul, dDiv, dAdd, dSub, dGt, b1, b2, b3, b4, b5, b8, b6, b7, sumB]; omega
    · simp [mf__law_sum, m__law_sum, eV, eC, e2, e1, eN, eIf, eAndM, eOrM, eNotM, aNil, aCons, aStar, eTup, eLst, eLstN, eCut, oNone, oSome, tVal, t2, tAndM, tOrM, tNotM, sNil, sSeq, sIf, sRet, sRetN, sSet, sAsg, gNm, gSubM, gTupM, gsNil, gsCons, sPar, sDrop, sRaise, eCall1, eCall, perm, fnM, endF, leave, leaveN, leaveE, beg, Res.bind_ok, Res.bind_err, sBind_ok, sBind_err, dEq_lit, dEq_int, dMul, dDiv, dAdd, dSub, dGt, b1, b2, b3, b4, b5, b8, b6, b7, sumB, h]
end
end K12

/-! ### text K12r.src -/
namespace K12
open PySem PySem.Spec PyProof.Rows L2 L3
section
variable {K : PySem.W.Frag} {w : String} {y p i : Int}
/-- the sums behind 1, 2, .., p -/
def sumsL (w : String) (y p : Int) : List Int := (List.range p.toNat).map fun (j : Nat) => sumB w y p (1 + (j : Int))
theorem sums_of_ok (hw : IsWay w) (hp : 1 ≤ p) (hp2 : p ≤ 24) (st : Store) : mf_sums_of K [.int y, .int p, .str (Str.ofString w)] st = .ok (.fl ((sumsL w y p).map D.int)) st := by
  have hr : -4611686018427387904 ≤ p + 1 ∧ p + 1 < 4611686018427387904 := by omega
  have key := lcL_map (keep := fun _ => True) (t := .one 3) (m := eCall1 (mf_sum_behind K) (aCons (eV 0) (aCons (eV 1) (aCons (eV 2) (aCons (eV 3) aNil))))) (δ := wipeD [some (.int y), some (.int p), some (.str (Str.ofString w)), none] [3]) (st := st)
    (fun d => match d with | .int i => .int (sumB w y p i) | d => d) trivial (rangeD 1 p.toNat) [] (by simp [rangeD]; omega) (fun d hd => by
      simp only [rangeD, List.mem_map, List.mem_range] at hd
      obtain ⟨j, hj, rfl⟩ := hd
      refine ⟨_, rfl, ?_⟩
      simp [wipeD, eV, eC, e2, e1, eN, eIf, eAndM, eOrM, eNotM, aNil, aCons, aStar, eTup, eLst, eLstN, eCut, oNone, oSome, tVal, t2, tAndM, tOrM, tNotM, sNil, sSeq, sIf, sRet, sRetN, sSet, sAsg, gNm, gSubM, gTupM, gsNil, gsCons, sPar, sDrop, sRaise, eCall1, eCall, perm, fnM, endF, leave, leaveN, leaveE, beg, Res.bind_ok, Res.bind_err, sBind_ok, sBind_err, behind_ok hw hp hp2 (show 1 ≤ 1 + (j : Int) by omega) (show 1 + (j : Int) ≤ 24 by omega)])
  simp [mf_sums_of, m_sums_of, eV, eC, e2, e1, eN, eIf, eAndM, eOrM, eNotM, aNil, aCons, aStar, eTup, eLst, eLstN, eCut, oNone, oSome, tVal, t2, tAndM, tOrM, tNotM, sNil, sSeq, sIf, sRet, sRetN, sSet, sAsg, gNm, gSubM, gTupM, gsNil, gsCons, sPar, sDrop, sRaise, eCall1, eCall, perm, fnM, endF, leave, leaveN, leaveE, beg, Res.bind_ok, Res.bind_err, sBind_ok, sBind_err, eLC, iRange2, dAdd, hr.1, hr.2, key]
  simp [rangeD, sumsL]
theorem lsums_ok (hw : IsWay w) (hp : 1 ≤ p) (hp2 : p ≤ 24) (st : Store) : mf__law_sums K [.int y, .int p, .str (Str.ofString w)] st = .ok (.fl ((sumsL w y p).map D.int)) st := by
  have hr : -4611686018427387904 ≤ p + 1 ∧ p + 1 < 4611686018427387904 := by omega
  have key := lcL_map (keep := fun _ => True) (t := .one 3) (m := eCall1 (mf__law_sum K) (aCons (eV 0) (aCons (eV 1) (aCons (eV 2) (aCons (eV 3) aNil))))) (δ := wipeD [some (.int y), some (.int p), some (.str (Str.ofString w)), none] [3]) (st := st)
    (fun d => match d with | .int i => .int (sumB w y p i) | d => d) trivial (rangeD 1 p.toNat) [] (by simp [rangeD]; omega) (fun d hd => by
      simp only [rangeD, List.mem_map, List.mem_range] at hd
      obtain ⟨j, hj, rfl⟩ := hd
      refine ⟨_, rfl, ?_⟩
      simp [wipeD, eV, eC, e2, e1, eN, eIf, eAndM, eOrM, eNotM, aNil, aCons, aStar, eTup, eLst, eLstN, eCut, oNone, oSome, tVal, t2, tAndM, tOrM, tNotM, sNil, sSeq, sIf, sRet, sRetN, sSet, sAsg, gNm, gSubM, gTupM, gsNil, gsCons, sPar, sDrop, sRaise, eCall1, eCall, perm, fnM, endF, leave, leaveN, leaveE, beg, Res.bind_ok, Res.bind_err, sBind_ok, sBind_err, lsum_ok hw hp hp2 (show 1 ≤ 1 + (j : Int) by omega) (show 1 + (j : Int) ≤ 24 by omega)])
  simp [mf__law_sums, m__law_sums, eV, eC, e2, e1, eN, eIf, eAndM, eOrM, eNotM, aNil, aCons, aStar, eTup, eLst, eLstN, eCut, oNone, oSome, tVal, t2, tAndM, tOrM, tNotM, sNil, sSeq, sIf, sRet, sRetN, sSet, sAsg, gNm, gSubM, gTupM, gsNil, gsCons, sPar, sDrop, sRaise, eCall1, eCall, perm, fnM, endF, leave, leaveN, leaveE, beg, Res.bind_ok, Res.bind_err, sBind_ok, sBind_err, eLC, iRange2, dAdd, hr.1, hr.2, key]
  simp [rangeD, sumsL]
end
end K12

/-! ### text K12t.src -/
namespace K12
open PySem PySem.Spec PyProof.Rows L2 L3
/-- the parts: each sum less the one before -/
def diffs : Int → List Int → List Int
  | _, [] => []
  | a, b :: r => (b - a) :: diffs b r
def partsL (w : String) (y p : Int) : List Int := diffs 0 (sumsL w y p)
theorem zip_diffs : ∀ (a : Int) (l : List Int), (zipD (D.int a :: l.map D.int) (l.map D.int)).map (fun d => match d with | .tup [.int x, .int z] => D.int (z - x) | d => d) = (diffs a l).map D.int
  | _, [] => rfl
  | a, b :: r => by
    simp only [List.map_cons, zipD, diffs]
    rw [zip_diffs b r]
theorem zipD_ints : ∀ (a : Int) (l : List Int), ∀ d ∈ zipD (D.int a :: l.map D.int) (l.map D.int), ∃ x z : Int, d = .tup [.int x, .int z]
  | _, [], d, h => by simp [zipD] at h
  | a, b :: r, d, h => by
    simp only [List.map_cons, zipD, List.mem_cons] at h
    rcases h with rfl | h
    · exact ⟨a, b, rfl⟩
    · exact zipD_ints b r d h
theorem zipD_len1 (a : Int) (l : List Int) : (zipD (D.int a :: l.map D.int) (l.map D.int)).length = l.length := by
  rw [zipD_len]; simp
theorem diffs_len : ∀ (a : Int) (l : List Int), (diffs a l).length = l.length
  | _, [] => rfl
  | a, b :: r => by simp [diffs, diffs_len b r]
theorem diffs_get : ∀ (a : Int) (l : List Int) (j : Nat), j < l.length → (diffs a l)[j]? = some ((a :: l).getD (j + 1) 0 - (a :: l).getD j 0)
  | _, [], j, h => by simp at h
  | a, b :: r, 0, h => by simp [diffs]
  | a, b :: r, j + 1, h => by
    have := diffs_get b r j (by simpa using h)
    simpa [diffs] using this
theorem atI_ints {l : List Int} {i : Nat} (h : i < l.length) : atI (l.map D.int) (i : Int) = some (.int (l.getD i 0)) := by
  unfold atI ixN
  rw [if_pos (by omega), if_pos (by simpa using h)]
  simp [h]
section
variable {K : PySem.W.Frag} {w : String} {y p i : Int}
theorem sumsL_len : (sumsL w y p).length = p.toNat := by simp [sumsL]
theorem parts_ok (hw : IsWay w) (hp : 1 ≤ p) (hp2 : p ≤ 24) (st : Store) : mf_parts_of K [.int y, .int p, .str (Str.ofString w)] st = .ok (.fl ((partsL w y p).map D.int)) st := by
  have key := lcL_map (keep := fun _ => True) (t := .tup [.one 4, .one 5]) (m := L3.e2 dSub (eV 5) (eV 4)) (δ := wipeD [some (.int y), some (.int p), some (.str (Str.ofString w)), some (.fl ((sumsL w y p).map D.int)), none, none] [4, 5]) (st := st)
    (fun d => match d with | .tup [.int x, .int z] => .int (z - x) | d => d) trivial (zipD (D.int 0 :: (sumsL w y p).map D.int) ((sumsL w y p).map D.int)) [] (by rw [zipD_len1, sumsL_len]; simp; omega) (fun d hd => by
      obtain ⟨x, z, rfl⟩ := zipD_ints 0 _ d hd
      refine ⟨_, rfl, ?_⟩
      simp [wipeD, eV, eC, e2, e1, eN, eIf, eAndM, eOrM, eNotM, aNil, aCons, aStar, eTup, eLst, eLstN, eCut, oNone, oSome, tVal, t2, tAndM, tOrM, tNotM, sNil, sSeq, sIf, sRet, sRetN, sSet, sAsg, gNm, gSubM, gTupM, gsNil, gsCons, sPar, sDrop, sRaise, eCall1, eCall, perm, fnM, endF, leave, leaveN, leaveE, beg, Res.bind_ok, Res.bind_err, sBind_ok, sBind_err, dSub])
  rw [zip_diffs] at key
  have l1 : p.toNat ≤ 999999 := by omega
  simp [mf_parts_of, m_parts_of, eV, eC, e2, e1, eN, eIf, eAndM, eOrM, eNotM, aNil, aCons, aStar, eTup, eLst, eLstN, eCut, oNone, oSome, tVal, t2, tAndM, tOrM, tNotM, sNil, sSeq, sIf, sRet, sRetN, sSet, sAsg, gNm, gSubM, gTupM, gsNil, gsCons, sPar, sDrop, sRaise, eCall1, eCall, perm, fnM, endF, leave, leaveN, leaveE, beg, Res.bind_ok, Res.bind_err, sBind_ok, sBind_err, eLC, L3.iZip, sqOf, lsOf, sums_of_ok hw hp hp2, keepOf, key, partsL, sumsL_len, l1]
theorem lparts_ok (hw : IsWay w) (hp : 1 ≤ p) (hp2 : p ≤ 24) (st : Store) : mf__law_accrued K [.int y, .int p, .str (Str.ofString w)] st = .ok (.fl ((partsL w y p).map D.int)) st := by
  have hl := sumsL_len (w := w) (y := y) (p := p)
  have hr : -4611686018427387904 ≤ p ∧ p < 4611686018427387904 := by omega
  have key := lcL_map (keep := fun _ => True) (t := .one 4) (m := L3.e2 dSub (L3.e2 dIx (eV 3) (L3.e2 dAdd (eV 4) (eC (.int 1)))) (L3.e2 dIx (eV 3) (eV 4))) (δ := wipeD [some (.int y), some (.int p), some (.str (Str.ofString w)), some (.fl ((0 :: sumsL w y p).map D.int)), none] [4]) (st := st)
    (fun d => match d with | .int i => .int ((0 :: sumsL w y p).getD (i.toNat + 1) 0 - (0 :: sumsL w y p).getD i.toNat 0) | d => d) trivial (rangeD 0 p.toNat) [] (by simp [rangeD]; omega) (fun d hd => by
      simp only [rangeD, List.mem_map, List.mem_range] at hd
      obtain ⟨j, hj, rfl⟩ := hd
      refine ⟨_, rfl, ?_⟩
      have h1 := atI_ints (l := 0 :: sumsL w y p) (i := j + 1) (by simp [hl]; omega)
      have h2 := atI_ints (l := 0 :: sumsL w y p) (i := j) (by simp [hl]; omega)
      have h3 : ((j : Int) + 1) = ((j + 1 : Nat) : Int) := by omega
      generalize hL : (0 :: sumsL w y p) = L at *
      simp [wipeD, eV, eC, e2, e1, eN, eIf, eAndM, eOrM, eNotM, aNil, aCons, aStar, eTup, eLst, eLstN, eCut, oNone, oSome, tVal, t2, tAndM, tOrM, tNotM, sNil, sSeq, sIf, sRet, sRetN, sSet, sAsg, gNm, gSubM, gTupM, gsNil, gsCons, sPar, sDrop, sRaise, eCall1, eCall, perm, fnM, endF, leave, leaveN, leaveE, beg, Res.bind_ok, Res.bind_err, sBind_ok, sBind_err, dSub, dAdd, dIx, sqOf, lsOf, h2]
      rw [h3, h1]
      simp)
  have e : (rangeD 0 p.toNat).map (fun d => match d with | .int i => D.int ((0 :: sumsL w y p).getD (i.toNat + 1) 0 - (0 :: sumsL w y p).getD i.toNat 0) | d => d) = (partsL w y p).map D.int := by
    refine List.ext_getElem? fun j => ?_
    by_cases hj : j < p.toNat
    · rw [List.getElem?_map, List.getElem?_map, show (partsL w y p)[j]? = _ from diffs_get 0 _ j (by rw [hl]; exact hj)]
      simp [rangeD, hj]
    · rw [List.getElem?_eq_none (by simp [rangeD]; omega), List.getElem?_eq_none (by simp [partsL, diffs_len, hl]; omega)]
  rw [e] at key
  have l2 : 1 + p.toNat ≤ 1000000 := by omega
  simp only [List.map_cons] at key
  simp [mf__law_accrued, m__law_accrued, eV, eC, e2, e1, eN, eIf, eAndM, eOrM, eNotM, aNil, aCons, aStar, eTup, eLst, eLstN, eCut, oNone, oSome, tVal, t2, tAndM, tOrM, tNotM, sNil, sSeq, sIf, sRet, sRetN, sSet, sAsg, gNm, gSubM, gTupM, gsNil, gsCons, sPar, sDrop, sRaise, eCall1, eCall, perm, fnM, endF, leave, leaveN, leaveE, beg, Res.bind_ok, Res.bind_err, sBind_ok, sBind_err, eLC, iRange1, dAdd, trOf, lsums_ok hw hp hp2, hr.1, hr.2, hl, l2, key]
theorem way_in (hw : IsWay w) (st : Store) : dIn false (.str (Str.ofString w)) (.tup (dv_WAYS.map (dvD K))) st = .ok (.bl true) st := by
  rcases hw with rfl | rfl | rfl | rfl | rfl <;> simp [dIn, dv_WAYS, dvD, sqOf, fV, fVs, inV, eqV, lit_eq]
theorem chk_way (F : Pf K) (hw : IsWay w) (st : Store) : mf_check_way K [.str (Str.ofString w)] st = .ok .non st := by
  simp [mf_check_way, m_check_way, mf_is_one_of, m_is_one_of, eV, eC, e2, e1, eN, eIf, eAndM, eOrM, eNotM, aNil, aCons, aStar, eTup, eLst, eLstN, eCut, oNone, oSome, tVal, t2, tAndM, tOrM, tNotM, sNil, sSeq, sIf, sRet, sRetN, sSet, sAsg, gNm, gSubM, gTupM, gsNil, gsCons, sPar, sDrop, sRaise, eCall1, eCall, perm, fnM, endF, leave, leaveN, leaveE, beg, Res.bind_ok, Res.bind_err, sBind_ok, sBind_err, bIsi, tyD, clsD, okTy, F.str_str, way_in hw]
theorem chk_parted (F : Pf K) (hw : IsWay w) (hy : 0 ≤ y) (hy2 : y ≤ 1000000) (hp : 1 ≤ p) (hp2 : p ≤ 24) (st : Store) : mf_check_parted K [.int y, .int p, .str (Str.ofString w)] st = .ok .non st := by
  simp [mf_check_parted, m_check_parted, eV, eC, e2, e1, eN, eIf, eAndM, eOrM, eNotM, aNil, aCons, aStar, eTup, eLst, eLstN, eCut, oNone, oSome, tVal, t2, tAndM, tOrM, tNotM, sNil, sSeq, sIf, sRet, sRetN, sSet, sAsg, gNm, gSubM, gTupM, gsNil, gsCons, sPar, sDrop, sRaise, eCall1, eCall, perm, fnM, endF, leave, leaveN, leaveE, beg, Res.bind_ok, Res.bind_err, sBind_ok, sBind_err, chk_int F, hy, hy2, hp, hp2, chk_way F hw]
theorem accrued_ok (F : Pf K) (hw : IsWay w) (hy : 0 ≤ y) (hy2 : y ≤ 1000000) (hp : 1 ≤ p) (hp2 : p ≤ 24) (st : Store) : mf_accrued K [.int y, .int p, .str (Str.ofString w)] st = .ok (.tup ((partsL w y p).map D.int)) st := by
  simp [mf_accrued, m_accrued, eV, eC, e2, e1, eN, eIf, eAndM, eOrM, eNotM, aNil, aCons, aStar, eTup, eLst, eLstN, eCut, oNone, oSome, tVal, t2, tAndM, tOrM, tNotM, sNil, sSeq, sIf, sRet, sRetN, sSet, sAsg, gNm, gSubM, gTupM, gsNil, gsCons, sPar, sDrop, sRaise, eCall1, eCall, perm, fnM, endF, leave, leaveN, leaveE, beg, Res.bind_ok, Res.bind_err, sBind_ok, sBind_err, chk_parted F hw hy hy2 hp hp2, parts_ok hw hp hp2, bTuple, sqOf, lsOf]
theorem sums_ok (F : Pf K) (hw : IsWay w) (hy : 0 ≤ y) (hy2 : y ≤ 1000000) (hp : 1 ≤ p) (hp2 : p ≤ 24) (st : Store) : mf_sums K [.int y, .int p, .str (Str.ofString w)] st = .ok (.tup ((sumsL w y p).map D.int)) st := by
  simp [mf_sums, m_sums, eV, eC, e2, e1, eN, eIf, eAndM, eOrM, eNotM, aNil, aCons, aStar, eTup, eLst, eLstN, eCut, oNone, oSome, tVal, t2, tAndM, tOrM, tNotM, sNil, sSeq, sIf, sRet, sRetN, sSet, sAsg, gNm, gSubM, gTupM, gsNil, gsCons, sPar, sDrop, sRaise, eCall1, eCall, perm, fnM, endF, leave, leaveN, leaveE, beg, Res.bind_ok, Res.bind_err, sBind_ok, sBind_err, chk_parted F hw hy hy2 hp hp2, sums_of_ok hw hp hp2, bTuple, sqOf, lsOf]
end
end K12

/-! ### text K12u.src -/
namespace K12
open PySem PySem.Spec PyProof.Rows L2 L3
def subs : List Int → List Int → List Int
  | a :: r, b :: t => (a - b) :: subs r t
  | _, _ => []
theorem zip_subs : ∀ (l m : List Int), (zipD (l.map D.int) (m.map D.int)).map (fun d => match d with | .tup [.int x, .int z] => D.int (x - z) | d => d) = (subs l m).map D.int
  | [], m => by simp [zipD, subs]
  | _ :: _, [] => by simp [zipD, subs]
  | a :: r, b :: t => by
    simp only [List.map_cons, zipD, subs]
    rw [zip_subs r t]
theorem zip_ints2 : ∀ (l m : List Int), ∀ d ∈ zipD (l.map D.int) (m.map D.int), ∃ x z : Int, d = .tup [.int x, .int z]
  | [], m, d, h => by simp [zipD] at h
  | _ :: _, [], d, h => by simp [zipD] at h
  | a :: r, b :: t, d, h => by
    simp only [List.map_cons, zipD, List.mem_cons] at h
    rcases h with rfl | h
    · exact ⟨a, b, rfl⟩
    · exact zip_ints2 r t d h
theorem subs_len : ∀ (l m : List Int), l.length = m.length → (subs l m).length = l.length
  | [], _, _ => by simp [subs]
  | a :: r, [], h => by simp at h
  | a :: r, b :: t, h => by simp [subs, subs_len r t (by simpa using h)]
def gapL (w v : String) (y p : Int) : Int := maxI (subs (sumsL w y p) (sumsL v y p))
section
variable {K : PySem.W.Frag} {w v : String} {y p i : Int}
theorem gap_lc {st : Store} {δ : Sl} {a b : Nat} (hp : 1 ≤ p) (hp2 : p ≤ 24) (ha : a < δ.length) (hb : b < δ.length) (hab : a ≠ b) :
    lcL (fun _ => True) (.tup [.one a, .one b]) tYesM (L3.e2 dSub (eV a) (eV b)) δ (zipD ((sumsL w y p).map D.int) ((sumsL v y p).map D.int)) [] st = .ok ((subs (sumsL w y p) (sumsL v y p)).map D.int) st := by
  have key := lcL_map (keep := fun _ => True) (t := .tup [.one a, .one b]) (m := L3.e2 dSub (eV a) (eV b)) (δ := δ) (st := st)
    (fun d => match d with | .tup [.int x, .int z] => .int (x - z) | d => d) trivial (zipD ((sumsL w y p).map D.int) ((sumsL v y p).map D.int)) [] (by rw [zipD_len]; simp [sumsL_len]; omega) (fun d hd => by
      obtain ⟨x, z, rfl⟩ := zip_ints2 _ _ d hd
      refine ⟨_, rfl, ?_⟩
      have g1 : ((δ.set a (some (D.int x))).set b (some (D.int z)))[a]? = some (some (D.int x)) := by
        rw [List.getElem?_set_ne hab.symm, List.getElem?_set_self ha]
      have g2 : ((δ.set a (some (D.int x))).set b (some (D.int z)))[b]? = some (some (D.int z)) := List.getElem?_set_self (by simpa using hb)
      simp only [L3.e2, eV, g1, g2, Res.bind_ok, dSub])
  rw [zip_subs] at key
  exact key
theorem gap_ok (F : Pf K) (hw : IsWay w) (hv : IsWay v) (hy : 0 ≤ y) (hy2 : y ≤ 1000000) (hp : 1 ≤ p) (hp2 : p ≤ 24) (st : Store) : mf_greatest_gap K [.int y, .int p, .str (Str.ofString w), .str (Str.ofString v)] st = .ok (.int (gapL w v y p)) st := by
  have key := gap_lc (w := w) (v := v) (y := y) (p := p) (st := st) (a := 6) (b := 7) (δ := wipeD [some (.int y), some (.int p), some (.str (Str.ofString w)), some (.str (Str.ofString v)), some (.fl ((sumsL w y p).map D.int)), some (.fl ((sumsL v y p).map D.int)), none, none] [6, 7]) hp hp2 (by simp [wipeD]) (by simp [wipeD]) (by decide)
  have hpos : 0 < (subs (sumsL w y p) (sumsL v y p)).length := by
    rw [subs_len _ _ (by rw [sumsL_len, sumsL_len]), sumsL_len]; omega
  simp [mf_greatest_gap, m_greatest_gap, eV, eC, e2, e1, eN, eIf, eAndM, eOrM, eNotM, aNil, aCons, aStar, eTup, eLst, eLstN, eCut, oNone, oSome, tVal, t2, tAndM, tOrM, tNotM, sNil, sSeq, sIf, sRet, sRetN, sSet, sAsg, gNm, gSubM, gTupM, gsNil, gsCons, sPar, sDrop, sRaise, eCall1, eCall, perm, fnM, endF, leave, leaveN, leaveE, beg, Res.bind_ok, Res.bind_err, sBind_ok, sBind_err, chk_parted F hw hy hy2 hp hp2, chk_way F hv, sums_of_ok hw hp hp2, sums_of_ok hv hp hp2, eLC, L3.iZip, lsOf, keepOf, key, bMax, sqOf, isInts_map, hpos, gapL]
end
/-! ### the errors -/
/-- what is asked of a wrong one: nothing that check_number takes -/
def NoNum (d : D) (a b : Int) : Prop := d = .non ∨ (∃ k, d = .bl k) ∨ (∃ s : String, d = .str (Str.ofString s)) ∨ ∃ i, d = .int i ∧ ¬ (a ≤ i ∧ i ≤ b)
theorem chk_bad {K : PySem.W.Frag} (F : Pf K) {d : D} {a b : Int} (h : NoNum d a b) (st : Store) : mf_check_number K [d, .int a, .int b] st = .err (He.ga K "InvalidNumber") (some ("given", d)) st := by
  rcases h with rfl | ⟨k, rfl⟩ | ⟨s, rfl⟩ | ⟨i, rfl, h⟩
  · exact chk_non F a b st
  · exact chk_bl F k a b st
  · exact chk_str F _ a b st
  · rw [chk_int F, if_neg h]
/-- a way that is none -/
def NoWay (d : D) : Prop := d = .non ∨ (∃ i, d = .int i) ∨ d = .tup [.str "down"] ∨ d = .fl [.str "up"] ∨ d = .str "Down" ∨ d = .str "" ∨ d = .str "most"
theorem way_bad {K : PySem.W.Frag} (F : Pf K) {d : D} (h : NoWay d) (st : Store) : mf_check_way K [d] st = .err (He.ga K "InvalidWay") (some ("given", d)) st := by
  rcases h with rfl | ⟨i, rfl⟩ | rfl | rfl | rfl | rfl | rfl
  · simp [mf_check_way, m_check_way, mf_is_one_of, m_is_one_of, eV, eC, e2, e1, eN, eIf, eAndM, eOrM, eNotM, aNil, aCons, aStar, eTup, eLst, eLstN, eCut, oNone, oSome, tVal, t2, tAndM, tOrM, tNotM, sNil, sSeq, sIf, sRet, sRetN, sSet, sAsg, gNm, gSubM, gTupM, gsNil, gsCons, sPar, sDrop, sRaise, eCall1, eCall, perm, fnM, endF, leave, leaveN, leaveE, beg, Res.bind_ok, Res.bind_err, sBind_ok, sBind_err, bIsi, tyD, clsD, okTy, F.non_str]
  · simp [mf_check_way, m_check_way, mf_is_one_of, m_is_one_of, eV, eC, e2, e1, eN, eIf, eAndM, eOrM, eNotM, aNil, aCons, aStar, eTup, eLst, eLstN, eCut, oNone, oSome, tVal, t2, tAndM, tOrM, tNotM, sNil, sSeq, sIf, sRet, sRetN, sSet, sAsg, gNm, gSubM, gTupM, gsNil, gsCons, sPar, sDrop, sRaise, eCall1, eCall, perm, fnM, endF, leave, leaveN, leaveE, beg, Res.bind_ok, Res.bind_err, sBind_ok, sBind_err, bIsi, tyD, clsD, okTy, F.int_str]
  · simp [mf_check_way, m_check_way, mf_is_one_of, m_is_one_of, eV, eC, e2, e1, eN, eIf, eAndM, eOrM, eNotM, aNil, aCons, aStar, eTup, eLst, eLstN, eCut, oNone, oSome, tVal, t2, tAndM, tOrM, tNotM, sNil, sSeq, sIf, sRet, sRetN, sSet, sAsg, gNm, gSubM, gTupM, gsNil, gsCons, sPar, sDrop, sRaise, eCall1, eCall, perm, fnM, endF, leave, leaveN, leaveE, beg, Res.bind_ok, Res.bind_err, sBind_ok, sBind_err, bIsi, tyD, clsD, okTy, F.tup_str]
  · simp [mf_check_way, m_check_way, mf_is_one_of, m_is_one_of, eV, eC, e2, e1, eN, eIf, eAndM, eOrM, eNotM, aNil, aCons, aStar, eTup, eLst, eLstN, eCut, oNone, oSome, tVal, t2, tAndM, tOrM, tNotM, sNil, sSeq, sIf, sRet, sRetN, sSet, sAsg, gNm, gSubM, gTupM, gsNil, gsCons, sPar, sDrop, sRaise, eCall1, eCall, perm, fnM, endF, leave, leaveN, leaveE, beg, Res.bind_ok, Res.bind_err, sBind_ok, sBind_err, bIsi, tyD, clsD, okTy, F.lst_str]
  all_goals simp [mf_check_way, m_check_way, mf_is_one_of, m_is_one_of, eV, eC, e2, e1, eN, eIf, eAndM, eOrM, eNotM, aNil, aCons, aStar, eTup, eLst, eLstN, eCut, oNone, oSome, tVal, t2, tAndM, tOrM, tNotM, sNil, sSeq, sIf, sRet, sRetN, sSet, sAsg, gNm, gSubM, gTupM, gsNil, gsCons, sPar, sDrop, sRaise, eCall1, eCall, perm, fnM, endF, leave, leaveN, leaveE, beg, Res.bind_ok, Res.bind_err, sBind_ok, sBind_err, bIsi, tyD, clsD, okTy, F.str_str, dIn, dv_WAYS, dvD, sqOf, fV, fVs, inV, eqV, lit_eq]
end K12

/-! ### text K12v.src -/
namespace K12
open PySem PySem.Spec PyProof.Rows L2 L3
/-! ### the same shown text -/
section
variable {K : PySem.W.Frag}
theorem is_ok {x y : D} {p : PyData} {st : Store} (h1 : toPd x st = some p) (h2 : toPd y st = some p) (hr : reprOk p = true) : mf__law_is K [x, y] st = .ok (.bl true) st := by
  simp [mf__law_is, m__law_is, eV, eC, e2, e1, eN, eIf, eAndM, eOrM, eNotM, aNil, aCons, aStar, eTup, eLst, eLstN, eCut, oNone, oSome, tVal, t2, tAndM, tOrM, tNotM, sNil, sSeq, sIf, sRet, sRetN, sSet, sAsg, gNm, gSubM, gTupM, gsNil, gsCons, sPar, sDrop, sRaise, eCall1, eCall, perm, fnM, endF, leave, leaveN, leaveE, beg, Res.bind_ok, Res.bind_err, sBind_ok, sBind_err, bRepr, h1, h2, hr, dEq_str]
/-- a value that is shown short -/
structure Good (d : D) (p : PyData) : Prop where
  pd : ∀ st, toPd d st = some p
  rp : reprOk p = true
  po : pok (.str p.shown) = true
  le : p.shown.length ≤ 40
theorem repr_ok {d : D} {p : PyData} (g : Good d p) (st : Store) : bRepr [d] st = .ok (.str p.shown) st := by
  simp [bRepr, g.pd, g.rp]
theorem refused_num (F : Pf K) {d : D} {p : PyData} (g : Good d p) {f : Addr} {ap : List D → Store → Res D} {st : Store} (h : ap [] st = .err (He.ga K "InvalidNumber") (some ("given", d)) st) : mf__law_refused K f ap [.ref f] st = .ok (.fl [.str "number", .str p.shown]) st := by
  simp [mf__law_refused, m__law_refused, eV, eC, e2, e1, eN, eIf, eAndM, eOrM, eNotM, aNil, aCons, aStar, eTup, eLst, eLstN, eCut, oNone, oSome, tVal, t2, tAndM, tOrM, tNotM, sNil, sSeq, sIf, sRet, sRetN, sSet, sAsg, gNm, gSubM, gTupM, gsNil, gsCons, sPar, sDrop, sRaise, eCall1, eCall, perm, fnM, endF, leave, leaveN, leaveE, beg, Res.bind_ok, Res.bind_err, sBind_ok, sBind_err, sTry, sHandle, eClo, eXf, dropE, h, F.nn, repr_ok g]
theorem refused_way (F : Pf K) {d : D} {p : PyData} (g : Good d p) {f : Addr} {ap : List D → Store → Res D} {st : Store} (h : ap [] st = .err (He.ga K "InvalidWay") (some ("given", d)) st) : mf__law_refused K f ap [.ref f] st = .ok (.fl [.str "way", .str p.shown]) st := by
  simp [mf__law_refused, m__law_refused, eV, eC, e2, e1, eN, eIf, eAndM, eOrM, eNotM, aNil, aCons, aStar, eTup, eLst, eLstN, eCut, oNone, oSome, tVal, t2, tAndM, tOrM, tNotM, sNil, sSeq, sIf, sRet, sRetN, sSet, sAsg, gNm, gSubM, gTupM, gsNil, gsCons, sPar, sDrop, sRaise, eCall1, eCall, perm, fnM, endF, leave, leaveN, leaveE, beg, Res.bind_ok, Res.bind_err, sBind_ok, sBind_err, sTry, sHandle, eClo, eXf, dropE, h, F.wn, F.ww, repr_ok g]
end
/-! ### the wells -/
def Sh (st : Store) : Prop := ∀ c ∈ st, ∀ n0, shutC n0 c = true
def AllW (st : Store) (n : Nat) : Prop := Well st n ∧ Sh st
theorem AllW.well {st : Store} {n : Nat} (h : AllW st n) : Well st n := h.1
theorem AllW.lt {st : Store} {n : Nat} (h : AllW st n) : n < st.length := by
  obtain ⟨a, b, c, e⟩ := h.1
  exact (List.getElem?_eq_some_iff.mp e).1
theorem AllW.set {st : Store} {n : Nat} (h : AllW st n) {c : Cell} (w : Well (st.set n c) n) : AllW (st.set n c) n := by
  refine ⟨w, fun x hx n0 => ?_⟩
  rcases List.mem_or_eq_of_mem_set hx with hx | rfl
  · exact h.2 x hx n0
  · obtain ⟨a, b, d, e⟩ := w
    rw [List.getElem?_set_self h.lt] at e
    cases e
    rfl
theorem AllW.shut {st : Store} {n : Nat} (h : AllW st n) (n0 : Nat) : st.all (shutC n0) = true := by
  rw [List.all_eq_true]
  exact fun c hc => h.2 c hc n0
theorem AllW.app {st : Store} {n : Nat} (h : AllW st n) {c : Cell} (hc : ∀ n0, shutC n0 c = true) : AllW (st ++ [c]) n := by
  refine ⟨?_, fun x hx n0 => ?_⟩
  · obtain ⟨a, b, d, e⟩ := h.1
    exact ⟨a, b, d, by rw [List.getElem?_append_left h.lt]; exact e⟩
  · rcases List.mem_append.mp hx with hx | hx
    · exact h.2 x hx n0
    · rw [List.mem_singleton.mp hx]; exact hc n0
theorem AllW.take {st : Store} {n m : Nat} (h : AllW st n) (hm : n < m) : AllW (st.take m) n := by
  refine ⟨?_, fun x hx n0 => h.2 x (List.mem_of_mem_take hx) n0⟩
  obtain ⟨a, b, d, e⟩ := h.1
  exact ⟨a, b, d, by rw [List.getElem?_take_of_lt hm]; exact e⟩
section
variable {K : PySem.W.Frag}
theorem drawA {st : Store} {n : Nat} {l : Int} (h : AllW st n) (h0 : 0 < l) (h1 : l < 1073741824) : ∃ (v : Int) (st' : Store), mf__law_draw K [.loc n, .int l] st = .ok (.int v) st' ∧ 0 ≤ v ∧ v < l ∧ AllW st' n ∧ st'.length = st.length := by
  obtain ⟨v, c, e, a, b, w⟩ := draw_ok (K := K) h.well h0 h1
  exact ⟨v, _, e, a, b, h.set w, by simp⟩
theorem ofA {st : Store} {n : Nat} {xs : List D} (h : AllW st n) (h0 : 0 < xs.length) (h1 : xs.length < 1073741824) : ∃ (d : D) (st' : Store), d ∈ xs ∧ mf__law_of K [.loc n, .tup xs] st = .ok d st' ∧ AllW st' n ∧ st'.length = st.length := by
  obtain ⟨i, d, c, e0, e, w⟩ := of_ok (K := K) h.well h0 h1
  exact ⟨d, _, List.mem_of_getElem? e0, e, h.set w, by simp⟩
end
/-! ### refusals -/
section
variable {K : PySem.W.Frag} {w : String} {y p : Int}
theorem acc_bad1 (F : Pf K) {a b c : D} (h : NoNum a 0 1000000) (st : Store) : mf_accrued K [a, b, c] st = .err (He.ga K "InvalidNumber") (some ("given", a)) st := by
  simp [mf_accrued, m_accrued, mf_check_parted, m_check_parted, eV, eC, e2, e1, eN, eIf, eAndM, eOrM, eNotM, aNil, aCons, aStar, eTup, eLst, eLstN, eCut, oNone, oSome, tVal, t2, tAndM, tOrM, tNotM, sNil, sSeq, sIf, sRet, sRetN, sSet, sAsg, gNm, gSubM, gTupM, gsNil, gsCons, sPar, sDrop, sRaise, eCall1, eCall, perm, fnM, endF, leave, leaveN, leaveE, beg, Res.bind_ok, Res.bind_err, sBind_ok, sBind_err, chk_bad F h]
theorem acc_bad2 (F : Pf K) {b c : D} (hy : 0 ≤ y) (hy2 : y ≤ 1000000) (h : NoNum b 1 24) (st : Store) : mf_accrued K [.int y, b, c] st = .err (He.ga K "InvalidNumber") (some ("given", b)) st := by
  simp [mf_accrued, m_accrued, mf_check_parted, m_check_parted, eV, eC, e2, e1, eN, eIf, eAndM, eOrM, eNotM, aNil, aCons, aStar, eTup, eLst, eLstN, eCut, oNone, oSome, tVal, t2, tAndM, tOrM, tNotM, sNil, sSeq, sIf, sRet, sRetN, sSet, sAsg, gNm, gSubM, gTupM, gsNil, gsCons, sPar, sDrop, sRaise, eCall1, eCall, perm, fnM, endF, leave, leaveN, leaveE, beg, Res.bind_ok, Res.bind_err, sBind_ok, sBind_err, chk_int F, hy, hy2, chk_bad F h]
theorem sums_bad1 (F : Pf K) {a b c : D} (h : NoNum a 0 1000000) (st : Store) : mf_sums K [a, b, c] st = .err (He.ga K "InvalidNumber") (some ("given", a)) st := by
  simp [mf_sums, m_sums, mf_check_parted, m_check_parted, eV, eC, e2, e1, eN, eIf, eAndM, eOrM, eNotM, aNil, aCons, aStar, eTup, eLst, eLstN, eCut, oNone, oSome, tVal, t2, tAndM, tOrM, tNotM, sNil, sSeq, sIf, sRet, sRetN, sSet, sAsg, gNm, gSubM, gTupM, gsNil, gsCons, sPar, sDrop, sRaise, eCall1, eCall, perm, fnM, endF, leave, leaveN, leaveE, beg, Res.bind_ok, Res.bind_err, sBind_ok, sBind_err, chk_bad F h]
theorem sums_bad3 (F : Pf K) {c : D} (hy : 0 ≤ y) (hy2 : y ≤ 1000000) (hp : 1 ≤ p) (hp2 : p ≤ 24) (h : NoWay c) (st : Store) : mf_sums K [.int y, .int p, c] st = .err (He.ga K "InvalidWay") (some ("given", c)) st := by
  simp [mf_sums, m_sums, mf_check_parted, m_check_parted, eV, eC, e2, e1, eN, eIf, eAndM, eOrM, eNotM, aNil, aCons, aStar, eTup, eLst, eLstN, eCut, oNone, oSome, tVal, t2, tAndM, tOrM, tNotM, sNil, sSeq, sIf, sRet, sRetN, sSet, sAsg, gNm, gSubM, gTupM, gsNil, gsCons, sPar, sDrop, sRaise, eCall1, eCall, perm, fnM, endF, leave, leaveN, leaveE, beg, Res.bind_ok, Res.bind_err, sBind_ok, sBind_err, chk_int F, hy, hy2, hp, hp2, way_bad F h]
theorem gap_bad1 (F : Pf K) {a b c d : D} (h : NoNum a 0 1000000) (st : Store) : mf_greatest_gap K [a, b, c, d] st = .err (He.ga K "InvalidNumber") (some ("given", a)) st := by
  simp [mf_greatest_gap, m_greatest_gap, mf_check_parted, m_check_parted, eV, eC, e2, e1, eN, eIf, eAndM, eOrM, eNotM, aNil, aCons, aStar, eTup, eLst, eLstN, eCut, oNone, oSome, tVal, t2, tAndM, tOrM, tNotM, sNil, sSeq, sIf, sRet, sRetN, sSet, sAsg, gNm, gSubM, gTupM, gsNil, gsCons, sPar, sDrop, sRaise, eCall1, eCall, perm, fnM, endF, leave, leaveN, leaveE, beg, Res.bind_ok, Res.bind_err, sBind_ok, sBind_err, chk_bad F h]
theorem gap_bad2 (F : Pf K) {b c d : D} (hy : 0 ≤ y) (hy2 : y ≤ 1000000) (h : NoNum b 1 24) (st : Store) : mf_greatest_gap K [.int y, b, c, d] st = .err (He.ga K "InvalidNumber") (some ("given", b)) st := by
  simp [mf_greatest_gap, m_greatest_gap, mf_check_parted, m_check_parted, eV, eC, e2, e1, eN, eIf, eAndM, eOrM, eNotM, aNil, aCons, aStar, eTup, eLst, eLstN, eCut, oNone, oSome, tVal, t2, tAndM, tOrM, tNotM, sNil, sSeq, sIf, sRet, sRetN, sSet, sAsg, gNm, gSubM, gTupM, gsNil, gsCons, sPar, sDrop, sRaise, eCall1, eCall, perm, fnM, endF, leave, leaveN, leaveE, beg, Res.bind_ok, Res.bind_err, sBind_ok, sBind_err, chk_int F, hy, hy2, chk_bad F h]
theorem gap_bad3 (F : Pf K) {c d : D} (hy : 0 ≤ y) (hy2 : y ≤ 1000000) (hp : 1 ≤ p) (hp2 : p ≤ 24) (h : NoWay c) (st : Store) : mf_greatest_gap K [.int y, .int p, c, d] st = .err (He.ga K "InvalidWay") (some ("given", c)) st := by
  simp [mf_greatest_gap, m_greatest_gap, mf_check_parted, m_check_parted, eV, eC, e2, e1, eN, eIf, eAndM, eOrM, eNotM, aNil, aCons, aStar, eTup, eLst, eLstN, eCut, oNone, oSome, tVal, t2, tAndM, tOrM, tNotM, sNil, sSeq, sIf, sRet, sRetN, sSet, sAsg, gNm, gSubM, gTupM, gsNil, gsCons, sPar, sDrop, sRaise, eCall1, eCall, perm, fnM, endF, leave, leaveN, leaveE, beg, Res.bind_ok, Res.bind_err, sBind_ok, sBind_err, chk_int F, hy, hy2, hp, hp2, way_bad F h]
theorem gap_bad4 (F : Pf K) {d : D} (hw : IsWay w) (hy : 0 ≤ y) (hy2 : y ≤ 1000000) (hp : 1 ≤ p) (hp2 : p ≤ 24) (h : NoWay d) (st : Store) : mf_greatest_gap K [.int y, .int p, .str (Str.ofString w), d] st = .err (He.ga K "InvalidWay") (some ("given", d)) st := by
  simp [mf_greatest_gap, m_greatest_gap, eV, eC, e2, e1, eN, eIf, eAndM, eOrM, eNotM, aNil, aCons, aStar, eTup, eLst, eLstN, eCut, oNone, oSome, tVal, t2, tAndM, tOrM, tNotM, sNil, sSeq, sIf, sRet, sRetN, sSet, sAsg, gNm, gSubM, gTupM, gsNil, gsCons, sPar, sDrop, sRaise, eCall1, eCall, perm, fnM, endF, leave, leaveN, leaveE, beg, Res.bind_ok, Res.bind_err, sBind_ok, sBind_err, chk_parted F hw hy hy2 hp hp2, way_bad F h]
end
/-! ### the wrong ones -/
theorem good_one {d : D} (h : d ∈ [D.int (-1), .int 1000001, .bl true, .non, .str "5"]) : NoNum d 0 1000000 ∧ ∃ p, Good d p := by
  simp only [List.mem_cons, List.not_mem_nil, or_false] at h
  rcases h with rfl | rfl | rfl | rfl | rfl
  · exact ⟨.inr (.inr (.inr ⟨_, rfl, by decide⟩)), _, fun _ => rfl, by decide +kernel, by decide +kernel, by decide +kernel⟩
  · exact ⟨.inr (.inr (.inr ⟨_, rfl, by decide⟩)), _, fun _ => rfl, by decide +kernel, by decide +kernel, by decide +kernel⟩
  · exact ⟨.inr (.inl ⟨_, rfl⟩), _, fun _ => rfl, by decide +kernel, by decide +kernel, by decide +kernel⟩
  · exact ⟨.inl rfl, _, fun _ => rfl, by decide +kernel, by decide +kernel, by decide +kernel⟩
  · exact ⟨.inr (.inr (.inl ⟨_, rfl⟩)), _, fun _ => rfl, by decide +kernel, by decide +kernel, by decide +kernel⟩
theorem good_two {d : D} (h : d ∈ [D.int 0, .int 25, .bl true, .non, .str "5"]) : NoNum d 1 24 ∧ ∃ p, Good d p := by
  simp only [List.mem_cons, List.not_mem_nil, or_false] at h
  rcases h with rfl | rfl | rfl | rfl | rfl
  · exact ⟨.inr (.inr (.inr ⟨_, rfl, by decide⟩)), _, fun _ => rfl, by decide +kernel, by decide +kernel, by decide +kernel⟩
  · exact ⟨.inr (.inr (.inr ⟨_, rfl, by decide⟩)), _, fun _ => rfl, by decide +kernel, by decide +kernel, by decide +kernel⟩
  · exact ⟨.inr (.inl ⟨_, rfl⟩), _, fun _ => rfl, by decide +kernel, by decide +kernel, by decide +kernel⟩
  · exact ⟨.inl rfl, _, fun _ => rfl, by decide +kernel, by decide +kernel, by decide +kernel⟩
  · exact ⟨.inr (.inr (.inl ⟨_, rfl⟩)), _, fun _ => rfl, by decide +kernel, by decide +kernel, by decide +kernel⟩
theorem good_bad {d : D} (h : d ∈ [D.str "Down", .str "", .non, .int 0, .tup [.str "down"], .str "most", .fl [.str "up"]]) : NoWay d ∧ ∃ p, Good d p := by
  simp only [List.mem_cons, List.not_mem_nil, or_false] at h
  rcases h with rfl | rfl | rfl | rfl | rfl | rfl | rfl
  · exact ⟨by simp [NoWay], _, fun _ => rfl, by decide +kernel, by decide +kernel, by decide +kernel⟩
  · exact ⟨by simp [NoWay], _, fun _ => rfl, by decide +kernel, by decide +kernel, by decide +kernel⟩
  · exact ⟨by simp [NoWay], _, fun _ => rfl, by decide +kernel, by decide +kernel, by decide +kernel⟩
  · exact ⟨by simp [NoWay], _, fun _ => rfl, by decide +kernel, by decide +kernel, by decide +kernel⟩
  · exact ⟨by simp [NoWay], _, fun _ => rfl, by decide +kernel, by decide +kernel, by decide +kernel⟩
  · exact ⟨by simp [NoWay], _, fun _ => rfl, by decide +kernel, by decide +kernel, by decide +kernel⟩
  · exact ⟨by simp [NoWay], _, fun _ => rfl, by decide +kernel, by decide +kernel, by decide +kernel⟩
end K12

/-! ### text K12w.src -/
namespace K12
open PySem PySem.Spec PyProof.Rows L2 L3
theorem isLs_app (st : Store) (xs : List D) : isLs (.loc st.length) (st ++ [.lst xs]) = true := by
  simp [isLs, lsOf]
theorem app_app (st : Store) (xs : List D) (d : D) (h : xs.length < 1000000) : dAppend (.loc st.length) [d] (st ++ [.lst xs]) = .ok .non (st ++ [.lst (xs ++ [d])]) := by
  simp [dAppend, h]
section
variable {K : PySem.W.Frag} {w : String} {y p : Int}
/-- what the refusals give -/
def hadL (p1 p2 p3 : PyData) : List D := [.fl [.str "number", .str p1.shown], .fl [.str "number", .str p1.shown], .fl [.str "number", .str p1.shown], .fl [.str "number", .str p2.shown], .fl [.str "number", .str p2.shown], .fl [.str "way", .str p3.shown], .fl [.str "way", .str p3.shown], .fl [.str "way", .str p3.shown]]
def hadP (p1 p2 p3 : PyData) : List PyData := [.list [.str "number", .str p1.shown], .list [.str "number", .str p1.shown], .list [.str "number", .str p1.shown], .list [.str "number", .str p2.shown], .list [.str "number", .str p2.shown], .list [.str "way", .str p3.shown], .list [.str "way", .str p3.shown], .list [.str "way", .str p3.shown]]
theorem had_rp {d1 d2 d3 : D} {p1 p2 p3 : PyData} (g1 : Good d1 p1) (g2 : Good d2 p2) (g3 : Good d3 p3) : reprOk (.list (hadP p1 p2 p3)) = true := by
  have a1 := g1.le; have a2 := g2.le; have a3 := g3.le
  refine reprOk_of ?_ ?_ ?_
  · simp [hadP, pok, pokL, g1.po, g2.po, g3.po, -pok_lit]
    have q1 := g1.po; have q2 := g2.po; have q3 := g3.po
    have q4 := pok_lit "number"; have q5 := pok_lit "way"
    simp only [pok, List.all_eq_true, decide_eq_true_eq] at q1 q2 q3 q4 q5
    simp_all
  · have b1 : (Str.ofString "number").length = 6 := by decide
    have b2 : (Str.ofString "way").length = 3 := by decide
    simp only [hadP, pw, pwL]
    omega
  · simp [hadP, PyData.depth, PyData.depthAll]
theorem wrong_ok (F : Pf K) (hw : IsWay w) (hy : 0 ≤ y) (hy2 : y ≤ 1000000) (hp : 1 ≤ p) (hp2 : p ≤ 24) {st : Store} {n : Nat} (h : AllW st n) : ∃ st', mf__law_wrong_right K [.loc n, .int y, .int p, .str (Str.ofString w)] st = .ok (.bl true) st' ∧ AllW st' n ∧ st'.length = st.length := by
  obtain ⟨one, st1, m1, x1, h1, l1⟩ := ofA (K := K) h (xs := [D.int (-1), .int 1000001, .bl true, .non, .str "5"]) (by simp) (by simp)
  obtain ⟨two, st2, m2, x2, h2, l2⟩ := ofA (K := K) h1 (xs := [D.int 0, .int 25, .bl true, .non, .str "5"]) (by simp) (by simp)
  obtain ⟨bad, st3, m3, x3, h3, l3⟩ := ofA (K := K) h2 (xs := [D.str "Down", .str "", .non, .int 0, .tup [.str "down"], .str "most", .fl [.str "up"]]) (by simp) (by simp)
  obtain ⟨b1, p1, g1⟩ := good_one m1
  obtain ⟨b2, p2, g2⟩ := good_two m2
  obtain ⟨b3, p3, g3⟩ := good_bad m3
  refine ⟨st3, ?_, h3, by omega⟩
  have hr := had_rp g1 g2 g3
  have hi : mf__law_is K [.loc st3.length, .fl (hadL p1 p2 p3)] (st3 ++ [.lst (hadL p1 p2 p3)]) = .ok (.bl true) (st3 ++ [.lst (hadL p1 p2 p3)]) := by
    refine is_ok (p := .list (hadP p1 p2 p3)) ?_ ?_ hr
    · simp [toPd, hadL, hadP, toPs, toP]
    · simp [toPd, hadL, hadP, toPs, toP]
  simp only [hadL] at hi
  have hl : st.length = st3.length := by omega
  have hs := fun n0 => h3.shut n0
  clear hr l1 l2 l3 m1 m2 m3 h h1 h2 h3
  simp [mf__law_wrong_right, m__law_wrong_right, eV, eC, e2, e1, eN, eIf, eAndM, eOrM, eNotM, aNil, aCons, aStar, eTup, eLst, eLstN, eCut, oNone, oSome, tVal, t2, tAndM, tOrM, tNotM, sNil, sSeq, sIf, sRet, sRetN, sSet, sAsg, gNm, gSubM, gTupM, gsNil, gsCons, sPar, sDrop, sRaise, eCall1, eCall, perm, fnM, endF, leave, leaveN, leaveE, beg, Res.bind_ok, Res.bind_err, sBind_ok, sBind_err, dNeg, dPow, dAdd, dMul, trOf, x1, x2, x3, eCallL, capsOf, lamM, begF, mf__law_refused, m__law_refused, sTry, sHandle, eClo, eXf, dropE, F.nn, F.wn, F.ww, repr_ok g1, repr_ok g2, repr_ok g3, acc_bad1 F b1, sums_bad1 F b1, gap_bad1 F b1, acc_bad2 F hy hy2 b2, gap_bad2 F hy hy2 b2, sums_bad3 F hy hy2 hp hp2 b3, gap_bad3 F hy hy2 hp hp2 b3, gap_bad4 F hw hy hy2 hp hp2 b3, eBM, isLs_app, app_app, hi, hl, hs, shut]
end
end K12

/-! ### text K12x.src -/
namespace K12
open PySem PySem.Spec PyProof.Rows L2 L3
/-! ### the figures -/
theorem p24 {p : Int} (hp : 1 ≤ p) (hp2 : p ≤ 24) : p = 1 ∨ p = 2 ∨ p = 3 ∨ p = 4 ∨ p = 5 ∨ p = 6 ∨ p = 7 ∨ p = 8 ∨ p = 9 ∨ p = 10 ∨ p = 11 ∨ p = 12 ∨ p = 13 ∨ p = 14 ∨ p = 15 ∨ p = 16 ∨ p = 17 ∨ p = 18 ∨ p = 19 ∨ p = 20 ∨ p = 21 ∨ p = 22 ∨ p = 23 ∨ p = 24 := by omega
section
variable {w : String} {y p i x : Int}
theorem sDown : sumB "down" y p i = i * y / p := by simp [sumB]
theorem sNear : sumB "near" y p i = (2 * (i * y) + p) / (2 * p) := by simp [sumB]
theorem sUp : sumB "up" y p i = 0 - (0 - i * y) / p := by simp [sumB]
theorem sFirst : sumB "first" y p i = i * (y / p) + y - p * (y / p) := by simp [sumB]
theorem sLast : sumB "last" y p i = if i = p then i * (y / p) + y - p * (y / p) else i * (y / p) := by simp [sumB]
theorem sum_last (hw : IsWay w) (hp : 1 ≤ p) (hp2 : p ≤ 24) : sumB w y p p = y := by
  rcases hw with rfl | rfl | rfl | rfl | rfl <;> simp only [sDown, sNear, sUp, sFirst, sLast, if_true]
  · rcases p24 hp hp2 with rfl | rfl | rfl | rfl | rfl | rfl | rfl | rfl | rfl | rfl | rfl | rfl | rfl | rfl | rfl | rfl | rfl | rfl | rfl | rfl | rfl | rfl | rfl | rfl <;> omega
  · rcases p24 hp hp2 with rfl | rfl | rfl | rfl | rfl | rfl | rfl | rfl | rfl | rfl | rfl | rfl | rfl | rfl | rfl | rfl | rfl | rfl | rfl | rfl | rfl | rfl | rfl | rfl <;> omega
  · rcases p24 hp hp2 with rfl | rfl | rfl | rfl | rfl | rfl | rfl | rfl | rfl | rfl | rfl | rfl | rfl | rfl | rfl | rfl | rfl | rfl | rfl | rfl | rfl | rfl | rfl | rfl <;> omega
  · omega
  · omega
theorem div_step (hp : 1 ≤ p) (hp2 : p ≤ 24) (hy : 0 ≤ y) : x / p ≤ (x + y) / p ∧ (2 * x + p) / (2 * p) ≤ (2 * (x + y) + p) / (2 * p) ∧ 0 - (0 - x) / p ≤ 0 - (0 - (x + y)) / p := by
  rcases p24 hp hp2 with rfl | rfl | rfl | rfl | rfl | rfl | rfl | rfl | rfl | rfl | rfl | rfl | rfl | rfl | rfl | rfl | rfl | rfl | rfl | rfl | rfl | rfl | rfl | rfl <;> omega
theorem div_rest (hp : 1 ≤ p) (hp2 : p ≤ 24) (hy : 0 ≤ y) : 0 ≤ y / p ∧ 0 ≤ y - p * (y / p) ∧ y / p ≤ y := by
  rcases p24 hp hp2 with rfl | rfl | rfl | rfl | rfl | rfl | rfl | rfl | rfl | rfl | rfl | rfl | rfl | rfl | rfl | rfl | rfl | rfl | rfl | rfl | rfl | rfl | rfl | rfl <;> omega
theorem div_chain (hp : 1 ≤ p) (hp2 : p ≤ 24) : x / p ≤ (2 * x + p) / (2 * p) ∧ (2 * x + p) / (2 * p) ≤ 0 - (0 - x) / p ∧ 0 - (0 - x) / p ≤ x / p + 1 := by
  rcases p24 hp hp2 with rfl | rfl | rfl | rfl | rfl | rfl | rfl | rfl | rfl | rfl | rfl | rfl | rfl | rfl | rfl | rfl | rfl | rfl | rfl | rfl | rfl | rfl | rfl | rfl <;> omega
theorem div_first (hp : 1 ≤ p) (hp2 : p ≤ 24) (hy : 0 ≤ y) : 0 ≤ y / p ∧ 0 ≤ (2 * y + p) / (2 * p) ∧ 0 ≤ 0 - (0 - y) / p := by
  rcases p24 hp hp2 with rfl | rfl | rfl | rfl | rfl | rfl | rfl | rfl | rfl | rfl | rfl | rfl | rfl | rfl | rfl | rfl | rfl | rfl | rfl | rfl | rfl | rfl | rfl | rfl <;> omega
theorem sum_step (hw : IsWay w) (hp : 1 ≤ p) (hp2 : p ≤ 24) (hy : 0 ≤ y) (hi : i < p) : sumB w y p i ≤ sumB w y p (i + 1) := by
  have e : (i + 1) * y = i * y + y := by rw [Int.add_mul, Int.one_mul]
  have e' : (i + 1) * (y / p) = i * (y / p) + y / p := by rw [Int.add_mul, Int.one_mul]
  obtain ⟨a, b, c⟩ := div_step (x := i * y) hp hp2 hy
  obtain ⟨d, g, _⟩ := div_rest hp hp2 hy
  rcases hw with rfl | rfl | rfl | rfl | rfl <;> simp only [sDown, sNear, sUp, sFirst, sLast, e, e']
  · exact a
  · exact b
  · exact c
  · omega
  · rw [if_neg (by omega)]
    split <;> omega
theorem sum_first (hw : IsWay w) (hp : 1 ≤ p) (hp2 : p ≤ 24) (hy : 0 ≤ y) : 0 ≤ sumB w y p 1 := by
  obtain ⟨a, b, c⟩ := div_first hp hp2 hy
  obtain ⟨d, g, _⟩ := div_rest hp hp2 hy
  rcases hw with rfl | rfl | rfl | rfl | rfl <;> simp only [sDown, sNear, sUp, sFirst, sLast, Int.one_mul]
  · exact a
  · exact b
  · exact c
  · omega
  · split <;> omega
theorem sum_mono (hw : IsWay w) (hp : 1 ≤ p) (hp2 : p ≤ 24) (hy : 0 ≤ y) : ∀ k : Nat, 1 + (k : Int) ≤ p → 0 ≤ sumB w y p (1 + (k : Int))
  | 0, _ => by simpa using sum_first hw hp hp2 hy
  | k + 1, h => by
    have h1 := sum_mono hw hp hp2 hy k (by omega)
    have h2 := sum_step (w := w) (i := 1 + (k : Int)) hw hp hp2 hy (by omega)
    rw [show 1 + ((k + 1 : Nat) : Int) = 1 + (k : Int) + 1 by omega]
    omega
theorem sum_upper (hw : IsWay w) (hp : 1 ≤ p) (hp2 : p ≤ 24) (hy : 0 ≤ y) : ∀ (m k : Nat), 1 + (k : Int) + m = p → sumB w y p (1 + (k : Int)) ≤ y
  | 0, k, h => by
    have e : 1 + (k : Int) = p := by omega
    rw [e, sum_last hw hp hp2]
    exact Int.le_refl _
  | m + 1, k, h => by
    have h1 := sum_upper hw hp hp2 hy m (k + 1) (by omega)
    have h2 := sum_step (w := w) (i := 1 + (k : Int)) hw hp hp2 hy (by omega)
    rw [show 1 + ((k + 1 : Nat) : Int) = 1 + (k : Int) + 1 by omega] at h1
    omega
theorem sums_mem (hw : IsWay w) (hp : 1 ≤ p) (hp2 : p ≤ 24) (hy : 0 ≤ y) {s : Int} (h : s ∈ sumsL w y p) : 0 ≤ s ∧ s ≤ y := by
  simp only [sumsL, List.mem_map, List.mem_range] at h
  obtain ⟨k, hk, rfl⟩ := h
  exact ⟨sum_mono hw hp hp2 hy k (by omega), sum_upper hw hp hp2 hy (p - 1 - k).toNat k (by omega)⟩
theorem diffs_mem : ∀ (a : Int) (l : List Int), (∀ j, j < l.length → (a :: l).getD j 0 ≤ (a :: l).getD (j + 1) 0) → ∀ d ∈ diffs a l, 0 ≤ d
  | _, [], _, d, h => by simp [diffs] at h
  | a, b :: r, hm, d, h => by
    simp only [diffs, List.mem_cons] at h
    rcases h with rfl | h
    · have := hm 0 (by simp)
      simp at this
      omega
    · exact diffs_mem b r (fun j hj => by simpa using hm (j + 1) (by simpa using hj)) d h
theorem parts_nn (hw : IsWay w) (hp : 1 ≤ p) (hp2 : p ≤ 24) (hy : 0 ≤ y) : ∀ d ∈ partsL w y p, 0 ≤ d := by
  refine diffs_mem 0 _ fun j hj => ?_
  rw [sumsL_len] at hj
  cases j with
  | zero =>
    have h := sum_first hw hp hp2 hy
    have e : (sumsL w y p).getD 0 0 = sumB w y p 1 := by
      simp only [sumsL, List.getD_eq_getElem?_getD, List.getElem?_map, List.getElem?_range hj]
      simp
    simp only [List.getD_cons_zero, List.getD_cons_succ, e]
    exact h
  | succ j =>
    have h := sum_step (w := w) (i := 1 + (j : Int)) hw hp hp2 hy (by omega)
    have e1 : (sumsL w y p).getD j 0 = sumB w y p (1 + (j : Int)) := by
      simp only [sumsL, List.getD_eq_getElem?_getD, List.getElem?_map, List.getElem?_range (show j < p.toNat by omega)]
      simp
    have e2' : (sumsL w y p).getD (j + 1) 0 = sumB w y p (1 + (j : Int) + 1) := by
      simp only [sumsL, List.getD_eq_getElem?_getD, List.getElem?_map, List.getElem?_range (show j + 1 < p.toNat by omega)]
      simp [show (1 : Int) + ((j : Int) + 1) = 1 + (j : Int) + 1 by omega]
    simp only [List.getD_cons_succ, e1, e2']
    exact h
theorem diffs_le : ∀ (a : Int) (l : List Int) (u : Int), 0 ≤ a → (∀ s ∈ l, 0 ≤ s ∧ s ≤ u) → ∀ d ∈ diffs a l, d ≤ u
  | _, [], _, _, _, d, h => by simp [diffs] at h
  | a, b :: r, u, ha, hs, d, h => by
    simp only [diffs, List.mem_cons] at h
    have hb := hs b List.mem_cons_self
    rcases h with rfl | h
    · omega
    · exact diffs_le b r u hb.1 (fun s q => hs s (List.mem_cons_of_mem _ q)) d h
theorem parts_le (hw : IsWay w) (hp : 1 ≤ p) (hp2 : p ≤ 24) (hy : 0 ≤ y) : ∀ d ∈ partsL w y p, d ≤ y :=
  diffs_le 0 _ y (Int.le_refl 0) fun s h => sums_mem hw hp hp2 hy h
end
/-! ### repr of rows -/
theorem toPs_ints : ∀ l : List Int, toPs (l.map D.int) = some (l.map PyData.int)
  | [] => rfl
  | a :: r => by simp only [List.map_cons, toPs, toP, toPs_ints r]
theorem pokL_ints : ∀ l : List Int, (∀ s ∈ l, 0 ≤ s ∧ s ≤ 1000000) → pokL (l.map PyData.int) = true
  | [], _ => rfl
  | a :: r, h => by
    have h1 := h a List.mem_cons_self
    have h2 : a.natAbs < 10 ^ 100 := Nat.lt_of_le_of_lt (show a.natAbs ≤ 1000000 by omega) (by decide)
    simp only [List.map_cons, pokL, Bool.and_eq_true]
    exact ⟨decide_eq_true h2, pokL_ints r fun s q => h s (List.mem_cons_of_mem _ q)⟩
theorem pwL_ints : ∀ l : List Int, pwL (l.map PyData.int) = 103 * l.length
  | [] => rfl
  | a :: r => by simp only [List.map_cons, pwL, pw, pwL_ints r, List.length_cons]; omega
theorem depth_ints : ∀ l : List Int, PyData.depthAll (l.map PyData.int) ≤ 1
  | [] => by simp [PyData.depthAll]
  | a :: r => by
    have := depth_ints r
    simp only [List.map_cons, PyData.depthAll, PyData.depth]
    omega
end K12

/-! ### text K12y.src -/
namespace K12
open PySem PySem.Spec PyProof.Rows L2 L3
noncomputable def mA (K : PySem.W.Frag) : SM := sSeq (sPar 13 14 (aCons (eN bTuple (aCons (eCall1 (mf__law_sums K) (aCons (eV 6) (aCons (eV 7) (aCons (eV 4) (aNil))))) (aNil))) (aCons (eN bTuple (aCons (eCall1 (mf__law_accrued K) (aCons (eV 6) (aCons (eV 7) (aCons (eV 4) (aNil))))) (aNil))) (aNil)))) (sSeq (sSet 8 (eLstN (aCons (eCall1 (mf_accrued K) (aCons (eV 6) (aCons (eV 7) (aCons (eV 4) (aNil))))) (aCons (eCall (mf_accrued K) 0 3 [2, 1, 0] aNil (aCons (eV 4) (aCons (eV 7) (aCons (eV 6) (aNil))))) (aCons (eCall1 (mf_sums K) (aCons (eV 6) (aCons (eV 7) (aCons (eV 4) (aNil))))) (aNil)))))) (sSeq (sIf (tNotM (tVal (eCall1 (mf__law_is K) (aCons (e2 dAdd (eV 8) (eLst (aCons (eCall (mf_sums K) 0 3 [2, 1, 0] aNil (aCons (eV 4) (aCons (eV 7) (aCons (eV 6) (aNil))))) (aNil)))) (aCons (eLst (aCons (eV 14) (aCons (eV 14) (aCons (eV 13) (aCons (eV 13) (aNil)))))) (aNil)))))) (sRet (eC (.bl false))) (sNil)) (sSeq (sIf (tOrM (t2 dNe (e2 dIx (eV 13) (e1 dNeg (eC (.int 1)))) (eV 6)) (t2 dLt (eN (bMin) (aCons (eV 14) (aNil))) (eC (.int 0)))) (sRet (eC (.bl false))) (sNil)) (sKput (eV 3) (eV 4) (eV 13)))))
noncomputable def mB (K : PySem.W.Frag) : SM := sSeq (sSet 15 (eN (bMax) (aCons (eLC (iZip (aCons (e2 dKx (eV 3) (eV 5)) (aCons (e2 dKx (eV 3) (eV 9)) (aNil)))) (.tup ((.one 16) :: (.one 17) :: [])) (tYesM) (e2 dSub (eV 16) (eV 17)) [16, 17]) (aNil)))) (sSeq (sSet 8 (eLstN (aCons (eCall1 (mf_greatest_gap K) (aCons (eV 6) (aCons (eV 7) (aCons (eV 5) (aCons (eV 9) (aNil)))))) (aNil)))) (sSeq (sDrop (eBM isLs dAppend (eV 8) (aCons (eCall (mf_greatest_gap K) 0 4 [3, 2, 1, 0] aNil (aCons (eV 9) (aCons (eV 5) (aCons (eV 7) (aCons (eV 6) (aNil)))))) (aNil)))) (sIf (tNotM (tVal (eCall1 (mf__law_is K) (aCons (eV 8) (aCons (eLst (aCons (eV 15) (aCons (eV 15) (aNil)))) (aNil)))))) (sRet (eC (.bl false))) (sNil))))
noncomputable def mC (K : PySem.W.Frag) : SM := sIf (tNotM (tVal (eCh3 dLe dLe dLe (eV 10) (eV 11) (eV 12) (e2 dAdd (eV 10) (eC (.int 1)))))) (sRet (eC (.bl false))) (sNil)
noncomputable def mT (K : PySem.W.Frag) : SM := sSeq (sPar 6 7 (aCons (eCall1 (mf__law_draw K) (aCons (eV 0) (aCons (eCall1 (mf__law_of K) (aCons (eV 0) (aCons (eTup (aCons (eC (.int 2)) (aCons (eC (.int 30)) (aCons (eC (.int 300)) (aCons (e2 dAdd (e2 dPow (eC (.int 10)) (eC (.int 6))) (eC (.int 1))) (aNil)))))) (aNil)))) (aNil)))) (aCons (e2 dAdd (eC (.int 1)) (eCall1 (mf__law_draw K) (aCons (eV 0) (aCons (eC (.int 24)) (aNil))))) (aNil)))) (sSeq (sSet 3 (eDictN)) (sSeq (sFor (iSeq (eV 1)) (.one 4) (mA K)) (sSeq (sFor (iSeq (eV 1)) (.one 5) (sFor (iSeq (eV 1)) (.one 9) (mB K))) (sSeq (sFor (iZip3 (aCons (e2 dKx (eV 3) (eC (.str "down"))) (aCons (e2 dKx (eV 3) (eC (.str "near"))) (aCons (e2 dKx (eV 3) (eC (.str "up"))) (aNil))))) (.tup ((.one 10) :: (.one 11) :: (.one 12) :: [])) (mC K)) (sIf (tNotM (tVal (eCall1 (mf__law_wrong_right K) (aCons (eV 0) (aCons (eV 6) (aCons (eV 7) (aCons (eCall1 (mf__law_of K) (aCons (eV 0) (aCons (eV 1) (aNil)))) (aNil)))))))) (sRet (eC (.bl false))) (sNil))))))
theorem right_eq (K : PySem.W.Frag) : m__law_right K = sSeq (sSet 1 (eTup (aCons (eC (.str "down")) (aCons (eC (.str "near")) (aCons (eC (.str "up")) (aCons (eC (.str "first")) (aCons (eC (.str "last")) (aNil)))))))) (sSeq (sFor (iRange1 (aCons (eC (.int 9)) (aNil))) (.one 2) (mT K)) (sRet (eC (.bl true)))) := rfl
def W5 : D := .tup [.str "down", .str "near", .str "up", .str "first", .str "last"]
def WL : List String := ["down", "near", "up", "first", "last"]
theorem isWay_of {w : String} (h : w ∈ WL) : IsWay w := by simpa [WL, IsWay] using h
theorem way_at {j : Nat} {d : D} (h : [D.str "down", .str "near", .str "up", .str "first", .str "last"][j]? = some d) : ∃ w, WL[j]? = some w ∧ d = .str (Str.ofString w) := by
  match j, h with
  | 0, h => exact ⟨"down", rfl, by simpa using h.symm⟩
  | 1, h => exact ⟨"near", rfl, by simpa using h.symm⟩
  | 2, h => exact ⟨"up", rfl, by simpa using h.symm⟩
  | 3, h => exact ⟨"first", rfl, by simpa using h.symm⟩
  | 4, h => exact ⟨"last", rfl, by simpa using h.symm⟩
  | j + 5, h => simp at h
structure Pl (n L : Nat) (y p : Int) (δ : Sl) : Prop where
  len : δ.length = 18
  g0 : δ[0]? = some (some (.loc n))
  g1 : δ[1]? = some (some W5)
  g3 : δ[3]? = some (some (.loc L))
  g6 : δ[6]? = some (some (.int y))
  g7 : δ[7]? = some (some (.int p))
section
variable {n L : Nat} {y p : Int} {δ : Sl}
theorem Pl.set (h : Pl n L y p δ) (i : Nat) (o : Option D) (hi : i ≠ 0 ∧ i ≠ 1 ∧ i ≠ 3 ∧ i ≠ 6 ∧ i ≠ 7) : Pl n L y p (δ.set i o) :=
  ⟨by rw [List.length_set]; exact h.len, by rw [List.getElem?_set_ne hi.1]; exact h.g0, by rw [List.getElem?_set_ne hi.2.1]; exact h.g1, by rw [List.getElem?_set_ne hi.2.2.1]; exact h.g3, by rw [List.getElem?_set_ne hi.2.2.2.1]; exact h.g6, by rw [List.getElem?_set_ne hi.2.2.2.2]; exact h.g7⟩
theorem Pl.tidy (h : Pl n L y p δ) {n0 : Nat} (hn : n < n0) (hL : L < n0) : Pl n L y p (δ.map fun o => o.bind fun d => if shut n0 d = true then some d else none) := by
  have hw : shut n0 W5 = true := rfl
  exact ⟨by rw [List.length_map]; exact h.len, by rw [List.getElem?_map, h.g0]; simp [shut, hn], by rw [List.getElem?_map, h.g1]; simp [hw], by rw [List.getElem?_map, h.g3]; simp [shut, hL], by rw [List.getElem?_map, h.g6]; simp [shut], by rw [List.getElem?_map, h.g7]; simp [shut]⟩
theorem tidy2 {st : Store} {c d : Cell} (hs : Sh st) (hc : shutC (st.length + 1) c = true) : tidy (st.length + 1) δ (st ++ [c, d]) = some (δ.map (fun o => o.bind fun d => if shut (st.length + 1) d = true then some d else none), st ++ [c]) := by
  have e : (st ++ [c, d]).take (st.length + 1) = st ++ [c] := by
    rw [show st ++ [c, d] = (st ++ [c]) ++ [d] by simp, show st.length + 1 = (st ++ [c]).length by simp, List.take_left]
  have a : (st ++ [c]).all (shutC (st.length + 1)) = true := by
    rw [List.all_append, Bool.and_eq_true]
    exact ⟨by rw [List.all_eq_true]; exact fun x hx => hs x hx _, by simp [hc]⟩
  unfold tidy
  rw [if_neg (by simp), e, if_pos a]
theorem at0 {st : Store} {c : Cell} {r : List Cell} : (st ++ c :: r)[st.length]? = some c := by simp
theorem at1 {st : Store} {c d : Cell} {r : List Cell} : (st ++ c :: d :: r)[st.length + 1]? = some d := by
  rw [List.getElem?_append_right (by omega)]
  simp
theorem setL0 {α : Type} (c c' : α) (r : List α) : ∀ l : List α, (l ++ c :: r).set l.length c' = l ++ c' :: r
  | [] => rfl
  | a :: l => by simp only [List.cons_append, List.length_cons, List.set_cons_succ, setL0 c c' r l]
theorem setL1 {α : Type} (c d d' : α) (r : List α) : ∀ l : List α, (l ++ c :: d :: r).set (l.length + 1) d' = l ++ c :: d' :: r
  | [] => rfl
  | a :: l => by simp only [List.cons_append, List.length_cons, List.set_cons_succ, setL1 c d d' r l]
theorem set0 {st : Store} {c c' : Cell} {r : List Cell} : (st ++ c :: r).set st.length c' = st ++ c' :: r := setL0 _ _ _ _
theorem set1 {st : Store} {c d d' : Cell} {r : List Cell} : (st ++ c :: d :: r).set (st.length + 1) d' = st ++ c :: d' :: r := setL1 _ _ _ _ _
end
theorem Pl.ex {n L : Nat} {y p : Int} {δ : Sl} (P : Pl n L y p δ) : ∃ o2 o4 o5 o8 o9 o10 o11 o12 o13 o14 o15 o16 o17, δ = [some (.loc n), some W5, o2, some (.loc L), o4, o5, some (.int y), some (.int p), o8, o9, o10, o11, o12, o13, o14, o15, o16, o17] := by
  obtain ⟨len, g0, g1, g3, g6, g7⟩ := P
  match δ, len with
  | [a0, a1, a2, a3, a4, a5, a6, a7, a8, a9, a10, a11, a12, a13, a14, a15, a16, a17], _ =>
    cases g0; cases g1; cases g3; cases g6; cases g7
    exact ⟨_, _, _, _, _, _, _, _, _, _, _, _, _, rfl⟩
theorem shutL_ints (n0 : Nat) : ∀ l : List Int, shutL n0 (l.map D.int) = true
  | [] => rfl
  | a :: r => by simp [shutL, shut, shutL_ints n0 r]
def kv (y p : Int) (j : Nat) : List (Key × D) := (WL.take j).map fun w => ((Sum.inr (Str.ofString w) : Key), D.tup ((sumsL w y p).map D.int))
theorem kv_shut (y p : Int) (j n0 : Nat) : shutC n0 (.dk (kv y p j)) = true := by
  show shutL n0 ((kv y p j).map (·.2)) = true
  unfold kv
  generalize WL.take j = l
  induction l with
  | nil => rfl
  | cons a r ih => simp only [List.map_cons, shutL, shut, shutL_ints, Bool.true_and]; exact ih
theorem kv_len (y p : Int) (j : Nat) : (kv y p j).length < 1000000 := by
  simp only [kv, List.length_map, List.length_take, WL, List.length_cons, List.length_nil]
  omega
theorem kv_put (y p : Int) {j : Nat} {w : String} (h : WL[j]? = some w) : putG (kv y p j) (.inr (Str.ofString w)) (.tup ((sumsL w y p).map D.int)) = kv y p (j + 1) := by
  match j, h with
  | 0, h => cases h; simp [kv, WL, putG, lit_eq]
  | 1, h => cases h; simp [kv, WL, putG, lit_eq]
  | 2, h => cases h; simp [kv, WL, putG, lit_eq]
  | 3, h => cases h; simp [kv, WL, putG, lit_eq]
  | 4, h => cases h; simp [kv, WL, putG, lit_eq]
  | j + 5, h => simp [WL] at h
theorem kv_get (y p : Int) {w : String} (h : IsWay w) : valG (kv y p 5) (.inr (Str.ofString w)) = some (.tup ((sumsL w y p).map D.int)) := by
  rcases h with rfl | rfl | rfl | rfl | rfl <;> simp [valG, kv, WL, lit_eq, List.find?]
section
variable {K : PySem.W.Frag} {w v : String} {y p : Int} {n : Nat} {st : Store} {δ : Sl}
theorem partsL_len : (partsL w y p).length = p.toNat := by rw [partsL, diffs_len, sumsL_len]
theorem atLast (hw : IsWay w) (hp : 1 ≤ p) (hp2 : p ≤ 24) : atI ((sumsL w y p).map D.int) (-1) = some (.int y) := by
  have hl : ((sumsL w y p).map D.int).length = p.toNat := by simp [sumsL_len]
  unfold atI ixN
  rw [hl, if_neg (by decide), if_pos (by omega)]
  show ((sumsL w y p).map D.int)[((-1 : Int) + p.toNat).toNat]? = _
  have e : ((-1 : Int) + p.toNat).toNat = p.toNat - 1 := by omega
  have hj : p.toNat - 1 < p.toNat := by omega
  rw [e, List.getElem?_map]
  simp only [sumsL, List.getElem?_map, List.getElem?_range hj, Option.map_some]
  rw [show (1 : Int) + ((p.toNat - 1 : Nat) : Int) = p by omega, sum_last hw hp hp2]
theorem min_nn (hw : IsWay w) (hp : 1 ≤ p) (hp2 : p ≤ 24) (hy : 0 ≤ y) : (minI (partsL w y p) < 0) = False := by
  have h := parts_nn hw hp hp2 hy
  have hl := partsL_len (w := w) (y := y) (p := p)
  cases q : partsL w y p with
  | nil => rw [q] at hl; simp at hl; omega
  | cons a r =>
    rw [q] at h
    have h1 := (minI_fold r a).1
    have h2 := h _ h1
    simp only [minI, eq_iff_iff, iff_false]
    omega
theorem rows_rp (hw : IsWay w) (hy : 0 ≤ y) (hy2 : y ≤ 1000000) (hp : 1 ≤ p) (hp2 : p ≤ 24) : reprOk (.list [.tuple ((partsL w y p).map .int), .tuple ((partsL w y p).map .int), .tuple ((sumsL w y p).map .int), .tuple ((sumsL w y p).map .int)]) = true := by
  have a1 := pokL_ints (partsL w y p) fun s h => ⟨parts_nn hw hp hp2 hy s h, Int.le_trans (parts_le hw hp hp2 hy s h) hy2⟩
  have a2 := pokL_ints (sumsL w y p) fun s h => ⟨(sums_mem hw hp hp2 hy h).1, Int.le_trans (sums_mem hw hp hp2 hy h).2 hy2⟩
  refine reprOk_of ?_ ?_ ?_
  · simp [pok, pokL, a1, a2]
  · simp only [pw, pwL, pwL_ints, partsL_len, sumsL_len]
    omega
  · have b1 := depth_ints (partsL w y p)
    have b2 := depth_ints (sumsL w y p)
    simp only [PyData.depth, PyData.depthAll]
    omega
theorem stepA (F : Pf K) (hw : IsWay w) (hy : 0 ≤ y) (hy2 : y ≤ 1000000) (hp : 1 ≤ p) (hp2 : p ≤ 24) {kvs : List (Key × D)} (hk : kvs.length < 1000000) (P : Pl n st.length y p δ) (h4 : δ[4]? = some (some (.str (Str.ofString w)))) :
    mA K δ (st ++ [.dk kvs]) = .nx (((δ.set 13 (some (.tup ((sumsL w y p).map D.int)))).set 14 (some (.tup ((partsL w y p).map D.int)))).set 8 (some (.loc (st.length + 1)))) (st ++ [.dk (putG kvs (.inr (Str.ofString w)) (.tup ((sumsL w y p).map D.int))), .lst [.tup ((partsL w y p).map D.int), .tup ((partsL w y p).map D.int), .tup ((sumsL w y p).map D.int)]]) := by
  have hi : ∀ S, mf__law_is K [.fl [.tup ((partsL w y p).map D.int), .tup ((partsL w y p).map D.int), .tup ((sumsL w y p).map D.int), .tup ((sumsL w y p).map D.int)], .fl [.tup ((partsL w y p).map D.int), .tup ((partsL w y p).map D.int), .tup ((sumsL w y p).map D.int), .tup ((sumsL w y p).map D.int)]] S = .ok (.bl true) S := fun S =>
    is_ok (p := .list [.tuple ((partsL w y p).map .int), .tuple ((partsL w y p).map .int), .tuple ((sumsL w y p).map .int), .tuple ((sumsL w y p).map .int)]) (by simp [toPd, toP, toPs, toPs_ints]) (by simp [toPd, toP, toPs, toPs_ints]) (rows_rp hw hy hy2 hp hp2)
  have al := atLast (y := y) hw hp hp2
  have mn := min_nn hw hp hp2 hy
  have hlp : 0 < (partsL w y p).length := by rw [partsL_len]; omega
  obtain ⟨o2, o4, o5, o8, o9, o10, o11, o12, o13, o14, o15, o16, o17, rfl⟩ := P.ex
  obtain rfl : o4 = some (.str (Str.ofString w)) := by simpa using h4
  clear P h4
  generalize hr : (sumsL w y p).map D.int = row at *
  have ip : isInts ((partsL w y p).map D.int) = some (partsL w y p) := isInts_map _
  have lp := lparts_ok (K := K) (y := y) hw hp hp2
  have ac := accrued_ok (y := y) F hw hy hy2 hp hp2
  have ls := lsums_ok (K := K) (y := y) hw hp hp2
  have ss := sums_ok (y := y) F hw hy hy2 hp hp2
  rw [hr] at ls ss
  generalize hd : (partsL w y p).map D.int = due at *
  clear hr hd hw hy hy2 hp hp2
  simp [mA, eV, eC, e2, e1, eN, eIf, eAndM, eOrM, eNotM, aNil, aCons, aStar, eTup, eLst, eLstN, eCut, oNone, oSome, tVal, t2, tAndM, tOrM, tNotM, sNil, sSeq, sIf, sRet, sRetN, sSet, sAsg, gNm, gSubM, gTupM, gsNil, gsCons, sPar, sDrop, sRaise, eCall1, eCall, perm, fnM, endF, leave, leaveN, leaveE, beg, Res.bind_ok, Res.bind_err, sBind_ok, sBind_err, bTuple, sqOf, lsOf, ls, ss, lp, ac, dAdd, trOf, hi, dNe_int, dNeg, dIx, al, bMin, ip, hlp, mn, dLt, sKput, dKset, keyD, at0, at1, set0, hk]
end
end K12

/-! ### text K12z.src -/
namespace K12
open PySem PySem.Spec PyProof.Rows L2 L3
theorem subs_mem : ∀ (l m : List Int) (u : Int), (∀ s ∈ l, 0 ≤ s ∧ s ≤ u) → (∀ s ∈ m, 0 ≤ s ∧ s ≤ u) → ∀ d ∈ subs l m, -u ≤ d ∧ d ≤ u
  | [], _, _, _, _, d, h => by simp [subs] at h
  | _ :: _, [], _, _, _, d, h => by simp [subs] at h
  | a :: l, b :: m, u, h1, h2, d, h => by
    simp only [subs, List.mem_cons] at h
    have a1 := h1 a List.mem_cons_self
    have b1 := h2 b List.mem_cons_self
    rcases h with rfl | h
    · omega
    · exact subs_mem l m u (fun s q => h1 s (List.mem_cons_of_mem _ q)) (fun s q => h2 s (List.mem_cons_of_mem _ q)) d h
section
variable {K : PySem.W.Frag} {w v : String} {y p : Int} {n : Nat} {st : Store} {δ : Sl}
theorem gap_le (hw : IsWay w) (hv : IsWay v) (hy : 0 ≤ y) (hy2 : y ≤ 1000000) (hp : 1 ≤ p) (hp2 : p ≤ 24) : (gapL w v y p).natAbs ≤ 1000000 := by
  have h := subs_mem (sumsL w y p) (sumsL v y p) y (fun s q => sums_mem hw hp hp2 hy q) (fun s q => sums_mem hv hp hp2 hy q)
  unfold gapL
  cases q : subs (sumsL w y p) (sumsL v y p) with
  | nil => simp [maxI]
  | cons a r =>
    rw [q] at h
    have h1 := h _ (maxI_fold r a).1
    simp only [maxI]
    omega
theorem stepB (F : Pf K) (hw : IsWay w) (hv : IsWay v) (hy : 0 ≤ y) (hy2 : y ≤ 1000000) (hp : 1 ≤ p) (hp2 : p ≤ 24) (P : Pl n st.length y p δ) (h5 : δ[5]? = some (some (.str (Str.ofString w)))) (h9 : δ[9]? = some (some (.str (Str.ofString v)))) :
    mB K δ (st ++ [.dk (kv y p 5)]) = .nx ((δ.set 15 (some (.int (gapL w v y p)))).set 8 (some (.loc (st.length + 1)))) (st ++ [.dk (kv y p 5), .lst [.int (gapL w v y p), .int (gapL w v y p)]]) := by
  obtain ⟨o2, o4, o5, o8, o9, o10, o11, o12, o13, o14, o15, o16, o17, rfl⟩ := P.ex
  obtain rfl : o5 = some (.str (Str.ofString w)) := by simpa using h5
  obtain rfl : o9 = some (.str (Str.ofString v)) := by simpa using h9
  have hg := gap_le hw hv hy hy2 hp hp2
  have hi : mf__law_is K [.loc (st.length + 1), .fl [.int (gapL w v y p), .int (gapL w v y p)]] (st ++ [.dk (kv y p 5), .lst [.int (gapL w v y p), .int (gapL w v y p)]]) = .ok (.bl true) (st ++ [.dk (kv y p 5), .lst [.int (gapL w v y p), .int (gapL w v y p)]]) := by
    refine is_ok (p := .list [.int (gapL w v y p), .int (gapL w v y p)]) ?_ ?_ ?_
    · simp [toPd, at1, toPs, toP]
    · simp [toPd, toPs, toP]
    · have h2 : (gapL w v y p).natAbs < 10 ^ 100 := Nat.lt_of_le_of_lt hg (by decide)
      refine reprOk_of ?_ ?_ ?_
      · simp only [pok, pokL, decide_eq_true h2]; rfl
      · simp [pw, pwL]
      · simp [PyData.depth, PyData.depthAll]
  have key := gap_lc (w := w) (v := v) (y := y) (p := p) (st := st ++ [.dk (kv y p 5)]) (a := 16) (b := 17) (δ := wipeD [some (.loc n), some W5, o2, some (.loc st.length), o4, some (.str (Str.ofString w)), some (.int y), some (.int p), o8, some (.str (Str.ofString v)), o10, o11, o12, o13, o14, o15, o16, o17] [16, 17]) hp hp2 (by simp [wipeD]) (by simp [wipeD]) (by decide)
  have hpos : 0 < (subs (sumsL w y p) (sumsL v y p)).length := by
    rw [subs_len _ _ (by rw [sumsL_len, sumsL_len]), sumsL_len]; omega
  have hge : maxI (subs (sumsL w y p) (sumsL v y p)) = gapL w v y p := rfl
  have k1 := kv_get y p hw
  have k2 := kv_get y p hv
  have gk := gap_ok F hw hv hy hy2 hp hp2
  clear P h5 h9 hw hv hy hy2 hp hp2 hg
  simp [mB, eV, eC, e2, e1, eN, eIf, eAndM, eOrM, eNotM, aNil, aCons, aStar, eTup, eLst, eLstN, eCut, oNone, oSome, tVal, t2, tAndM, tOrM, tNotM, sNil, sSeq, sIf, sRet, sRetN, sSet, sAsg, gNm, gSubM, gTupM, gsNil, gsCons, sPar, sDrop, sRaise, eCall1, eCall, perm, fnM, endF, leave, leaveN, leaveE, beg, Res.bind_ok, Res.bind_err, sBind_ok, sBind_err, dKx, keyD, k1, k2, eLC, L3.iZip, key, bMax, sqOf, lsOf, isInts_map, hpos, hge, gk, eBM, isLs, dAppend, at0, at1, set0, set1, hi]
theorem forA (F : Pf K) (hy : 0 ≤ y) (hy2 : y ≤ 1000000) (hp : 1 ≤ p) (hp2 : p ≤ 24) (h : AllW st n) (P : Pl n st.length y p δ) : ∃ δ', sFor (iSeq (eV 1)) (.one 4) (mA K) δ (st ++ [.dk []]) = .nx δ' (st ++ [.dk (kv y p 5)]) ∧ Pl n st.length y p δ' := by
  obtain ⟨δ', s', e, P', rfl⟩ := loop_ok (keep := fun _ => True) (t := .one 4) (m := mA K) (n0 := st.length + 1) (fun j δ s => Pl n st.length y p δ ∧ s = st ++ [.dk (kv y p j)]) [D.str "down", .str "near", .str "up", .str "first", .str "last"] 0 δ (st ++ [.dk []]) ⟨P, rfl⟩ (fun _ _ _ _ => trivial) (fun j d δ s hd ⟨P, hs⟩ => by
    subst hs
    obtain ⟨w, hw, rfl⟩ := way_at hd
    have iw := isWay_of (List.mem_of_getElem? hw)
    have P1 := P.set 4 (some (.str (Str.ofString w))) (by decide)
    have e := stepA (K := K) F iw hy hy2 hp hp2 (kvs := kv y p j) (kv_len y p j) P1 (by rw [List.getElem?_set_self (by rw [P.len]; decide)])
    rw [kv_put y p hw] at e
    rw [Nat.zero_add]
    refine ⟨_, _, _, _, _, rfl, .inl e, tidy2 h.2 (kv_shut y p (j + 1) _), ?_, rfl⟩
    exact (((P1.set 13 _ (by decide)).set 14 _ (by decide)).set 8 _ (by decide)).tidy (by have := h.lt; omega) (by omega))
  refine ⟨δ', ?_, P'⟩
  have hl : (st ++ [Cell.dk []]).length = st.length + 1 := by simp
  simp only [sFor, iSeq, eV, P.g1, W5, Res.bind_ok, sBind_ok, hl]
  exact e
theorem forB1 (F : Pf K) (hw : IsWay w) (hy : 0 ≤ y) (hy2 : y ≤ 1000000) (hp : 1 ≤ p) (hp2 : p ≤ 24) (h : AllW st n) (P : Pl n st.length y p δ) (h5 : δ[5]? = some (some (.str (Str.ofString w)))) : ∃ δ', sFor (iSeq (eV 1)) (.one 9) (mB K) δ (st ++ [.dk (kv y p 5)]) = .nx δ' (st ++ [.dk (kv y p 5)]) ∧ Pl n st.length y p δ' := by
  obtain ⟨δ', s', e, ⟨P', _⟩, rfl⟩ := loop_ok (keep := fun _ => True) (t := .one 9) (m := mB K) (n0 := st.length + 1) (fun _ δ s => (Pl n st.length y p δ ∧ δ[5]? = some (some (.str (Str.ofString w)))) ∧ s = st ++ [.dk (kv y p 5)]) [D.str "down", .str "near", .str "up", .str "first", .str "last"] 0 δ (st ++ [.dk (kv y p 5)]) ⟨⟨P, h5⟩, rfl⟩ (fun _ _ _ _ => trivial) (fun j d δ s hd ⟨⟨P, h5⟩, hs⟩ => by
    subst hs
    obtain ⟨v, hv, rfl⟩ := way_at hd
    have iv := isWay_of (List.mem_of_getElem? hv)
    have P1 := P.set 9 (some (.str (Str.ofString v))) (by decide)
    have e := stepB (K := K) F hw iv hy hy2 hp hp2 P1 (by rw [List.getElem?_set_ne (by decide)]; exact h5) (by rw [List.getElem?_set_self (by rw [P.len]; decide)])
    refine ⟨_, _, _, _, _, rfl, .inl e, tidy2 h.2 (kv_shut y p 5 _), ⟨?_, ?_⟩, rfl⟩
    · exact ((P1.set 15 _ (by decide)).set 8 _ (by decide)).tidy (by have := h.lt; omega) (by omega)
    · rw [List.getElem?_map, List.getElem?_set_ne (by decide), List.getElem?_set_ne (by decide), List.getElem?_set_ne (by decide), h5]
      simp [shut])
  refine ⟨δ', ?_, P'⟩
  have hl : (st ++ [Cell.dk (kv y p 5)]).length = st.length + 1 := by simp
  simp only [sFor, iSeq, eV, P.g1, W5, Res.bind_ok, sBind_ok, hl]
  exact e
theorem forB (F : Pf K) (hy : 0 ≤ y) (hy2 : y ≤ 1000000) (hp : 1 ≤ p) (hp2 : p ≤ 24) (h : AllW st n) (P : Pl n st.length y p δ) : ∃ δ', sFor (iSeq (eV 1)) (.one 5) (sFor (iSeq (eV 1)) (.one 9) (mB K)) δ (st ++ [.dk (kv y p 5)]) = .nx δ' (st ++ [.dk (kv y p 5)]) ∧ Pl n st.length y p δ' := by
  obtain ⟨δ', s', e, P', rfl⟩ := loop_ok (keep := fun _ => True) (t := .one 5) (m := sFor (iSeq (eV 1)) (.one 9) (mB K)) (n0 := st.length + 1) (fun _ δ s => Pl n st.length y p δ ∧ s = st ++ [.dk (kv y p 5)]) [D.str "down", .str "near", .str "up", .str "first", .str "last"] 0 δ (st ++ [.dk (kv y p 5)]) ⟨P, rfl⟩ (fun _ _ _ _ => trivial) (fun j d δ s hd ⟨P, hs⟩ => by
    subst hs
    obtain ⟨w, hw, rfl⟩ := way_at hd
    have iw := isWay_of (List.mem_of_getElem? hw)
    have P1 := P.set 5 (some (.str (Str.ofString w))) (by decide)
    obtain ⟨δ2, e, P2⟩ := forB1 (K := K) F iw hy hy2 hp hp2 h P1 (by rw [List.getElem?_set_self (by rw [P.len]; decide)])
    exact ⟨_, _, _, δ2, _, rfl, .inl e, by unfold tidy; rw [if_pos (by simp)], P2, rfl⟩)
  refine ⟨δ', ?_, P'⟩
  have hl : (st ++ [Cell.dk (kv y p 5)]).length = st.length + 1 := by simp
  conv => lhs; unfold sFor
  simp only [iSeq, eV, P.g1, W5, Res.bind_ok, sBind_ok, hl]
  exact e
theorem stepC {S : Store} {a b c : Int} (h1 : a ≤ b) (h2 : b ≤ c) (h3 : c ≤ a + 1) (P : Pl n st.length y p δ) : mC K (((δ.set 10 (some (.int a))).set 11 (some (.int b))).set 12 (some (.int c))) S = .nx (((δ.set 10 (some (.int a))).set 11 (some (.int b))).set 12 (some (.int c))) S := by
  obtain ⟨o2, o4, o5, o8, o9, o10, o11, o12, o13, o14, o15, o16, o17, rfl⟩ := P.ex
  simp [mC, eV, eC, e2, e1, eN, eIf, eAndM, eOrM, eNotM, aNil, aCons, aStar, eTup, eLst, eLstN, eCut, oNone, oSome, tVal, t2, tAndM, tOrM, tNotM, sNil, sSeq, sIf, sRet, sRetN, sSet, sAsg, gNm, gSubM, gTupM, gsNil, gsCons, sPar, sDrop, sRaise, eCall1, eCall, perm, fnM, endF, leave, leaveN, leaveE, beg, Res.bind_ok, Res.bind_err, sBind_ok, sBind_err, eCh3, dLe, dAdd, h1, h2, h3]
theorem forC (hy : 0 ≤ y) (hp : 1 ≤ p) (hp2 : p ≤ 24) (h : AllW st n) (P : Pl n st.length y p δ) : ∃ δ', sFor (iZip3 (aCons (e2 dKx (eV 3) (eC (.str "down"))) (aCons (e2 dKx (eV 3) (eC (.str "near"))) (aCons (e2 dKx (eV 3) (eC (.str "up"))) (aNil))))) (.tup ((.one 10) :: (.one 11) :: (.one 12) :: [])) (mC K) δ (st ++ [.dk (kv y p 5)]) = .nx δ' (st ++ [.dk (kv y p 5)]) ∧ Pl n st.length y p δ' := by
  obtain ⟨δ', s', e, P', rfl⟩ := loop_ok (keep := fun _ => True) (t := .tup ((.one 10) :: (.one 11) :: (.one 12) :: [])) (m := mC K) (n0 := st.length + 1) (fun _ δ s => Pl n st.length y p δ ∧ s = st ++ [.dk (kv y p 5)]) (z3 ((sumsL "down" y p).map D.int) ((sumsL "near" y p).map D.int) ((sumsL "up" y p).map D.int)) 0 δ (st ++ [.dk (kv y p 5)]) ⟨P, rfl⟩ (fun _ _ _ _ => trivial) (fun j d δ s hd ⟨P, hs⟩ => by
    subst hs
    obtain ⟨x1, x2, x3, q1, q2, q3, rfl⟩ := z3_get hd
    simp only [sumsL, List.map_map, List.getElem?_map, Option.map_eq_some_iff, Function.comp_apply, sDown, sNear, sUp] at q1 q2 q3
    obtain ⟨k, hk, rfl⟩ := q1
    obtain ⟨k2, hk2, rfl⟩ := q2
    obtain ⟨k3, hk3, rfl⟩ := q3
    rw [hk] at hk2 hk3
    cases hk2; cases hk3
    obtain ⟨c1, c2, c3⟩ := div_chain (x := (1 + (k : Int)) * y) hp hp2
    refine ⟨_, _, _, _, _, rfl, .inl (stepC c1 c2 c3 P), by unfold tidy; rw [if_pos (by simp)], ?_, rfl⟩
    exact ((P.set 10 _ (by decide)).set 11 _ (by decide)).set 12 _ (by decide))
  refine ⟨δ', ?_, P'⟩
  have hl : (st ++ [Cell.dk (kv y p 5)]).length = st.length + 1 := by simp
  have k1 := kv_get y p (w := "down") (.inl rfl)
  have k2 := kv_get y p (w := "near") (.inr (.inl rfl))
  have k3 := kv_get y p (w := "up") (.inr (.inr (.inl rfl)))
  simp only [sFor, iZip3, aCons, aNil, L3.e2, dKx, eV, eC, P.g3, keyD, at0, k1, k2, k3, Res.bind_ok, sBind_ok, hl]
  exact e
end
end K12

/-! ### text K12w2.src -/
namespace K12
open PySem PySem.Spec PyProof.Rows L2 L3
section
variable {K : PySem.W.Frag} {n : Nat} {st : Store} {δ : Sl}
def Sl2 (n : Nat) (δ : Sl) : Prop := δ.length = 18 ∧ δ[0]? = some (some (.loc n)) ∧ δ[1]? = some (some W5)
theorem turn_ok (F : Pf K) (h : AllW st n) (P : Sl2 n δ) : ∃ δ2 s2 δ3 s3, mT K δ st = .nx δ2 s2 ∧ tidy st.length δ2 s2 = some (δ3, s3) ∧ Sl2 n δ3 ∧ AllW s3 n ∧ s3.length = st.length := by
  obtain ⟨len, g0, g1⟩ := P
  obtain ⟨lim, st1, m1, x1, h1, l1⟩ := ofA (K := K) h (xs := [D.int 2, .int 30, .int 300, .int 1000001]) (by simp) (by simp)
  have hlim : ∃ l : Int, lim = .int l ∧ 0 < l ∧ l ≤ 1000001 := by
    simp only [List.mem_cons, List.not_mem_nil, or_false] at m1
    rcases m1 with rfl | rfl | rfl | rfl <;> exact ⟨_, rfl, by decide, by decide⟩
  obtain ⟨l, rfl, hl0, hl1⟩ := hlim
  obtain ⟨y, st2, x2, y0, y1, h2, l2⟩ := drawA (K := K) h1 hl0 (by omega)
  obtain ⟨q, st3, x3, q0, q1, h3, l3⟩ := drawA (K := K) h2 (l := 24) (by decide) (by decide)
  have hy2 : y ≤ 1000000 := by omega
  have hp : 1 ≤ 1 + q := by omega
  have hp2 : 1 + q ≤ 24 := by omega
  have P1 : Pl n st3.length y (1 + q) (((δ.set 6 (some (.int y))).set 7 (some (.int (1 + q)))).set 3 (some (.loc st3.length))) := by
    refine ⟨by simp [len], ?_, ?_, ?_, ?_, ?_⟩
    · rw [List.getElem?_set_ne (by decide), List.getElem?_set_ne (by decide), List.getElem?_set_ne (by decide)]; exact g0
    · rw [List.getElem?_set_ne (by decide), List.getElem?_set_ne (by decide), List.getElem?_set_ne (by decide)]; exact g1
    · rw [List.getElem?_set_self (by simp [len])]
    · rw [List.getElem?_set_ne (by decide), List.getElem?_set_ne (by decide), List.getElem?_set_self (by simp [len])]
    · rw [List.getElem?_set_ne (by decide), List.getElem?_set_self (by simp [len])]
  obtain ⟨δA, eA, PA⟩ := forA F y0 hy2 hp hp2 h3 P1
  obtain ⟨δB, eB, PB⟩ := forB F y0 hy2 hp hp2 h3 PA
  obtain ⟨δC, eC', PC⟩ := forC (K := K) y0 hp hp2 h3 PB
  have hS := h3.app (c := .dk (kv y (1 + q) 5)) (fun n0 => kv_shut y (1 + q) 5 n0)
  obtain ⟨wd, S2, m4, x4, h4, l4⟩ := ofA (K := K) hS (xs := [D.str "down", .str "near", .str "up", .str "first", .str "last"]) (by simp) (by simp)
  obtain ⟨j, hj⟩ := List.getElem?_of_mem m4
  obtain ⟨w, hw, rfl⟩ := way_at hj
  have iw := isWay_of (List.mem_of_getElem? hw)
  obtain ⟨S3, x5, h5, l5⟩ := wrong_ok F iw y0 hy2 hp hp2 h4
  have hlt := h.lt
  have hS3 : S3.length = st.length + 1 := by rw [l5, l4]; simp; omega
  refine ⟨δC, S3, δC.map (fun o => o.bind fun d => if shut st.length d = true then some d else none), S3.take st.length, ?_, ?_, ⟨?_, ?_, ?_⟩, h5.take hlt, by rw [List.length_take, hS3]; omega⟩
  · have s1 : sPar 6 7 (aCons (eCall1 (mf__law_draw K) (aCons (eV 0) (aCons (eCall1 (mf__law_of K) (aCons (eV 0) (aCons (eTup (aCons (eC (.int 2)) (aCons (eC (.int 30)) (aCons (eC (.int 300)) (aCons (e2 dAdd (e2 dPow (eC (.int 10)) (eC (.int 6))) (eC (.int 1))) (aNil)))))) (aNil)))) (aNil)))) (aCons (e2 dAdd (eC (.int 1)) (eCall1 (mf__law_draw K) (aCons (eV 0) (aCons (eC (.int 24)) (aNil))))) (aNil))) δ st = .nx ((δ.set 6 (some (.int y))).set 7 (some (.int (1 + q)))) st3 := by
      simp [eV, eC, e2, e1, eN, eIf, eAndM, eOrM, eNotM, aNil, aCons, aStar, eTup, eLst, eLstN, eCut, oNone, oSome, tVal, t2, tAndM, tOrM, tNotM, sNil, sSeq, sIf, sRet, sRetN, sSet, sAsg, gNm, gSubM, gTupM, gsNil, gsCons, sPar, sDrop, sRaise, eCall1, eCall, perm, fnM, endF, leave, leaveN, leaveE, beg, Res.bind_ok, Res.bind_err, sBind_ok, sBind_err, g0, dPow, dAdd, x1, x2, x3]
    have s2 : ∀ δ0, sSet 3 eDictN δ0 st3 = .nx (δ0.set 3 (some (.loc st3.length))) (st3 ++ [.dk []]) := fun _ => rfl
    unfold mT
    rw [sSeq, s1]
    simp only [sSeq, s2, eA, eB, eC']
    have x4' : mf__law_of K [.loc n, W5] (st3 ++ [.dk (kv y (1 + q) 5)]) = .ok (.str (Str.ofString w)) S2 := x4
    simp [eV, eC, e2, e1, eN, eIf, eAndM, eOrM, eNotM, aNil, aCons, aStar, eTup, eLst, eLstN, eCut, oNone, oSome, tVal, t2, tAndM, tOrM, tNotM, sNil, sSeq, sIf, sRet, sRetN, sSet, sAsg, gNm, gSubM, gTupM, gsNil, gsCons, sPar, sDrop, sRaise, eCall1, eCall, perm, fnM, endF, leave, leaveN, leaveE, beg, Res.bind_ok, Res.bind_err, sBind_ok, sBind_err, PC.g0, PC.g1, PC.g6, PC.g7, x4', x5]
  · unfold tidy
    rw [if_neg (by omega), if_pos ((h5.take hlt).shut _)]
  · rw [List.length_map]; exact PC.len
  · rw [List.getElem?_map, PC.g0]; simp [shut, hlt]
  · rw [List.getElem?_map, PC.g1]; rfl
theorem right_ok (F : Pf K) (h : AllW st n) : ∃ st', mf__law_right K [.loc n] st = .ok (.bl true) st' ∧ AllW st' n ∧ st'.length = st.length := by
  have P0 : Sl2 n ((beg 18 [.loc n]).set 1 (some W5)) := ⟨rfl, rfl, rfl⟩
  obtain ⟨δ', s', e, P', h', l'⟩ := loop_ok (keep := fun _ => True) (t := .one 2) (m := mT K) (n0 := st.length) (fun _ δ s => Sl2 n δ ∧ AllW s n ∧ s.length = st.length) (rangeD 0 9) 0 ((beg 18 [.loc n]).set 1 (some W5)) st ⟨P0, h, rfl⟩ (fun _ _ _ _ => trivial) (fun j d δ s hd ⟨P, h1, hl⟩ => by
    have P2 : Sl2 n (δ.set 2 (some d)) := ⟨by rw [List.length_set]; exact P.1, by rw [List.getElem?_set_ne (by decide)]; exact P.2.1, by rw [List.getElem?_set_ne (by decide)]; exact P.2.2⟩
    obtain ⟨δ2, s2, δ3, s3, q1, q2, q3, q4, q5⟩ := turn_ok (K := K) F h1 P2
    rw [hl] at q2
    exact ⟨_, _, _, _, _, rfl, .inl q1, q2, q3, q4, by rw [q5, hl]⟩)
  refine ⟨s', ?_, h', l'⟩
  have ef : sFor (iRange1 (aCons (eC (.int 9)) (aNil))) (.one 2) (mT K) ((beg 18 [.loc n]).set 1 (some W5)) st = .nx δ' s' := by
    rw [← e]
    simp [sFor, iRange1, eV, eC, e2, e1, eN, eIf, eAndM, eOrM, eNotM, aNil, aCons, aStar, eTup, eLst, eLstN, eCut, oNone, oSome, tVal, t2, tAndM, tOrM, tNotM, sNil, sSeq, sIf, sRet, sRetN, sSet, sAsg, gNm, gSubM, gTupM, gsNil, gsCons, sPar, sDrop, sRaise, eCall1, eCall, perm, fnM, endF, leave, leaveN, leaveE, beg, Res.bind_ok, Res.bind_err, sBind_ok, sBind_err]
  have es : sSet 1 (eTup (aCons (eC (.str "down")) (aCons (eC (.str "near")) (aCons (eC (.str "up")) (aCons (eC (.str "first")) (aCons (eC (.str "last")) (aNil))))))) (beg 18 [.loc n]) st = .nx ((beg 18 [.loc n]).set 1 (some W5)) st := by
    simp [eV, eC, e2, e1, eN, eIf, eAndM, eOrM, eNotM, aNil, aCons, aStar, eTup, eLst, eLstN, eCut, oNone, oSome, tVal, t2, tAndM, tOrM, tNotM, sNil, sSeq, sIf, sRet, sRetN, sSet, sAsg, gNm, gSubM, gTupM, gsNil, gsCons, sPar, sDrop, sRaise, eCall1, eCall, perm, fnM, endF, leave, leaveN, leaveE, beg, Res.bind_ok, Res.bind_err, sBind_ok, sBind_err, W5]
  show (if [D.loc n].length = 1 then endF leave st.length (m__law_right K (beg 18 [.loc n]) st) else .bad) = _
  rw [if_pos (show [D.loc n].length = 1 from rfl), right_eq]
  simp only [sSeq, es, ef]
  simp [eV, eC, e2, e1, eN, eIf, eAndM, eOrM, eNotM, aNil, aCons, aStar, eTup, eLst, eLstN, eCut, oNone, oSome, tVal, t2, tAndM, tOrM, tNotM, sNil, sSeq, sIf, sRet, sRetN, sSet, sAsg, gNm, gSubM, gTupM, gsNil, gsCons, sPar, sDrop, sRaise, eCall1, eCall, perm, fnM, endF, leave, leaveN, leaveE, beg, Res.bind_ok, Res.bind_err, sBind_ok, sBind_err, l']
end
end K12

/-! ### text K12w3.src -/
namespace K12
open PySem PySem.Spec PyProof.Rows L2 L3
/-! ### the wells -/
theorem cutD_mem {α : Type} {xs : List α} {lo hi : Option Int} {d : α} (h : d ∈ cutD xs lo hi) : d ∈ xs :=
  List.mem_of_mem_drop (List.mem_of_mem_take h)
theorem well_ok {K : PySem.W.Frag} (ns : List Int) (lap : Nat) (st : Store) : ∃ a b : Int, mf__law_well K [.rl (ns.map D.int), .int lap] st = .ok (.loc st.length) (st ++ [.lst [.int a, .int b, .int 0]]) := by
  obtain ⟨δ', s', e, ⟨z, o3, hz⟩, hs⟩ := loop_ok (keep := fun _ => True) (t := .one 3) (m := sSet 2 (e2 dMod (eN bInt (aCons (e2 dAdd (e2 dAdd (e2 dMul (eV 2) (eC (.int 47521))) (e2 dMod (eN bInt (aCons (eV 3) (aNil))) (eC (.int 2147483549)))) (eC (.int 41))) (aNil))) (eC (.int 2147483629)))) (n0 := st.length) (fun _ δ s => (∃ (z : Int) (o3 : Option D), δ = [some (.rl (ns.map D.int)), some (.int lap), some (.int z), o3, none]) ∧ s = st) (cutD (ns.map D.int) none (some 9)) 0 [some (.rl (ns.map D.int)), some (.int lap), some (.int (1421964 + 5231 * lap)), none, none] st ⟨⟨_, _, rfl⟩, rfl⟩ (fun _ _ _ _ => trivial) (fun j d δ s hd ⟨⟨z, o3, hz⟩, hs⟩ => by
    subst hz hs
    have hm : d ∈ ns.map D.int := cutD_mem (List.mem_of_getElem? hd)
    obtain ⟨i, _, rfl⟩ := List.mem_map.mp hm
    refine ⟨_, [some (.rl (ns.map D.int)), some (.int lap), some (.int ((z * 47521 + i % 2147483549 + 41) % 2147483629)), some (.int i), none], s, _, _, rfl, .inl ?_, by unfold tidy; rw [if_pos rfl], ⟨_, _, rfl⟩, rfl⟩
    simp [eV, eC, e2, e1, eN, eIf, eAndM, eOrM, eNotM, aNil, aCons, aStar, eTup, eLst, eLstN, eCut, oNone, oSome, tVal, t2, tAndM, tOrM, tNotM, sNil, sSeq, sIf, sRet, sRetN, sSet, sAsg, gNm, gSubM, gTupM, gsNil, gsCons, sPar, sDrop, sRaise, eCall1, eCall, perm, fnM, endF, leave, leaveN, leaveE, beg, Res.bind_ok, Res.bind_err, sBind_ok, sBind_err, dMul, dAdd, dMod, bInt])
  rw [hz, hs] at e
  clear hz hs
  have hsl : iSeq (eCut (eV 0) (oNone) (oSome (eC (.int 9)))) [some (.rl (ns.map D.int)), some (.int lap), some (.int (1421964 + 5231 * lap)), none, none] st = .ok ⟨cutD (ns.map D.int) none (some 9), fun _ => True⟩ st := rfl
  have ef : sFor (iSeq (eCut (eV 0) (oNone) (oSome (eC (.int 9))))) (.one 3) (sSet 2 (e2 dMod (eN bInt (aCons (e2 dAdd (e2 dAdd (e2 dMul (eV 2) (eC (.int 47521))) (e2 dMod (eN bInt (aCons (eV 3) (aNil))) (eC (.int 2147483549)))) (eC (.int 41))) (aNil))) (eC (.int 2147483629)))) [some (.rl (ns.map D.int)), some (.int lap), some (.int (1421964 + 5231 * lap)), none, none] st = .nx [some (.rl (ns.map D.int)), some (.int lap), some (.int z), o3, none] st := by
    rw [← e]
    simp only [sFor, hsl, sBind_ok]
  have e0 : sSet 2 (e2 dAdd (eC (.int 1421964)) (e2 dMul (eC (.int 5231)) (eV 1))) (beg 5 [.rl (ns.map D.int), .int lap]) st = .nx [some (.rl (ns.map D.int)), some (.int lap), some (.int (1421964 + 5231 * lap)), none, none] st := by
    simp [eV, eC, e2, e1, eN, eIf, eAndM, eOrM, eNotM, aNil, aCons, aStar, eTup, eLst, eLstN, eCut, oNone, oSome, tVal, t2, tAndM, tOrM, tNotM, sNil, sSeq, sIf, sRet, sRetN, sSet, sAsg, gNm, gSubM, gTupM, gsNil, gsCons, sPar, sDrop, sRaise, eCall1, eCall, perm, fnM, endF, leave, leaveN, leaveE, beg, Res.bind_ok, Res.bind_err, sBind_ok, sBind_err, dMul, dAdd]
  have ho : ∃ own : Int, sSet 4 (eIf (t2 dLt (eV 1) (eN (bLen) (aCons (eV 0) (aNil)))) (eN bInt (aCons (e2 dIx (eV 0) (eV 1)) (aNil))) (eC (.int 0))) [some (.rl (ns.map D.int)), some (.int lap), some (.int z), o3, none] st = .nx [some (.rl (ns.map D.int)), some (.int lap), some (.int z), o3, some (.int own)] st := by
    by_cases hl : lap < ns.length
    · refine ⟨ns.getD lap 0, ?_⟩
      have := atI_ints (l := ns) hl
      simp [eV, eC, e2, e1, eN, eIf, eAndM, eOrM, eNotM, aNil, aCons, aStar, eTup, eLst, eLstN, eCut, oNone, oSome, tVal, t2, tAndM, tOrM, tNotM, sNil, sSeq, sIf, sRet, sRetN, sSet, sAsg, gNm, gSubM, gTupM, gsNil, gsCons, sPar, sDrop, sRaise, eCall1, eCall, perm, fnM, endF, leave, leaveN, leaveE, beg, Res.bind_ok, Res.bind_err, sBind_ok, sBind_err, dLt, bLen, sqOf, lsOf, dIx, hl, this, bInt]
    · exact ⟨0, by simp [eV, eC, e2, e1, eN, eIf, eAndM, eOrM, eNotM, aNil, aCons, aStar, eTup, eLst, eLstN, eCut, oNone, oSome, tVal, t2, tAndM, tOrM, tNotM, sNil, sSeq, sIf, sRet, sRetN, sSet, sAsg, gNm, gSubM, gTupM, gsNil, gsCons, sPar, sDrop, sRaise, eCall1, eCall, perm, fnM, endF, leave, leaveN, leaveE, beg, Res.bind_ok, Res.bind_err, sBind_ok, sBind_err, dLt, bLen, sqOf, lsOf, hl]⟩
  obtain ⟨own, ho⟩ := ho
  refine ⟨if own < 0 ∨ own ≥ 10 ^ 15 then (own.natAbs : Int) else 0, (z * 61 + own % 2147483549 * 16007 + 17) % 2147483629, ?_⟩
  show (if [D.rl (ns.map D.int), D.int (lap : Int)].length = 2 then endF leaveN st.length (m__law_well K (beg 5 [.rl (ns.map D.int), .int lap]) st) else .bad) = _
  rw [if_pos (show [D.rl (ns.map D.int), D.int (lap : Int)].length = 2 from rfl)]
  unfold m__law_well
  simp only [sSeq, e0, ef, ho]
  by_cases h1 : own < 0
  · simp [eV, eC, e2, e1, eN, eIf, eAndM, eOrM, eNotM, aNil, aCons, aStar, eTup, eLst, eLstN, eCut, oNone, oSome, tVal, t2, tAndM, tOrM, tNotM, sNil, sSeq, sIf, sRet, sRetN, sSet, sAsg, gNm, gSubM, gTupM, gsNil, gsCons, sPar, sDrop, sRaise, eCall1, eCall, perm, fnM, endF, leave, leaveN, leaveE, beg, Res.bind_ok, Res.bind_err, sBind_ok, sBind_err, dMul, dAdd, dMod, dLt, dGe, dPow, bInt, bAbs, h1]
    omega
  · by_cases h2 : own ≥ 10 ^ 15
    · have h2' : (1000000000000000 : Int) ≤ own := h2
      simp [eV, eC, e2, e1, eN, eIf, eAndM, eOrM, eNotM, aNil, aCons, aStar, eTup, eLst, eLstN, eCut, oNone, oSome, tVal, t2, tAndM, tOrM, tNotM, sNil, sSeq, sIf, sRet, sRetN, sSet, sAsg, gNm, gSubM, gTupM, gsNil, gsCons, sPar, sDrop, sRaise, eCall1, eCall, perm, fnM, endF, leave, leaveN, leaveE, beg, Res.bind_ok, Res.bind_err, sBind_ok, sBind_err, dMul, dAdd, dMod, dLt, dGe, dPow, bInt, bAbs, h1, h2']
      omega
    · have h2' : ¬ (1000000000000000 : Int) ≤ own := h2
      simp [eV, eC, e2, e1, eN, eIf, eAndM, eOrM, eNotM, aNil, aCons, aStar, eTup, eLst, eLstN, eCut, oNone, oSome, tVal, t2, tAndM, tOrM, tNotM, sNil, sSeq, sIf, sRet, sRetN, sSet, sAsg, gNm, gSubM, gTupM, gsNil, gsCons, sPar, sDrop, sRaise, eCall1, eCall, perm, fnM, endF, leave, leaveN, leaveE, beg, Res.bind_ok, Res.bind_err, sBind_ok, sBind_err, dMul, dAdd, dMod, dLt, dGe, dPow, bInt, bAbs, h1, h2']
theorem bls_true : ∀ {xs : List D}, (∀ x ∈ xs, x = .bl true) → isBls xs = some (List.replicate xs.length true)
  | [], _ => rfl
  | d :: xs, h => by
    obtain rfl := h d List.mem_cons_self
    simp only [isBls, bls_true fun x q => h x (List.mem_cons_of_mem _ q), Option.map_some, List.length_cons, List.replicate_succ]
end K12

/-! ### text K12w4.src -/
namespace K12
open PySem PySem.Spec PyProof.Rows L2 L3
theorem lap_ok (ns : List Int) : ∃ c : Nat, c ≤ 3 ∧ eN (bMax) (aCons (eC (.int 1)) (aCons (eN (bMin) (aCons (eN (bLen) (aCons (eV 0) (aNil))) (aCons (eC (.int 3)) (aNil)))) (aNil))) (beg 2 [.rl (ns.map D.int)]) [] = .ok (.int c) [] := by
  by_cases h1 : (3 : Int) < ns.length
  · exact ⟨3, by decide, by simp [eV, eC, e2, e1, eN, eIf, eAndM, eOrM, eNotM, aNil, aCons, aStar, eTup, eLst, eLstN, eCut, oNone, oSome, tVal, t2, tAndM, tOrM, tNotM, sNil, sSeq, sIf, sRet, sRetN, sSet, sAsg, gNm, gSubM, gTupM, gsNil, gsCons, sPar, sDrop, sRaise, eCall1, eCall, perm, fnM, endF, leave, leaveN, leaveE, beg, Res.bind_ok, Res.bind_err, sBind_ok, sBind_err, bLen, sqOf, lsOf, bMin, bMax, h1]⟩
  · by_cases h2 : (1 : Int) < ns.length
    · exact ⟨ns.length, by omega, by simp [eV, eC, e2, e1, eN, eIf, eAndM, eOrM, eNotM, aNil, aCons, aStar, eTup, eLst, eLstN, eCut, oNone, oSome, tVal, t2, tAndM, tOrM, tNotM, sNil, sSeq, sIf, sRet, sRetN, sSet, sAsg, gNm, gSubM, gTupM, gsNil, gsCons, sPar, sDrop, sRaise, eCall1, eCall, perm, fnM, endF, leave, leaveN, leaveE, beg, Res.bind_ok, Res.bind_err, sBind_ok, sBind_err, bLen, sqOf, lsOf, bMin, bMax, h1, h2]⟩
    · exact ⟨1, by decide, by simp [eV, eC, e2, e1, eN, eIf, eAndM, eOrM, eNotM, aNil, aCons, aStar, eTup, eLst, eLstN, eCut, oNone, oSome, tVal, t2, tAndM, tOrM, tNotM, sNil, sSeq, sIf, sRet, sRetN, sSet, sAsg, gNm, gSubM, gTupM, gsNil, gsCons, sPar, sDrop, sRaise, eCall1, eCall, perm, fnM, endF, leave, leaveN, leaveE, beg, Res.bind_ok, Res.bind_err, sBind_ok, sBind_err, bLen, sqOf, lsOf, bMin, bMax, h1, h2]⟩
theorem all_lem {mX : EM} {δ : Sl} {st st' : Store} {xs : List D} {bs : List Bool} (h : mX δ st = .ok (.fl xs) st') (hb : isBls xs = some bs) : sRet (eN bAll (aCons mX aNil)) δ st = .rt (.bl (bs.all id)) st' := by
  simp [sRet, eN, aCons, aNil, h, bAll, lsOf, hb]
theorem law_end {K : PySem.W.Frag} {ns : List Int} {b : Bool} {st' : Store} (em : m_law K (beg 2 [.rl (ns.map D.int)]) [] = .rt (.bl b) st') (hb : b = true) : mf_law K [.rl (ns.map D.int)] [] = .ok (.bl true) [] := by
  subst hb
  unfold mf_law fnM
  rw [if_pos (show [D.rl (ns.map D.int)].length = 1 from rfl), em]
  cases st' with
  | nil => rfl
  | cons c r => rfl
theorem aOne {mE : EM} {δ : Sl} {st st' : Store} {x : D} (h : mE δ st = .ok x st') : aCons mE aNil δ st = .ok [x] st' := by
  simp only [aCons, aNil, h, Res.bind_ok]
theorem lc_range {mX : AM} {t : Nm} {m : EM} {own : List Nat} {δ : Sl} {st st' : Store} {k : Int} {xs : List D} (hm : mX δ st = .ok [.int k] st) (h0 : 0 ≤ k) (h1 : k ≤ 1000) (e : lcL (fun _ => True) t tYesM m (wipeD δ own) (rangeD 0 k.toNat) [] st = .ok ([] ++ xs) st') : eLC (iRange1 mX) t tYesM m own δ st = .ok (.fl xs) st' := by
  have hr : -4611686018427387904 ≤ k ∧ k < 4611686018427387904 := by omega
  rw [List.nil_append] at e
  simp [eLC, iRange1, hm, hr.1, hr.2, e]
theorem law_pf {K : PySem.W.Frag} (F : Pf K) (ns : List Int) : mf_law K [.rl (ns.map D.int)] [] = .ok (.bl true) [] := by
  obtain ⟨c, hc3, hc⟩ := lap_ok ns
  obtain ⟨xs, st', e, hl, hx, -⟩ := lcL_go (keep := fun _ => True) (t := .one 1) (m := eCall1 (mf__law_right K) (aCons (eCall1 (mf__law_well K) (aCons (eV 0) (aCons (eV 1) (aNil)))) (aNil))) (δ := wipeD (beg 2 [.rl (ns.map D.int)]) [1]) Sh (fun x => x = .bl true) (fun _ _ => trivial) (rangeD 0 c) [] [] (by simp [rangeD]; omega) (fun c hc => by cases hc) (fun d hd st hS => by
    simp only [rangeD, List.mem_map, List.mem_range] at hd
    obtain ⟨j, hj, rfl⟩ := hd
    obtain ⟨a, b, ew⟩ := well_ok (K := K) ns j st
    have hA : AllW (st ++ [.lst [.int a, .int b, .int 0]]) st.length := by
      refine ⟨⟨a, b, 0, by simp⟩, fun x hx n0 => ?_⟩
      rcases List.mem_append.mp hx with hx | hx
      · exact hS x hx n0
      · rw [List.mem_singleton.mp hx]; rfl
    obtain ⟨st2, er, h2, l2⟩ := right_ok F hA
    refine ⟨_, _, _, rfl, ?_, rfl, h2.2⟩
    simp [wipeD, beg, eV, eC, e2, e1, eN, eIf, eAndM, eOrM, eNotM, aNil, aCons, aStar, eTup, eLst, eLstN, eCut, oNone, oSome, tVal, t2, tAndM, tOrM, tNotM, sNil, sSeq, sIf, sRet, sRetN, sSet, sAsg, gNm, gSubM, gTupM, gsNil, gsCons, sPar, sDrop, sRaise, eCall1, eCall, perm, fnM, endF, leave, leaveN, leaveE, beg, Res.bind_ok, Res.bind_err, sBind_ok, sBind_err, ew, er])
  have er : eLC (iRange1 (aCons (eN (bMax) (aCons (eC (.int 1)) (aCons (eN (bMin) (aCons (eN (bLen) (aCons (eV 0) (aNil))) (aCons (eC (.int 3)) (aNil)))) (aNil)))) (aNil))) (.one 1) (tYesM) (eCall1 (mf__law_right K) (aCons (eCall1 (mf__law_well K) (aCons (eV 0) (aCons (eV 1) (aNil)))) (aNil))) [1] (beg 2 [.rl (ns.map D.int)]) [] = .ok (.fl xs) st' := by
    exact lc_range (aOne hc) (by omega) (by omega) (by rw [Int.toNat_natCast]; exact e)
  have em : m_law K (beg 2 [.rl (ns.map D.int)]) [] = .rt (.bl ((List.replicate xs.length true).all id)) st' := all_lem er (bls_true hx)
  exact law_end em (by simp)
end K12

/-! ### text facts -/
namespace K12
open PySem PySem.Spec PyProof.Rows L2 L3
def faL : List (PySem.W.Frag → Bool) := [freeB "abs", freeB "all", freeB "bool", freeB "divmod", freeB "int", freeB "isinstance", freeB "len", freeB "max", freeB "min", freeB "range", freeB "repr", freeB "str", freeB "tuple", freeB "zip", strB "DOWN" "down", strB "FIRST" "first", intB "MOST_PARTS" 24, intB "MOST_UNITS" 1000000, strB "NEAR" "near", strB "UP" "up", tupAB "WAYS" dv_WAYS, gloB "is_whole", gloB "is_number", gloB "is_one_of", gloB "check_number", gloB "sum_behind", gloB "sums_of", gloB "parts_of", gloB "check_way", gloB "check_parted", gloB "accrued", gloB "sums", gloB "greatest_gap", gloB "_law_well", gloB "_law_draw", gloB "_law_of", gloB "_law_is", gloB "_law_sum", gloB "_law_sums", gloB "_law_accrued", gloB "_law_refused", gloB "_law_wrong_right", gloB "_law_right", gloB "law", excB "InvalidNumber" "given", excB "InvalidWay" "given", exmB "InvalidNumber" "InvalidNumber" true, exmB "InvalidNumber" "InvalidWay" false, exmB "InvalidWay" "InvalidNumber" false, exmB "InvalidWay" "InvalidWay" true, kitB "int" "int" true, kitB "bool" "int" true, kitB "str" "int" false, kitB "NoneType" "int" false, kitB "tuple" "int" false, kitB "list" "int" false, kitB "int" "bool" false, kitB "bool" "bool" true, kitB "int" "str" false, kitB "bool" "str" false, kitB "str" "str" true, kitB "NoneType" "str" false, kitB "tuple" "str" false, kitB "list" "str" false]
def fnL : List He.DefD := [⟨("is_whole", none), "is_whole", "is_whole", defArgs s_is_whole, defBody s_is_whole, defScope s_is_whole, [], []⟩, ⟨("is_number", none), "is_number", "is_number", defArgs s_is_number, defBody s_is_number, defScope s_is_number, [], []⟩, ⟨("is_one_of", none), "is_one_of", "is_one_of", defArgs s_is_one_of, defBody s_is_one_of, defScope s_is_one_of, [], []⟩, ⟨("check_number", none), "check_number", "check_number", defArgs s_check_number, defBody s_check_number, defScope s_check_number, [], []⟩, ⟨("sum_behind", none), "sum_behind", "sum_behind", defArgs s_sum_behind, defBody s_sum_behind, defScope s_sum_behind, [], []⟩, ⟨("sums_of", none), "sums_of", "sums_of", defArgs s_sums_of, defBody s_sums_of, defScope s_sums_of, [], []⟩, ⟨("parts_of", none), "parts_of", "parts_of", defArgs s_parts_of, defBody s_parts_of, defScope s_parts_of, [], []⟩, ⟨("check_way", none), "check_way", "check_way", defArgs s_check_way, defBody s_check_way, defScope s_check_way, [], []⟩, ⟨("check_parted", none), "check_parted", "check_parted", defArgs s_check_parted, defBody s_check_parted, defScope s_check_parted, [], []⟩, ⟨("accrued", none), "accrued", "accrued", defArgs s_accrued, defBody s_accrued, defScope s_accrued, [], []⟩, ⟨("sums", none), "sums", "sums", defArgs s_sums, defBody s_sums, defScope s_sums, [], []⟩, ⟨("greatest_gap", none), "greatest_gap", "greatest_gap", defArgs s_greatest_gap, defBody s_greatest_gap, defScope s_greatest_gap, [], []⟩, ⟨("_law_well", none), "_law_well", "_law_well", defArgs s__law_well, defBody s__law_well, defScope s__law_well, [], []⟩, ⟨("_law_draw", none), "_law_draw", "_law_draw", defArgs s__law_draw, defBody s__law_draw, defScope s__law_draw, [], []⟩, ⟨("_law_of", none), "_law_of", "_law_of", defArgs s__law_of, defBody s__law_of, defScope s__law_of, [], []⟩, ⟨("_law_is", none), "_law_is", "_law_is", defArgs s__law_is, defBody s__law_is, defScope s__law_is, [], []⟩, ⟨("_law_sum", none), "_law_sum", "_law_sum", defArgs s__law_sum, defBody s__law_sum, defScope s__law_sum, [], []⟩, ⟨("_law_sums", none), "_law_sums", "_law_sums", defArgs s__law_sums, defBody s__law_sums, defScope s__law_sums, [], []⟩, ⟨("_law_accrued", none), "_law_accrued", "_law_accrued", defArgs s__law_accrued, defBody s__law_accrued, defScope s__law_accrued, [], []⟩, ⟨("_law_refused", none), "_law_refused", "_law_refused", defArgs s__law_refused, defBody s__law_refused, defScope s__law_refused, [], []⟩, ⟨("_law_wrong_right", none), "_law_wrong_right", "_law_wrong_right", defArgs s__law_wrong_right, defBody s__law_wrong_right, defScope s__law_wrong_right, [], []⟩, ⟨("_law_right", none), "_law_right", "_law_right", defArgs s__law_right, defBody s__law_right, defScope s__law_right, [], []⟩, ⟨("law", none), "law", "law", defArgs s_law, defBody s_law, defScope s_law, [], []⟩, ⟨("InvalidNumber", some "__init__"), "__init__", "InvalidNumber.__init__", defArgs s_InvalidNumber, defBody s_InvalidNumber, defScope s_InvalidNumber, [], []⟩, ⟨("InvalidWay", some "__init__"), "__init__", "InvalidWay.__init__", defArgs s_InvalidWay, defBody s_InvalidWay, defScope s_InvalidWay, [], []⟩]
def csL : List Nm2 := [("_law_wrong_right", none)]
abbrev Rw : PySem.W.OpenRow := PySem.W.OpenLaw.row PySem.Challenge.rw_leavelots_k12_whole_ways_of_accruing
abbrev hk : PySem.W.Hook := hookT 5 faL fnL csL
def ob (s : PySem.W.SharedT) : AlT := obsT 5 faL fnL csL (HandSHeadRun.getT s)
theorem ob_eq (s : PySem.W.SharedT) : ob s = hk.obs s.abs := obsT_eq (HandSHeadRun.getT_eq s)
def loose0 : List Str := ["__name__", "LeaveError", "InvalidNumber", "InvalidWay", "is_whole", "is_number", "is_one_of", "MOST_UNITS", "check_number", "DOWN", "NEAR", "UP", "FIRST", "LAST", "WAYS", "MOST_PARTS", "sum_behind", "sums_of", "parts_of", "check_way"]
def loose1 : List Str := ["check_parted", "accrued", "sums", "greatest_gap", "_law_well", "_law_draw", "_law_of", "_law_is", "_law_sum", "_law_sums", "_law_accrued", "_law_refused", "_law_wrong_right", "_law_right"]
def looseL : List Str := loose0 ++ loose1
theorem run (w : World) : HandSHeadRun.RunEq Rw (PySem.W.view Rw.prog [38]) hk ob 4000 looseL w := by
  intro os
  kernel_rfl
theorem gd {P : Program} {w : World} {K : PySem.W.Frag} {h : Heap} {mg : Str → Option Value} {base : Heap} (S : Says faL fnL csL h K) (hG : h.Ns mainGlobals mg) (hT : ∀ y ∈ csL, LamX.TabB base mg (codeA K (He.fAd K y)) (tabP K (He.fAd K y))) : Gd P w K mg base where
  n_abs := He.free_ok S.kin hG (S.at 0)
  n_all := He.free_ok S.kin hG (S.at 1)
  n_bool := He.free_ok S.kin hG (S.at 2)
  n_divmod := He.free_ok S.kin hG (S.at 3)
  n_int := He.free_ok S.kin hG (S.at 4)
  n_isinstance := He.free_ok S.kin hG (S.at 5)
  n_len := He.free_ok S.kin hG (S.at 6)
  n_max := He.free_ok S.kin hG (S.at 7)
  n_min := He.free_ok S.kin hG (S.at 8)
  n_range := He.free_ok S.kin hG (S.at 9)
  n_repr := He.free_ok S.kin hG (S.at 10)
  n_str := He.free_ok S.kin hG (S.at 11)
  n_tuple := He.free_ok S.kin hG (S.at 12)
  n_zip := He.free_ok S.kin hG (S.at 13)
  v_DOWN := He.str_ok S.kin hG (S.at 14)
  v_FIRST := He.str_ok S.kin hG (S.at 15)
  v_MOST_PARTS := He.int_ok S.kin hG (S.at 16)
  v_MOST_UNITS := He.int_ok S.kin hG (S.at 17)
  v_NEAR := He.str_ok S.kin hG (S.at 18)
  v_UP := He.str_ok S.kin hG (S.at 19)
  v_WAYS := tupA_of S.kin hG (S.at 20)
  f_is_whole := funA_of S hG (S.at 21) 0 rfl
  f_is_number := funA_of S hG (S.at 22) 1 rfl
  f_is_one_of := funA_of S hG (S.at 23) 2 rfl
  f_check_number := funA_of S hG (S.at 24) 3 rfl
  f_sum_behind := funA_of S hG (S.at 25) 4 rfl
  f_sums_of := funA_of S hG (S.at 26) 5 rfl
  f_parts_of := funA_of S hG (S.at 27) 6 rfl
  f_check_way := funA_of S hG (S.at 28) 7 rfl
  f_check_parted := funA_of S hG (S.at 29) 8 rfl
  f_accrued := funA_of S hG (S.at 30) 9 rfl
  f_sums := funA_of S hG (S.at 31) 10 rfl
  f_greatest_gap := funA_of S hG (S.at 32) 11 rfl
  f__law_well := funA_of S hG (S.at 33) 12 rfl
  f__law_draw := funA_of S hG (S.at 34) 13 rfl
  f__law_of := funA_of S hG (S.at 35) 14 rfl
  f__law_is := funA_of S hG (S.at 36) 15 rfl
  f__law_sum := funA_of S hG (S.at 37) 16 rfl
  f__law_sums := funA_of S hG (S.at 38) 17 rfl
  f__law_accrued := funA_of S hG (S.at 39) 18 rfl
  f__law_refused := funA_of S hG (S.at 40) 19 rfl
  f__law_wrong_right := funA_of S hG (S.at 41) 20 rfl
  f__law_right := funA_of S hG (S.at 42) 21 rfl
  f_law := funA_of S hG (S.at 43) 22 rfl
  c_InvalidNumber := let ⟨fd, F⟩ := S.def_ 23 (stm := s_InvalidNumber) rfl; ExA.of S.kin hG (S.at 44) F (fld2 := "given") ⟨rfl, rfl, rfl, by decide +kernel, rfl, by decide +kernel, by decide +kernel⟩ rfl (by decide) (by decide) fun _ _ _ _ _ _ us hl => match us, hl with | [_, _], _ => rfl
  c_InvalidWay := let ⟨fd, F⟩ := S.def_ 24 (stm := s_InvalidWay) rfl; ExA.of S.kin hG (S.at 45) F (fld2 := "given") ⟨rfl, rfl, rfl, by decide +kernel, rfl, by decide +kernel, by decide +kernel⟩ rfl (by decide) (by decide) fun _ _ _ _ _ _ us hl => match us, hl with | [_, _], _ => rfl
  x_InvalidNumber_InvalidNumber := of_decide_eq_true (S.at 46)
  x_InvalidNumber_InvalidWay := of_decide_eq_true (S.at 47)
  x_InvalidWay_InvalidNumber := of_decide_eq_true (S.at 48)
  x_InvalidWay_InvalidWay := of_decide_eq_true (S.at 49)
  isi := by simp [isC]
  i_int_int := of_decide_eq_true (S.at 50)
  i_bool_int := of_decide_eq_true (S.at 51)
  i_str_int := of_decide_eq_true (S.at 52)
  i_NoneType_int := of_decide_eq_true (S.at 53)
  i_tuple_int := of_decide_eq_true (S.at 54)
  i_list_int := of_decide_eq_true (S.at 55)
  i_int_bool := of_decide_eq_true (S.at 56)
  i_bool_bool := of_decide_eq_true (S.at 57)
  i_int_str := of_decide_eq_true (S.at 58)
  i_bool_str := of_decide_eq_true (S.at 59)
  i_str_str := of_decide_eq_true (S.at 60)
  i_NoneType_str := of_decide_eq_true (S.at 61)
  i_tuple_str := of_decide_eq_true (S.at 62)
  i_list_str := of_decide_eq_true (S.at 63)
  t__law_wrong_right := hT ("_law_wrong_right", none) (by simp [csL])
  o__law_wrong_right := (S.tab ("_law_wrong_right", none) (by simp [csL])).2.2.2
  tabs_u := by simp [tabs]
theorem tabs_in {K : PySem.W.Frag} : ∀ p ∈ tabs K, ∃ y ∈ csL, p.1 = tabP K (He.fAd K y) := by
  intro p hp
  simp only [tabs, List.mem_cons, List.not_mem_nil, or_false] at hp
  rcases hp with rfl
  · exact ⟨("_law_wrong_right", none), by simp [csL], rfl⟩
theorem bind_law {h : Heap} {K : PySem.W.Frag} {mg : Str → Option Value} (S : Says faL fnL csL h K) (hG : h.Ns mainGlobals mg) (s : Shared) (u : Value) : BindsTo s (fdOf K (He.ga K "law")) ⟨[u], []⟩ [("script", u)] := by
  have F : FunA K mg "law" s_law := funA_of S hG (S.at 43) 22 rfl
  obtain ⟨oc, od, kV, doc, pm, an, cdv, ct, osl, e, lk, hcd⟩ := F.f.ex
  rw [e]
  exact .of_eq rfl
end K12

/-! ### text K12end.src -/
namespace K12
open PySem PySem.Spec PyProof.Rows L2 L3
theorem pf_of {h : Heap} {K : PySem.W.Frag} (S : Says faL fnL csL h K) : Pf K where
  nn := of_decide_eq_true (S.at 46)
  wn := of_decide_eq_true (S.at 48)
  ww := of_decide_eq_true (S.at 49)
  int_int := of_decide_eq_true (S.at 50)
  bool_int := of_decide_eq_true (S.at 51)
  str_int := of_decide_eq_true (S.at 52)
  non_int := of_decide_eq_true (S.at 53)
  int_bool := of_decide_eq_true (S.at 56)
  bool_bool := of_decide_eq_true (S.at 57)
  int_str := of_decide_eq_true (S.at 58)
  str_str := of_decide_eq_true (S.at 60)
  non_str := of_decide_eq_true (S.at 61)
  tup_str := of_decide_eq_true (S.at 62)
  lst_str := of_decide_eq_true (S.at 63)
theorem law_true {h : Heap} {K : PySem.W.Frag} {mg : Str → Option Value} (S : Says faL fnL csL h K) (hG : h.Ns mainGlobals mg) : ∀ ns : List Int, ns.length ≤ 63 → (∀ z ∈ ns, Builtin.Int.intBits z ≤ 1048576) → mf_law K [.rl (ns.map D.int)] [] = .ok (.bl true) [] := fun ns _ _ => law_pf (pf_of S) ns
end K12

open PySem PySem.W PySem.Calls PyProof.Rows in
set_option maxHeartbeats 0 in
theorem PySem.Challenge.cw_leavelots_k12_whole_ways_of_accruing_holds : PySem.Challenge.rw_leavelots_k12_whole_ways_of_accruing.Holds := by
  w_on; o_law
  refine HandSHeadRun.head_any (r := K12.Rw) (q := view K12.Rw.prog [38]) (H := K12.hk) (ob := K12.ob) (M := 4000) (loose := K12.looseL) (d := HandSHeadRun.topDef K12.Rw.prog 38) (kwd := []) K12.ob_eq
    (by kernel_rfl) (fun s => by kernel_rfl) K12.run (by kernel_rfl) (by kernel_rfl) (by kernel_rfl) (by rfl) (by first | assumption | decide +kernel) (by decide +kernel) ⟨rfl, rfl, rfl, rfl, rfl, by decide +kernel⟩ ?hw ?hc
  case hw => w_witness2
  case hc =>
    refine L3.walk_ofD (l := PySem.Challenge.rw_leavelots_k12_whole_ways_of_accruing) (n := 63) (k := 45) (x := "script") rfl (by decide) (by kernel_rfl) ⟨rfl, by decide, by decide⟩ rfl ?F
    intro w mg fad h K S hG hmg0
    have hmg : mg ("law" : PySem.Str) = some (.ref fad) := by
      have e : (HandSHeadRun.topDef K12.Rw.prog 38).name = ("law" : PySem.Str) := by kernel_rfl
      rw [← e]
      exact hmg0
    have e := hmg.symm.trans (He.glo_ok S.kin hG (S.at 43))
    cases e
    refine ⟨_, K12.mf_law K, K12.tabs K, fun s u => ?_, ?_, K12.law_true S hG, fun base k1 k2 hT => K12.w_law (K12.gd S hG hT)⟩
    · exact K12.bind_law S hG s u
    · intro p hp
      exact K12.tabs_in p hp
