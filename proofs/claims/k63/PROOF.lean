import PyProof.Rows.All
import HandS.ForMost
import HandS.ForExc
import HandS.TupAny
import HandS.TupMul
import HandS.Conv
import HandS.Deep
import HandS.DeepEq
import KE.KDictKeyed
import KE.SortData
import KE.KDictWalk
import HandS.Lambda
import HandS.Defaults
import HandS.Wide
import HandS.Style
import HandS.List
import HandS.AnyAll
import HandS.Property
import HandS.Iter
import HandS.Zip
import KE.GoesEnum
import HandS.DictComp
import PyProof.Rows.TupDisplay
import KE.KDictSum
import HandS.TryOnly
import HandS.ExcValue
import KE.KExcSuper
import HandS.ExcInit
import KE.KExcIs
import HandS.ExcField
import HandS.ExcOwn
import HandS.IsInst
import HandS.ExcIs
import HandS.HeadHook4
import HandS.HeadWalk
import HandS.TupSets
import Wide.All
import OpenK.AllK
import Wide.FinOn
import KE.KStateDown
import Lean
import HandS.Words
import HandS.WordsExc
import HandS.Head0
import HandS.Head1
import HandS.Head2
import HandS.HeadEnd
import PySem.Challenge.RW_fullfree_k63_whole_rows_left_with_lies
set_option Elab.async false
set_option linter.all false
set_option maxRecDepth 100000
set_option maxHeartbeats 2000000
/-! Layer S, base: values D, the store, results, the relation to the layer L2. -/
namespace SL
open PySem PySem.Spec PyProof.Rows L2

/-- values: data as they are; ref: a thing in the store, which may change -/
inductive D where
  | non | bl (b : Bool) | int (i : Int) | str (x : Str)
  | tup (xs : List D) | lst (xs : List D) | dic (t : Bool) (kvs : List (D × D))
  | obj (c : Nat) (fs : List D) | exc (c : Nat) (fs : List D)
  | fn (x : Nat) | ref (i : Nat)
/-- what stands in the store -/
inductive MO where
  | lst (xs : List D) | dic (t : Bool) (kvs : List (D × D)) | ins (c : Nat) (fs : List D)
abbrev Store := List MO
abbrev Env := List (Option D)
inductive Res (α : Type) where
  | ok (a : α) (st : Store) | exn (c : Nat) (fs : List D) (st : Store) | bad
def Res.bind {α β : Type} (r : Res α) (f : α → Store → Res β) : Res β := match r with
  | .ok a st => f a st
  | .exn c fs st => .exn c fs st
  | .bad => .bad
abbrev EM := Env → Store → Res D

mutual
def toPy : D → Option PyData
  | .non => some .none
  | .bl b => some (.bool b)
  | .int i => some (.int i)
  | .str x => some (.str x)
  | .tup xs => (toPyL xs).map .tuple
  | .lst xs => (toPyL xs).map .list
  | .dic _ _ => none
  | .obj _ _ => none
  | .exc _ _ => none
  | .fn _ => none
  | .ref _ => none
def toPyL : List D → Option (List PyData)
  | [] => some []
  | d :: ds => match toPy d, toPyL ds with
    | some a, some b => some (a :: b)
    | _, _ => none
end
mutual
def keyOf : D → Option NestedKey
  | .non => some .none
  | .bl b => some (.num (if b = true then 1 else 0))
  | .int i => some (.num i)
  | .str x => some (.text x)
  | .tup xs => (keyOfL xs).map .tup
  | .lst _ => none
  | .dic _ _ => none
  | .obj _ _ => none
  | .exc _ _ => none
  | .fn _ => none
  | .ref _ => none
def keyOfL : List D → Option (List NestedKey)
  | [] => some []
  | d :: ds => match keyOf d, keyOfL ds with
    | some a, some b => some (a :: b)
    | _, _ => none
end
def isTup : D → Bool
  | .tup _ => true
  | _ => false
def isLeaf : D → Bool
  | .int _ => true
  | .str _ => true
  | _ => false
/-- a key of a dict of kind t -/
def keyKind (t : Bool) (d : D) : Bool := if t = true then isTup d else isLeaf d

/-! ### the context's tables -/
structure Tab where
  fa : Nat → Addr
  ca : Nat → Addr
  fl : Nat → List Str
  /-- the tables of code objects that lambdas write, with the lambdas' names -/
  tb : List (Addr × Str)
structure Gx where
  K : PySem.W.Frag
  w : World
  T : Tab
/-- a dict, by its object -/
def dO (a : Addr) (o : Obj) : HO := .ext fun h => h.get? a = some o
/-- an exception that is held: its class, its own dict -/
def xO (cls : Value) (dd : Option Addr) (a : Addr) : HO := .ext fun h => ∃ (oe : Obj) (vs : Array Value), h.get? a = some oe ∧ Zc cls dd oe ∧ oe.data = .fields vs
def TupAt (g : Gx) (μ : List Addr) (H : Hp) (a : Addr) (vs : List V) : Prop := (Rd H a (.tup vs) ∧ a ∉ μ) ∨
    ∃ (o : Obj) (its : Array Value) (n : Nat), g.K.lookup a = some o ∧ o.cls = .type "tuple" ∧ o.data = .seq its n ∧ its.size ≤ sizeLine ∧ Vals vs its.toList
theorem TupAt.sq {g : Gx} {μ : List Addr} {H : Hp} {a : Addr} {vs : List V} (h : TupAt g μ H a vs) : SqT g.K H a vs := by
  rcases h with ⟨h, _⟩ | h
  · exact .inl h
  · exact .inr h

mutual
/-- the value v of L2 is d -/
inductive DV (g : Gx) (μ : List Addr) (H : Hp) : V → D → Prop
  | non : DV g μ H .non .non
  | bl (b : Bool) : DV g μ H (.bl b) (.bl b)
  | int (i : Int) : DV g μ H (.int i) (.int i)
  | str (x : Str) : DV g μ H (.str x) (.str x)
  | tup {a vs ds} : TupAt g μ H a vs → DVs g μ H vs ds → DV g μ H (.ref a) (.tup ds)
  | lst {a vs ds} : Rd H a (.lst vs) → a ∉ μ → DVs g μ H vs ds → DV g μ H (.ref a) (.lst ds)
  | dic {a t o es ep kvs} : H a = some (dO a o) → a ∉ μ → o.ExactDict → o.data = .dict es ep → (a == sysModules) = false → Ents g μ H t es.toList kvs → DV g μ H (.ref a) (.dic t kvs)
  | obj {a c dx fvs fs} : H a = some (.ins (g.T.ca c) dx fvs) → a ∉ μ → fvs.map (·.1) = (g.T.fl c).take fs.length → DVs g μ H (fvs.map (·.2)) fs → DV g μ H (.ref a) (.obj c fs)
  | exc0 {a c} : H a = some (xO (.ref (g.T.ca c)) none a) → a ∉ μ → DV g μ H (.ref a) (.exc c [])
  | exc {a b c fvs fs} : H a = some (xO (.ref (g.T.ca c)) (some b) a) → a ∉ μ → H b = some (.xd fvs) → b ∉ μ → fvs.map (·.1) = g.T.fl c → DVs g μ H (fvs.map (·.2)) fs → DV g μ H (.ref a) (.exc c fs)
  | fn (x : Nat) : DV g μ H (.ref (g.T.fa x)) (.fn x)
  | ref {i a} : μ[i]? = some a → DV g μ H (.ref a) (.ref i)
inductive DVs (g : Gx) (μ : List Addr) (H : Hp) : List V → List D → Prop
  | nil : DVs g μ H [] []
  | cons {v d vs ds} : DV g μ H v d → DVs g μ H vs ds → DVs g μ H (v :: vs) (d :: ds)
inductive Ents (g : Gx) (μ : List Addr) (H : Hp) : Bool → List DictEntry → List (D × D) → Prop
  | nil {t} : Ents g μ H t [] []
  | cons {t e es kvs kv vv kd vd nk} : RelV kv e.key → DV g μ H kv kd → keyKind t kd = true → keyOf kd = some nk → nk.depth ≤ 8 → e.hash = nk.hash g.w → RelV vv e.val → DV g μ H vv vd →
      (∀ p ∈ kvs, keyOf p.1 ≠ some nk) → kvs.length + 1 ≤ sizeLine → Ents g μ H t es kvs → Ents g μ H t (e :: es) ((kd, vd) :: kvs)
end

/-- what stands at a store's address -/
inductive MOk (g : Gx) (μ : List Addr) (H : Hp) (a : Addr) : MO → Prop
  | lst {vs ds} : H a = some (.lst vs) → DVs g μ H vs ds → MOk g μ H a (.lst ds)
  | dic {t o es ep kvs} : H a = some (dO a o) → o.ExactDict → o.data = .dict es ep → (a == sysModules) = false → Ents g μ H t es.toList kvs → MOk g μ H a (.dic t kvs)
  | ins {c dx fvs fs} : H a = some (.ins (g.T.ca c) dx fvs) → fvs.map (·.1) = (g.T.fl c).take fs.length → DVs g μ H (fvs.map (·.2)) fs → MOk g μ H a (.ins c fs)
structure Sto (g : Gx) (μ : List Addr) (H : Hp) (st : Store) : Prop where
  len : st.length = μ.length
  nod : μ.Nodup
  at_ : ∀ (i : Nat) (o : MO), st[i]? = some o → ∃ a, μ[i]? = some a ∧ MOk g μ H a o
  tabs : LamX.Tabs g.T.tb H
/-- what stays -/
structure Ext (μ : List Addr) (H : Hp) (μ' : List Addr) (H' : Hp) : Prop where
  keep : ∀ a o, H a = some o → (∀ ps, o ≠ .tbl ps) → a ∉ μ → H' a = some o
  there : ∀ a o, H a = some o → (∀ ps, o ≠ .tbl ps) → ∃ o', H' a = some o' ∧ ∀ ps, o' ≠ .tbl ps
  grow : ∃ more, μ' = μ ++ more ∧ ∀ a ∈ more, ∀ o, H a = some o → ∃ ps, o = .tbl ps
theorem Ext.refl {μ : List Addr} {H : Hp} : Ext μ H μ H := ⟨fun _ _ h _ _ => h, fun _ o h t => ⟨o, h, t⟩, [], by simp, by simp⟩
theorem Ext.mem {μ μ' : List Addr} {H H' : Hp} (e : Ext μ H μ' H') {a : Addr} (h : a ∈ μ) : a ∈ μ' := by
  obtain ⟨m, rfl, _⟩ := e.grow
  exact List.mem_append_left _ h
theorem Ext.notin {μ μ' : List Addr} {H H' : Hp} (e : Ext μ H μ' H') {a : Addr} {o : HO} (h : H a = some o) (n : a ∉ μ) (t : ∀ ps, o ≠ .tbl ps := by intro _ z; cases z) : a ∉ μ' := by
  obtain ⟨m, rfl, hm⟩ := e.grow
  intro q
  rcases List.mem_append.mp q with q | q
  · exact n q
  · obtain ⟨ps, z⟩ := hm a q o h
    exact t ps z
theorem Ext.trans {μ μ1 μ2 : List Addr} {H H1 H2 : Hp} (e : Ext μ H μ1 H1) (f : Ext μ1 H1 μ2 H2) : Ext μ H μ2 H2 := by
  refine ⟨fun a o h t n => f.keep a o (e.keep a o h t n) t (e.notin h n t), fun a o h t => ?_, ?_⟩
  · obtain ⟨o1, h1, t1⟩ := e.there a o h t
    exact f.there a o1 h1 t1
  · obtain ⟨m, e1, hm⟩ := e.grow
    obtain ⟨m2, e2, hm2⟩ := f.grow
    refine ⟨m ++ m2, by rw [e2, e1, List.append_assoc], fun a ha o h => ?_⟩
    rcases List.mem_append.mp ha with q | q
    · exact hm a q o h
    · by_cases t : ∃ ps, o = .tbl ps
      · exact t
      · obtain ⟨o1, h1, t1⟩ := e.there a o h fun ps z => t ⟨ps, z⟩
        obtain ⟨ps, z⟩ := hm2 a q o1 h1
        exact (t1 ps z).elim
theorem Ext.get {μ μ' : List Addr} {H H' : Hp} (e : Ext μ H μ' H') {i : Nat} {a : Addr} (h : μ[i]? = some a) : μ'[i]? = some a := by
  obtain ⟨m, rfl, _⟩ := e.grow
  rw [List.getElem?_append_left (List.getElem?_eq_some_iff.mp h).1]
  exact h
/-- a new thing -/
theorem Ext.new {μ : List Addr} {H : Hp} {p : Addr} {o : HO} (h : H p = none) : Ext μ H μ (upd H p o) := by
  refine ⟨fun a o' q _ _ => ?_, fun a o' q t => ⟨o', ?_, t⟩, [], by simp, by simp⟩ <;> (rw [upd_ne (ne_of_none q h)]; exact q)
theorem Ext.newRef {μ : List Addr} {H : Hp} {p : Addr} {o : HO} (h : H p = none) : Ext μ H (μ ++ [p]) (upd H p o) := by
  refine ⟨fun a o' q _ _ => ?_, fun a o' q t => ⟨o', ?_, t⟩, [p], rfl, ?_⟩
  · rw [upd_ne (ne_of_none q h)]; exact q
  · rw [upd_ne (ne_of_none q h)]; exact q
  · intro a ha o' q
    rw [List.mem_singleton.mp ha, h] at q; cases q
/-- a write -/
theorem Ext.write {μ : List Addr} {H : Hp} {p : Addr} {o : HO} (h : p ∈ μ) (t : ∀ ps, o ≠ .tbl ps := by intro _ z; cases z) : Ext μ H μ (upd H p o) := by
  refine ⟨fun a o' q _ n => ?_, fun a o' q t' => ?_, [], by simp, by simp⟩
  · rw [upd_ne (fun e => n (by rw [e]; exact h))]; exact q
  · by_cases e : a = p
    · exact ⟨o, by rw [e]; exact upd_same, t⟩
    · exact ⟨o', by rw [upd_ne e]; exact q, t'⟩
theorem Ext.rd {μ μ' : List Addr} {H H' : Hp} (e : Ext μ H μ' H') {a : Addr} {u : HO} (r : Rd H a u) (n : a ∉ μ) (t : ∀ ps, u ≠ .tbl ps := by intro _ z; cases z) : Rd H' a u ∧ a ∉ μ' := by
  rcases r with r | ⟨o, r⟩
  · exact ⟨.inl (e.keep a _ r t n), e.notin r n t⟩
  · exact ⟨.inr ⟨o, e.keep a _ r (by intro _ z; cases z) n⟩, e.notin r n⟩
theorem dO_nt {a : Addr} {o : Obj} : ∀ ps, dO a o ≠ .tbl ps := by intro _ z; cases z
theorem xO_nt {cls : Value} {dd : Option Addr} {a : Addr} : ∀ ps, xO cls dd a ≠ .tbl ps := by intro _ z; cases z
theorem TupAt.ext {g : Gx} {μ μ' : List Addr} {H H' : Hp} {a : Addr} {vs : List V} (e : Ext μ H μ' H') (h : TupAt g μ H a vs) : TupAt g μ' H' a vs := by
  rcases h with ⟨h, n⟩ | h
  · exact .inl (e.rd h n)
  · exact .inr h
section
variable {g : Gx} {μ μ' : List Addr} {H H' : Hp}
mutual
theorem DV.ext (e : Ext μ H μ' H') : ∀ {d : D} {v : V}, DV g μ H v d → DV g μ' H' v d
  | .non, _, h => by cases h; exact .non
  | .bl _, _, h => by cases h; exact .bl _
  | .int _, _, h => by cases h; exact .int _
  | .str _, _, h => by cases h; exact .str _
  | .tup ds, _, h => by cases h with | tup h1 h2 => exact .tup (h1.ext e) (DVs.ext e h2)
  | .lst ds, _, h => by cases h with | lst h1 n h2 => exact .lst (e.rd h1 n).1 (e.rd h1 n).2 (DVs.ext e h2)
  | .dic t kvs, _, h => by cases h with | dic h1 n h2 h3 h4 h5 => exact .dic (e.keep _ _ h1 dO_nt n) (e.notin h1 n dO_nt) h2 h3 h4 (Ents.ext e h5)
  | .obj c fs, _, h => by cases h with | obj h1 n h2 h3 => exact .obj (e.keep _ _ h1 (by intro _ z; cases z) n) (e.notin h1 n) h2 (DVs.ext e h3)
  | .exc c fs, _, h => by
    cases h with
    | exc0 h1 n => exact .exc0 (e.keep _ _ h1 xO_nt n) (e.notin h1 n xO_nt)
    | exc h1 n h2 m h3 h4 => exact .exc (e.keep _ _ h1 xO_nt n) (e.notin h1 n xO_nt) (e.keep _ _ h2 (by intro _ z; cases z) m) (e.notin h2 m) h3 (DVs.ext e h4)
  | .fn _, _, h => by cases h; exact .fn _
  | .ref _, _, h => by cases h with | ref h1 => exact .ref (e.get h1)
theorem DVs.ext (e : Ext μ H μ' H') : ∀ {ds : List D} {vs : List V}, DVs g μ H vs ds → DVs g μ' H' vs ds
  | [], _, h => by cases h; exact .nil
  | d :: ds, _, h => by cases h with | cons h1 h2 => exact .cons (DV.ext e h1) (DVs.ext e h2)
theorem Ents.ext (e : Ext μ H μ' H') : ∀ {kvs : List (D × D)} {t : Bool} {es : List DictEntry}, Ents g μ H t es kvs → Ents g μ' H' t es kvs
  | [], _, _, h => by cases h; exact .nil
  | (a, b) :: kvs, _, _, h => by cases h with | cons h1 h2 h3 h4 h5 h6 h7 h8 h9 h10 h11 => exact .cons h1 (DV.ext e h2) h3 h4 h5 h6 h7 (DV.ext e h8) h9 h10 (Ents.ext e h11)
end
end
end SL
set_option maxRecDepth 100000
set_option maxHeartbeats 2000000
/-! Layer S, expressions: the judgements SE, ST, SA and the first rules. -/
namespace SL
open PySem PySem.Spec PyProof.Rows L2

def EnvR (g : Gx) (μ : List Addr) (H : Hp) (σ : L2.St) (ρ : Env) : Prop := ρ.length = σ.length ∧ ∀ (i : Nat) (d : D), ρ[i]? = some (some d) → ∃ v, σ[i]? = some (some v) ∧ DV g μ H v d
theorem EnvR.ext {g : Gx} {μ μ' : List Addr} {H H' : Hp} {σ : L2.St} {ρ : Env} (e : Ext μ H μ' H') (h : EnvR g μ H σ ρ) : EnvR g μ' H' σ ρ :=
  ⟨h.1, fun i d q => let ⟨v, h1, h2⟩ := h.2 i d q; ⟨v, h1, h2.ext e⟩⟩
theorem EnvR.set {g : Gx} {μ : List Addr} {H : Hp} {σ : L2.St} {ρ : Env} (h : EnvR g μ H σ ρ) {v : V} {d : D} (r : DV g μ H v d) (i : Nat) : EnvR g μ H (σ.set i (some v)) (ρ.set i (some d)) := by
  refine ⟨by simp [h.1], fun j e q => ?_⟩
  by_cases hij : i = j
  · subst hij
    by_cases hl : i < ρ.length
    · rw [List.getElem?_set_self hl] at q
      cases q
      exact ⟨v, List.getElem?_set_self (by rw [← h.1]; exact hl), r⟩
    · rw [List.getElem?_eq_none (by simpa using hl)] at q; cases q
  · rw [List.getElem?_set_ne hij] at q
    rw [List.getElem?_set_ne hij]
    exact h.2 j e q
/-- an exception that flies: its class, its dict -/
def Exn (g : Gx) (μ : List Addr) (H : Hp) (c : Nat) (fs : List D) (cls : Value) (dd : Option Addr) : Prop :=
  cls = .ref (g.T.ca c) ∧ ((dd = none ∧ fs = []) ∨ ∃ b fvs, dd = some b ∧ H b = some (.xd fvs) ∧ b ∉ μ ∧ fvs.map (·.1) = g.T.fl c ∧ DVs g μ H (fvs.map (·.2)) fs)
def AfterG {α β : Type} (Rl : List Addr → Hp → β → α → Prop) (g : Gx) (μ : List Addr) (H : Hp) (Q : β → Hp → Prop) (E : XK) (r : Res α) : Prop := match r with
  | .ok d st => ∀ v μ' H', Ext μ H μ' H' → Sto g μ' H' st → Rl μ' H' v d → Q v H'
  | .exn c fs st => ∀ cls dd μ' H', Ext μ H μ' H' → Sto g μ' H' st → Exn g μ' H' c fs cls dd → E cls dd H'
  | .bad => False
abbrev After (g : Gx) := AfterG (fun μ H => DV g μ H) g
abbrev AfterT (g : Gx) := AfterG (fun _ _ (b c : Bool) => b = c) g
abbrev AfterA (g : Gx) := AfterG (fun μ H => DVs g μ H) g
section
variable {α β : Type} {Rl : List Addr → Hp → β → α → Prop} {g : Gx} {μ μ' : List Addr} {H H' : Hp} {Q Q' : β → Hp → Prop} {E : XK} {r : Res α}
theorem AfterG.ext (e : Ext μ H μ' H') (h : AfterG Rl g μ H Q E r) : AfterG Rl g μ' H' Q E r := by
  cases r with
  | ok d st => exact fun v μ2 H2 e2 => h v μ2 H2 (e.trans e2)
  | exn c fs st => exact fun cls dd μ2 H2 e2 => h cls dd μ2 H2 (e.trans e2)
  | bad => exact h
theorem AfterG.mono (h : AfterG Rl g μ H Q E r) (k : ∀ v H, Q v H → Q' v H) : AfterG Rl g μ H Q' E r := by
  cases r with
  | ok d st => exact fun v μ2 H2 e2 s r => k _ _ (h v μ2 H2 e2 s r)
  | exn c fs st => exact h
  | bad => exact h
/-- one thing, then another -/
theorem AfterG.bind {γ δ : Type} {Rm : List Addr → Hp → δ → γ → Prop} {f : α → Store → Res γ} {Q2 : δ → Hp → Prop} (h : AfterG Rm g μ H Q2 E (r.bind f)) :
    AfterG Rl g μ H (fun v H1 => ∃ d st1 μ1, Ext μ H μ1 H1 ∧ Sto g μ1 H1 st1 ∧ Rl μ1 H1 v d ∧ AfterG Rm g μ1 H1 Q2 E (f d st1)) E r := by
  cases r with
  | ok d st => exact fun v μ1 H1 e s q => ⟨d, st, μ1, e, s, q, AfterG.ext e h⟩
  | exn c fs st => exact h
  | bad => exact h
theorem AfterG.now {d : α} {st : Store} {v : β} (h : AfterG Rl g μ H Q E (.ok d st)) (s : Sto g μ H st) (q : Rl μ H v d) : Q v H := h v μ H .refl s q
end

/-! ### the judgements -/
def tG {α β : Type} (Rl : List Addr → Hp → β → α → Prop) (g : Gx) (E : XK) (m : Env → Store → Res α) : L2.St → Hp → (β → Hp → Prop) → Prop :=
  fun σ H Q => ∃ ρ st μ, EnvR g μ H σ ρ ∧ Sto g μ H st ∧ AfterG Rl g μ H Q E (m ρ st)
abbrev tE (g : Gx) (E : XK) (m : EM) : TE := tG (fun μ H => DV g μ H) g E m
abbrev TM := Env → Store → Res Bool
abbrev AM := Env → Store → Res (List D)
abbrev tT (g : Gx) (E : XK) (m : TM) : TT := tG (fun _ _ (b c : Bool) => b = c) g E m
abbrev tA (g : Gx) (E : XK) (m : AM) : TA := tG (fun μ H => DVs g μ H) g E m
abbrev gx (X : Cx) (T : Tab) : Gx := ⟨X.K, X.w, T⟩
def SE (X : Cx) (T : Tab) (E : XK) (e : Expr) (m : EM) : Prop := PE X e (tE (gx X T) E m)
def ST (X : Cx) (T : Tab) (E : XK) (e : Expr) (m : TM) : Prop := PT X e (tT (gx X T) E m)
/-- a test whatever its 'whole' is -/
def SW (X : Cx) (T : Tab) (E : XK) (e : Expr) (m : TM) : Prop := PW X e (tT (gx X T) E m)
def SA (X : Cx) (T : Tab) (E : XK) (es : List Expr) (m : AM) : Prop := PA X es (tA (gx X T) E m)

section
variable {X : Cx} {T : Tab} {E : XK} {e a b c : Expr} {es rest : List Expr} {m ma mb mc : EM} {pos : Pos} {t u : TE}
theorem PE.imp (h : PE X e t) (k : ∀ σ H Q, u σ H Q → t σ H Q) : PE X e u := ⟨fun pins s σ H Q I q => h.run pins s σ H Q I (k σ H Q q)⟩
theorem PT.imp {t u : TT} (h : PT X e t) (k : ∀ σ H Q, u σ H Q → t σ H Q) : PT X e u := ⟨fun pins s σ H Q I q => h.run pins s σ H Q I (k σ H Q q)⟩
theorem PW.imp {t u : TT} (h : PW X e t) (k : ∀ σ H Q, u σ H Q → t σ H Q) : PW X e u := ⟨fun wh pins s σ H Q I q => h.run wh pins s σ H Q I (k σ H Q q)⟩
theorem PA.imp {t u : TA} (h : PA X es t) (k : ∀ σ H Q, u σ H Q → t σ H Q) : PA X es u := ⟨fun po pins s σ H Q I q => h.run po pins s σ H Q I (k σ H Q q)⟩
theorem tG_mono {α β : Type} {Rl : List Addr → Hp → β → α → Prop} {g : Gx} {m : Env → Store → Res α} {σ : L2.St} {H : Hp} {Q Q' : β → Hp → Prop} (h : tG Rl g E m σ H Q) (k : ∀ v H, Q v H → Q' v H) : tG Rl g E m σ H Q' := by
  obtain ⟨ρ, st, μ, h1, h2, h3⟩ := h
  exact ⟨ρ, st, μ, h1, h2, h3.mono k⟩
/-- first m, then k -/
theorem tG_bind {α β γ δ : Type} {Rl : List Addr → Hp → β → α → Prop} {Rm : List Addr → Hp → δ → γ → Prop} {g : Gx} {m : Env → Store → Res α} {k : Env → α → Store → Res γ} {σ : L2.St} {H : Hp} {Q : δ → Hp → Prop}
    (h : tG Rm g E (fun ρ st => (m ρ st).bind (k ρ)) σ H Q) :
    tG Rl g E m σ H (fun v H1 => ∃ d ρ st1 μ1, EnvR g μ1 H1 σ ρ ∧ Sto g μ1 H1 st1 ∧ Rl μ1 H1 v d ∧ AfterG Rm g μ1 H1 Q E (k ρ d st1)) := by
  obtain ⟨ρ, st, μ, h1, h2, h3⟩ := h
  refine ⟨ρ, st, μ, h1, h2, ?_⟩
  refine (AfterG.bind (Rl := Rl) h3).mono fun v H1 q => ?_
  obtain ⟨d, st1, μ1, e1, s1, r1, q1⟩ := q
  exact ⟨d, ρ, st1, μ1, h1.ext e1, s1, r1, q1⟩

/-! ### names, constants -/
def mVar (i : Nat) : EM := fun ρ st => match ρ[i]? with
  | some (some d) => .ok d st
  | _ => .bad
def mC (d : D) : EM := fun _ st => .ok d st
theorem se_var (i : Nat) {x : Str} (hN : X.N[i]? = some x := by rfl) (hv : Vis X.env.scope x := by first | exact Or.inl rfl | exact Or.inr (Or.inl rfl) | exact Or.inr (Or.inr rfl)) (hd : (x == ("__debug__" : Str)) = false := by decide)
    (hcd : (x == ("__classdict__" : Str)) = false := by decide) : SE X T E (.Name x pos) (mVar i) := by
  refine PE.imp (pe_var hN hv hd hcd) fun σ H Q h => ?_
  obtain ⟨ρ, st, μ, h1, h2, h3⟩ := h
  cases hr : ρ[i]? with
  | none => simp only [mVar, hr] at h3; exact h3.elim
  | some o =>
    cases o with
    | none => simp only [mVar, hr] at h3; exact h3.elim
    | some d =>
      simp only [mVar, hr] at h3
      obtain ⟨v, e1, e2⟩ := h1.2 i d hr
      exact ⟨v, e1, h3.now h2 e2⟩
theorem se_const {v : V} {d : D} (h : PE X e (tC v)) (r : ∀ μ H, DV (gx X T) μ H v d) : SE X T E e (mC d) := by
  refine PE.imp h fun σ H Q h => ?_
  obtain ⟨ρ, st, μ, h1, h2, h3⟩ := h
  exact h3.now h2 (r μ H)
theorem se_int {i : Int} {j} : SE X T E (.Constant (.int i) j pos) (mC (.int i)) := se_const pe_int fun _ _ => .int i
theorem se_bl {i : Bool} {j} : SE X T E (.Constant (.bool i) j pos) (mC (.bl i)) := se_const pe_bl fun _ _ => .bl i
theorem se_non {j} : SE X T E (.Constant .none j pos) (mC .non) := se_const pe_non fun _ _ => .non
theorem se_str {i : Str} {j} : SE X T E (.Constant (.str i) j pos) (mC (.str i)) := se_const pe_str fun _ _ => .str i
/-- a module's number -/
theorem se_globI {x : Str} {i : Int} {t : Tok} (hm : X.mg x = some (.int i t)) (hg : Gl X x := by rfl) (hd : (x == ("__debug__" : Str)) = false := by decide) : SE X T E (.Name x pos) (mC (.int i)) :=
  se_const (pe_glob (v := .int i) hg hm ⟨t, rfl⟩ hd) fun _ _ => .int i
/-- a module's function, as a value -/
theorem se_globF {x : Str} (k : Nat) (hm : X.mg x = some (.ref (T.fa k))) (hg : Gl X x := by rfl) (hd : (x == ("__debug__" : Str)) = false := by decide) : SE X T E (.Name x pos) (mC (.fn k)) :=
  se_const (pe_glob (v := .ref (T.fa k)) hg hm rfl hd) fun _ _ => .fn k

/-! ### operators, by values -/
abbrev O2 := D → D → Store → Res D
def rD2 (g : Gx) (E : XK) (f : O2) : R2 := fun x y H Q => ∃ d1 d2 st μ, Sto g μ H st ∧ DV g μ H x d1 ∧ DV g μ H y d2 ∧ After g μ H Q E (f d1 d2 st)
def mBin (f : O2) (ma mb : EM) : EM := fun ρ st => (ma ρ st).bind fun x st1 => (mb ρ st1).bind fun y st2 => f x y st2
theorem tE_bin {g : Gx} {f : O2} {σ : L2.St} {H : Hp} {Q : VK} (h : tE g E (mBin f ma mb) σ H Q) : tOp (rD2 g E f) (tE g E ma) (tE g E mb) σ H Q := by
  refine tG_mono (tG_bind (Rl := fun μ H => DV g μ H) (k := fun ρ x st1 => (mb ρ st1).bind fun y st2 => f x y st2) h) fun x H1 q => ?_
  obtain ⟨d1, ρ, st1, μ1, r1, s1, q1, a1⟩ := q
  refine ⟨ρ, st1, μ1, r1, s1, ?_⟩
  refine (AfterG.bind (Rl := fun μ H => DV g μ H) a1).mono fun y H2 q => ?_
  obtain ⟨d2, st2, μ2, e2, s2, q2, a2⟩ := q
  exact ⟨d1, d2, st2, μ2, s2, q1.ext e2, q2, a2⟩
theorem se_bin {op : Operator} {f : O2} (ho : OpR X (binaryOp op) (rD2 (gx X T) E f)) (ha : SE X T E a ma) (hb : SE X T E b mb) : SE X T E (.BinOp a op b pos) (mBin f ma mb) :=
  PE.imp (pe_op ho ha hb) fun _ _ _ h => tE_bin h
theorem se_cmp {op : CmpOp} {f : O2} (ho : OpR X (compareOp op) (rD2 (gx X T) E f)) (ha : SE X T E a ma) (hb : SE X T E b mb) (hm : behindInMarks op b = false := by first | exact nomark _ | rfl) : SE X T E (.Compare a [op] [b] pos) (mBin f ma mb) :=
  PE.imp (pe_cmpR ho ha hb hm) fun _ _ _ h => tE_bin h
/-- a bool as a test -/
def toB (r : Res D) : Res Bool := r.bind fun d st => match d with
  | .bl b => .ok b st
  | _ => .bad
def mTest (m : EM) : TM := fun ρ st => toB (m ρ st)
theorem tT_test {g : Gx} {σ : L2.St} {H : Hp} {Q : Bool → Hp → Prop} (h : tT g E (mTest m) σ H Q) : tTest (tE g E m) σ H Q := by
  refine tG_mono (tG_bind (Rl := fun μ H => DV g μ H) (k := fun ρ d st => match d with
    | .bl b => Res.ok b st
    | _ => .bad) h) fun x H1 q => ?_
  obtain ⟨d, ρ, st1, μ1, r1, s1, q1, a1⟩ := q
  cases d with
  | bl k =>
    cases q1
    exact ⟨k, rfl, a1.now s1 rfl⟩
  | _ => exact a1.elim
theorem st_cmp {op : CmpOp} {f : O2} (ho : OpR X (compareOp op) (rD2 (gx X T) E f)) (ha : SE X T E a ma) (hb : SE X T E b mb) (hm : behindInMarks op b = false := by first | exact nomark _ | rfl) : ST X T E (.Compare a [op] [b] pos) (mTest (mBin f ma mb)) :=
  PT.imp (pt_cmpR ho ha hb hm) fun σ H Q h => by
    have h1 := tT_test h
    exact tE_bin h1
/-- any other expression whose value is a bool -/
theorem st_val (ha : SE X T E a ma) (he : ∀ whole, isTrue a X.env whole = (do let v ← whole; standAt a.pos; holding [v] (truthy v)) := by intro _; rfl) : ST X T E a (mTest ma) :=
  PT.imp (pt_val ha he) fun σ H Q h => by
    have h1 := tT_test h
    exact tG_mono h1 fun x H1 q => q
/-! ### chains -/
def mChain (f f' : O2) (ma mb mc : EM) : EM := fun ρ st => (ma ρ st).bind fun x st1 => (mb ρ st1).bind fun y st2 => (f x y st2).bind fun z st3 => match z with
  | .bl true => (mc ρ st3).bind fun w st4 => f' y w st4
  | .bl false => .ok (.bl false) st3
  | _ => .bad
theorem tE_chain {g : Gx} {f f' : O2} {σ : L2.St} {H : Hp} {Q : VK} (h : tE g E (mChain f f' ma mb mc) σ H Q) : tChain (rD2 g E f) (rD2 g E f') (tE g E ma) (tE g E mb) (tE g E mc) σ H Q := by
  refine tG_mono (tG_bind (Rl := fun μ H => DV g μ H) (k := fun ρ x st1 => (mb ρ st1).bind fun y st2 => (f x y st2).bind fun z st3 => match z with
    | .bl true => (mc ρ st3).bind fun w st4 => f' y w st4
    | .bl false => .ok (.bl false) st3
    | _ => .bad) h) fun x H1 q => ?_
  obtain ⟨d1, ρ, st1, μ1, r1, s1, q1, a1⟩ := q
  refine ⟨ρ, st1, μ1, r1, s1, ?_⟩
  refine (AfterG.bind (Rl := fun μ H => DV g μ H) a1).mono fun y H2 q => ?_
  obtain ⟨d2, st2, μ2, e2, s2, q2, a2⟩ := q
  refine ⟨d1, d2, st2, μ2, s2, q1.ext e2, q2, ?_⟩
  refine (AfterG.bind (Rl := fun μ H => DV g μ H) a2).mono fun z H3 q => ?_
  obtain ⟨d3, st3, μ3, e3, s3, q3, a3⟩ := q
  cases d3 with
  | bl k =>
    cases q3
    refine ⟨k, rfl, ?_⟩
    cases k with
    | false => exact a3.now s3 (.bl false)
    | true =>
      refine ⟨ρ, st3, μ3, (r1.ext e2).ext e3, s3, ?_⟩
      refine (AfterG.bind (Rl := fun μ H => DV g μ H) a3).mono fun w H4 q => ?_
      obtain ⟨d4, st4, μ4, e4, s4, q4, a4⟩ := q
      exact ⟨d2, d4, st4, μ4, s4, (q2.ext e3).ext e4, q4, a4⟩
  | _ => exact a3.elim
theorem se_chain {op op' : CmpOp} {f f' : O2} (ho : OpR X (compareOp op) (rD2 (gx X T) E f)) (ho' : OpR X (compareOp op') (rD2 (gx X T) E f')) (ha : SE X T E a ma) (hb : SE X T E b mb) (hc : SE X T E c mc)
    (hm : lastMarks [op, op'] [b, c] = false := by with_unfolding_all rfl) : SE X T E (.Compare a [op, op'] [b, c] pos) (mChain f f' ma mb mc) := PE.imp (pe_chain ho ho' ha hb hc hm) fun _ _ _ h => tE_chain h
theorem st_chain {op op' : CmpOp} {f f' : O2} (ho : OpR X (compareOp op) (rD2 (gx X T) E f)) (ho' : OpR X (compareOp op') (rD2 (gx X T) E f')) (ha : SE X T E a ma) (hb : SE X T E b mb) (hc : SE X T E c mc)
    (hm : lastMarks [op, op'] [b, c] = false := by with_unfolding_all rfl) : ST X T E (.Compare a [op, op'] [b, c] pos) (mTest (mChain f f' ma mb mc)) := PT.imp (pt_chain ho ho' ha hb hc hm) fun _ _ _ h => tE_chain (tT_test h)

/-! ### and, or, not, if else -/
variable {tma tmb tmc : TM}
def tmAnd (m k : TM) : TM := fun ρ st => (m ρ st).bind fun b st1 => if b = true then k ρ st1 else .ok false st1
def tmOr (m k : TM) : TM := fun ρ st => (m ρ st).bind fun b st1 => if b = true then .ok true st1 else k ρ st1
def tmNot (m : TM) : TM := fun ρ st => (m ρ st).bind fun b st1 => .ok (!b) st1
abbrev RB : List Addr → Hp → Bool → Bool → Prop := fun _ _ b c => b = c
theorem sw_and1 (ha : ST X T E a tma) : SW X T E (.BoolOp .And [a] pos) tma := pw_and1 ha
theorem sw_or1 (ha : ST X T E a tma) : SW X T E (.BoolOp .Or [a] pos) tma := pw_or1 ha
theorem sw_and (ha : ST X T E a tma) (hb : SW X T E (.BoolOp .And (b :: rest) pos) tmb) : SW X T E (.BoolOp .And (a :: b :: rest) pos) (tmAnd tma tmb) := by
  refine PW.imp (pw_and ha hb) fun σ H Q h => ?_
  refine tG_mono (tG_bind (Rl := RB) (k := fun ρ b st1 => if b = true then tmb ρ st1 else .ok false st1) h) fun x H1 q => ?_
  obtain ⟨d, ρ, st1, μ1, r1, s1, q1, a1⟩ := q
  cases q1
  cases x with
  | true => exact ⟨ρ, st1, μ1, r1, s1, a1⟩
  | false => exact a1.now s1 rfl
theorem sw_or (ha : ST X T E a tma) (hb : SW X T E (.BoolOp .Or (b :: rest) pos) tmb) : SW X T E (.BoolOp .Or (a :: b :: rest) pos) (tmOr tma tmb) := by
  refine PW.imp (pw_or ha hb) fun σ H Q h => ?_
  refine tG_mono (tG_bind (Rl := RB) (k := fun ρ b st1 => if b = true then .ok true st1 else tmb ρ st1) h) fun x H1 q => ?_
  obtain ⟨d, ρ, st1, μ1, r1, s1, q1, a1⟩ := q
  cases q1
  cases x with
  | true => exact a1.now s1 rfl
  | false => exact ⟨ρ, st1, μ1, r1, s1, a1⟩
theorem st_bool (h : SW X T E a tma) : ST X T E a tma := PW.pt h
theorem st_not (ha : ST X T E a tma) : ST X T E (.UnaryOp .Not a pos) (tmNot tma) := by
  refine PT.imp (pt_not ha) fun σ H Q h => ?_
  refine tG_mono (tG_bind (Rl := RB) (k := fun ρ b st1 => .ok (!b) st1) h) fun x H1 q => ?_
  obtain ⟨d, ρ, st1, μ1, r1, s1, q1, a1⟩ := q
  cases q1
  exact a1.now s1 rfl
def mAnd (m k : EM) : EM := fun ρ st => (m ρ st).bind fun d st1 => match d with
  | .bl true => k ρ st1
  | .bl false => .ok (.bl false) st1
  | _ => .bad
def mOr (m k : EM) : EM := fun ρ st => (m ρ st).bind fun d st1 => match d with
  | .bl true => .ok (.bl true) st1
  | .bl false => k ρ st1
  | _ => .bad
def mNot (m : EM) : EM := fun ρ st => (m ρ st).bind fun d st1 => match d with
  | .bl b => .ok (.bl (!b)) st1
  | _ => .bad
theorem se_one {op} (h : SE X T E a ma) : SE X T E (.BoolOp op [a] pos) ma := pe_one h
theorem se_and (ha : SE X T E a ma) (hb : SE X T E (.BoolOp .And (b :: rest) pos) mb) : SE X T E (.BoolOp .And (a :: b :: rest) pos) (mAnd ma mb) := by
  refine PE.imp (pe_and ha hb) fun σ H Q h => ?_
  refine tG_mono (tG_bind (Rl := fun μ H => DV (gx X T) μ H) (k := fun ρ d st1 => match d with
    | .bl true => mb ρ st1
    | .bl false => .ok (.bl false) st1
    | _ => .bad) h) fun x H1 q => ?_
  obtain ⟨d, ρ, st1, μ1, r1, s1, q1, a1⟩ := q
  cases d with
  | bl k =>
    cases q1
    refine ⟨k, rfl, ?_⟩
    cases k with
    | true => exact ⟨ρ, st1, μ1, r1, s1, a1⟩
    | false => exact a1.now s1 (.bl false)
  | _ => exact a1.elim
theorem se_or (ha : SE X T E a ma) (hb : SE X T E (.BoolOp .Or (b :: rest) pos) mb) : SE X T E (.BoolOp .Or (a :: b :: rest) pos) (mOr ma mb) := by
  refine PE.imp (pe_or ha hb) fun σ H Q h => ?_
  refine tG_mono (tG_bind (Rl := fun μ H => DV (gx X T) μ H) (k := fun ρ d st1 => match d with
    | .bl true => .ok (.bl true) st1
    | .bl false => mb ρ st1
    | _ => .bad) h) fun x H1 q => ?_
  obtain ⟨d, ρ, st1, μ1, r1, s1, q1, a1⟩ := q
  cases d with
  | bl k =>
    cases q1
    refine ⟨k, rfl, ?_⟩
    cases k with
    | false => exact ⟨ρ, st1, μ1, r1, s1, a1⟩
    | true => exact a1.now s1 (.bl true)
  | _ => exact a1.elim
theorem se_not (ha : SE X T E a ma) : SE X T E (.UnaryOp .Not a pos) (mNot ma) := by
  refine PE.imp (pe_not ha) fun σ H Q h => ?_
  refine tG_mono (tG_bind (Rl := fun μ H => DV (gx X T) μ H) (k := fun ρ (d : D) st1 => match d with
    | .bl b => Res.ok (D.bl (!b)) st1
    | _ => .bad) h) fun x H1 q => ?_
  obtain ⟨d, ρ, st1, μ1, r1, s1, q1, a1⟩ := q
  cases d with
  | bl k =>
    cases q1
    exact ⟨k, rfl, a1.now s1 (.bl _)⟩
  | _ => exact a1.elim
def mIf (t : TM) (m k : EM) : EM := fun ρ st => (t ρ st).bind fun b st1 => if b = true then m ρ st1 else k ρ st1
theorem se_if (hc : ST X T E c tmc) (ha : SE X T E a ma) (hb : SE X T E b mb) : SE X T E (.IfExp c a b pos) (mIf tmc ma mb) := by
  refine PE.imp (pe_ifExp hc ha hb) fun σ H Q h => ?_
  refine tG_mono (tG_bind (Rl := RB) (k := fun ρ b st1 => if b = true then ma ρ st1 else mb ρ st1) h) fun x H1 q => ?_
  obtain ⟨d, ρ, st1, μ1, r1, s1, q1, a1⟩ := q
  cases q1
  cases x with
  | true => exact ⟨ρ, st1, μ1, r1, s1, a1⟩
  | false => exact ⟨ρ, st1, μ1, r1, s1, a1⟩
/-- -n -/
def mUn (f : D → Store → Res D) (m : EM) : EM := fun ρ st => (m ρ st).bind f
def opNeg : D → Store → Res D := fun d st => match d with
  | .int i => .ok (.int (-i)) st
  | _ => .bad
theorem se_neg (ha : SE X T E a ma) : SE X T E (.UnaryOp .USub a pos) (mUn opNeg ma) := by
  refine PE.imp (pe_un un_neg ha) fun σ H Q h => ?_
  refine tG_mono (tG_bind (Rl := fun μ H => DV (gx X T) μ H) (k := fun ρ d st1 => opNeg d st1) h) fun x H1 q => ?_
  obtain ⟨d, ρ, st1, μ1, r1, s1, q1, a1⟩ := q
  cases d with
  | int i =>
    cases q1
    exact ⟨i, rfl, a1.now s1 (.int _)⟩
  | _ => exact a1.elim

/-! ### arguments -/
def aNil : AM := fun _ st => .ok [] st
def aCons (m : EM) (k : AM) : AM := fun ρ st => (m ρ st).bind fun d st1 => (k ρ st1).bind fun ds st2 => .ok (d :: ds) st2
theorem sa_nil : SA X T E [] aNil := by
  refine PA.imp pa_nil fun σ H Q h => ?_
  obtain ⟨ρ, st, μ, h1, h2, h3⟩ := h
  exact h3.now h2 .nil
theorem tA_cons {g : Gx} {ama : AM} {σ : L2.St} {H : Hp} {Q : List V → Hp → Prop} (h : tA g E (aCons ma ama) σ H Q) : tCons (tE g E ma) (tA g E ama) σ H Q := by
  refine tG_mono (tG_bind (Rl := fun μ H => DV g μ H) (k := fun ρ d st1 => (ama ρ st1).bind fun ds st2 => .ok (d :: ds) st2) h) fun x H1 q => ?_
  obtain ⟨d, ρ, st1, μ1, r1, s1, q1, a1⟩ := q
  refine ⟨ρ, st1, μ1, r1, s1, ?_⟩
  refine (AfterG.bind (Rl := fun μ H => DVs g μ H) a1).mono fun xs H2 q => ?_
  obtain ⟨ds, st2, μ2, e2, s2, q2, a2⟩ := q
  exact a2.now s2 (.cons (q1.ext e2) q2)
theorem sa_cons {ama : AM} (ha : SE X T E a ma) (hr : SA X T E es ama) (hs : starEach (a :: es) X.env = (false, eval a X.env) :: starEach es X.env := by rfl) : SA X T E (a :: es) (aCons ma ama) :=
  PA.imp (pa_cons ha hr hs) fun _ _ _ h => tA_cons h
end
end SL
set_option maxRecDepth 100000
set_option maxHeartbeats 2000000
/-! Layer S, statements, bodies, calls. -/
namespace SL
open PySem PySem.Spec PyProof.Rows L2

inductive Fl where
  | nx | rt (d : D) | bk | ct
abbrev SM := Env → Store → Res (Fl × Env)
def AfterS (g : Gx) (μ : List Addr) (H : Hp) (Dn : Ends) (E : XK) (r : Res (Fl × Env)) : Prop := match r with
  | .ok (.nx, ρ) st => ∀ σ μ' H', Ext μ H μ' H' → Sto g μ' H' st → EnvR g μ' H' σ ρ → Dn.nx σ H'
  | .ok (.rt d, _) st => ∀ v μ' H', Ext μ H μ' H' → Sto g μ' H' st → DV g μ' H' v d → Dn.rt v H'
  | .ok (.bk, ρ) st => ∀ σ μ' H', Ext μ H μ' H' → Sto g μ' H' st → EnvR g μ' H' σ ρ → Dn.bk σ H'
  | .ok (.ct, ρ) st => ∀ σ μ' H', Ext μ H μ' H' → Sto g μ' H' st → EnvR g μ' H' σ ρ → Dn.ct σ H'
  | .exn c fs st => ∀ cls dd μ' H', Ext μ H μ' H' → Sto g μ' H' st → Exn g μ' H' c fs cls dd → E cls dd H'
  | .bad => False
theorem AfterS.ext {g : Gx} {μ μ' : List Addr} {H H' : Hp} {Dn : Ends} {E : XK} {r : Res (Fl × Env)} (e : Ext μ H μ' H') (h : AfterS g μ H Dn E r) : AfterS g μ' H' Dn E r := by
  cases r with
  | ok p st =>
    obtain ⟨f, ρ⟩ := p
    cases f with
    | nx => exact fun v μ2 H2 e2 => h v μ2 H2 (e.trans e2)
    | rt d => exact fun v μ2 H2 e2 => h v μ2 H2 (e.trans e2)
    | bk => exact fun v μ2 H2 e2 => h v μ2 H2 (e.trans e2)
    | ct => exact fun v μ2 H2 e2 => h v μ2 H2 (e.trans e2)
  | exn c fs st => exact fun cls dd μ2 H2 e2 => h cls dd μ2 H2 (e.trans e2)
  | bad => exact h
/-- an expression (or a test), then a statement's end -/
theorem AfterG.bindS {α β : Type} {Rl : List Addr → Hp → β → α → Prop} {g : Gx} {μ : List Addr} {H : Hp} {E : XK} {Dn : Ends} {r : Res α} {f : α → Store → Res (Fl × Env)} (h : AfterS g μ H Dn E (r.bind f)) :
    AfterG Rl g μ H (fun v H1 => ∃ d st1 μ1, Ext μ H μ1 H1 ∧ Sto g μ1 H1 st1 ∧ Rl μ1 H1 v d ∧ AfterS g μ1 H1 Dn E (f d st1)) E r := by
  cases r with
  | ok d st => exact fun v μ1 H1 e s q => ⟨d, st, μ1, e, s, q, AfterS.ext e h⟩
  | exn c fs st => exact h
  | bad => exact h
def tS (g : Gx) (E : XK) (m : SM) : TS := fun Dn σ H => ∃ ρ st μ, EnvR g μ H σ ρ ∧ Sto g μ H st ∧ AfterS g μ H Dn E (m ρ st)
def SS (X : Cx) (T : Tab) (E : XK) (s : Stmt) (m : SM) : Prop := PS X s (tS (gx X T) E m)
def SSs (X : Cx) (T : Tab) (E : XK) (s : List Stmt) (m : SM) : Prop := PSs X s (tS (gx X T) E m)
theorem tG_bindS {α β : Type} {Rl : List Addr → Hp → β → α → Prop} {g : Gx} {E : XK} {m : Env → Store → Res α} {k : Env → α → Store → Res (Fl × Env)} {σ : L2.St} {H : Hp} {Dn : Ends}
    (h : tS g E (fun ρ st => (m ρ st).bind (k ρ)) Dn σ H) :
    tG Rl g E m σ H (fun v H1 => ∃ d ρ st1 μ1, EnvR g μ1 H1 σ ρ ∧ Sto g μ1 H1 st1 ∧ Rl μ1 H1 v d ∧ AfterS g μ1 H1 Dn E (k ρ d st1)) := by
  obtain ⟨ρ, st, μ, h1, h2, h3⟩ := h
  refine ⟨ρ, st, μ, h1, h2, ?_⟩
  refine (AfterG.bindS (Rl := Rl) h3).mono fun v H1 q => ?_
  obtain ⟨d, st1, μ1, e1, s1, r1, q1⟩ := q
  exact ⟨d, ρ, st1, μ1, h1.ext e1, s1, r1, q1⟩
section
variable {X : Cx} {T : Tab} {E : XK} {s : Stmt} {rest sa sb : List Stmt} {e c : Expr} {m k ma mb : SM} {me : EM} {mt : TM} {pos : Pos}
theorem PS.imp {t u : TS} (h : PS X s t) (k : ∀ D σ H, u D σ H → t D σ H) : PS X s u := ⟨fun pins s σ H D I q => h.run pins s σ H D I (k D σ H q)⟩
theorem PSs.imp {t u : TS} (h : PSs X rest t) (k : ∀ D σ H, u D σ H → t D σ H) : PSs X rest u := ⟨fun pins s σ H D I q => h.run pins s σ H D I (k D σ H q)⟩
def sNil : SM := fun ρ st => .ok (.nx, ρ) st
def sSeq (m k : SM) : SM := fun ρ st => (m ρ st).bind fun r st1 => match r with
  | (.nx, ρ1) => k ρ1 st1
  | (.rt d, ρ1) => .ok (.rt d, ρ1) st1
  | (.bk, ρ1) => .ok (.bk, ρ1) st1
  | (.ct, ρ1) => .ok (.ct, ρ1) st1
theorem AfterS.seq {g : Gx} {μ : List Addr} {H : Hp} {Dn : Ends} {r : Res (Fl × Env)} {k : SM} (h : AfterS g μ H Dn E (r.bind fun r st1 => match r with
    | (.nx, ρ1) => k ρ1 st1
    | (.rt d, ρ1) => .ok (.rt d, ρ1) st1
    | (.bk, ρ1) => .ok (.bk, ρ1) st1
    | (.ct, ρ1) => .ok (.ct, ρ1) st1)) : AfterS g μ H { Dn with nx := tS g E k Dn } E r := by
  cases r with
  | ok p st =>
    obtain ⟨f, ρ⟩ := p
    cases f with
    | nx => exact fun σ μ2 H2 e s r => ⟨ρ, st, μ2, r, s, AfterS.ext e h⟩
    | rt d => exact h
    | bk => exact h
    | ct => exact h
  | exn c fs st => exact h
  | bad => exact h
theorem ss_nil : SSs X T E [] sNil := by
  refine PSs.imp pss_nil fun D σ H h => ?_
  obtain ⟨ρ, st, μ, h1, h2, h3⟩ := h
  exact h3 σ μ H .refl h2 h1
theorem ss_cons (h1 : SS X T E s m) (h2 : SSs X T E rest k) : SSs X T E (s :: rest) (sSeq m k) := by
  refine PSs.imp (pss_cons h1 h2) fun D σ H h => ?_
  obtain ⟨ρ, st, μ, r1, r2, r3⟩ := h
  exact ⟨ρ, st, μ, r1, r2, AfterS.seq r3⟩
theorem ss_one (h1 : SS X T E s m) : SSs X T E [s] m := pss_one h1
theorem ss_pass : SS X T E (.Pass pos) sNil := by
  refine PS.imp ps_pass fun D σ H h => ?_
  obtain ⟨ρ, st, μ, h1, h2, h3⟩ := h
  exact h3 σ μ H .refl h2 h1
def sBreak : SM := fun ρ st => .ok (.bk, ρ) st
def sCont : SM := fun ρ st => .ok (.ct, ρ) st
theorem ss_break : SS X T E (.Break pos) sBreak := by
  refine PS.imp ps_break fun D σ H h => ?_
  obtain ⟨ρ, st, μ, h1, h2, h3⟩ := h
  exact h3 σ μ H .refl h2 h1
theorem ss_cont : SS X T E (.Continue pos) sCont := by
  refine PS.imp ps_continue fun D σ H h => ?_
  obtain ⟨ρ, st, μ, h1, h2, h3⟩ := h
  exact h3 σ μ H .refl h2 h1
def sExpr (me : EM) : SM := fun ρ st => (me ρ st).bind fun _ st1 => .ok (.nx, ρ) st1
theorem ss_expr (he : SE X T E e me) (hs : swapsWith e none pos.line X.env = pure false := by rfl) : SS X T E (.Expr e pos) (sExpr me) := by
  refine PS.imp (ps_expr he hs) fun D σ H h => ?_
  refine tG_mono (tG_bindS (Rl := fun μ H => DV (gx X T) μ H) (k := fun ρ _ st1 => .ok (.nx, ρ) st1) h) fun x H1 q => ?_
  obtain ⟨d, ρ, st1, μ1, r1, s1, q1, a1⟩ := q
  exact a1 σ μ1 H1 .refl s1 r1
def sRet (me : EM) : SM := fun ρ st => (me ρ st).bind fun d st1 => .ok (.rt d, ρ) st1
theorem ss_ret (he : SE X T E e me) : SS X T E (.Return (some e) pos) (sRet me) := by
  refine PS.imp (ps_ret he) fun D σ H h => ?_
  refine tG_mono (tG_bindS (Rl := fun μ H => DV (gx X T) μ H) (k := fun ρ d st1 => .ok (.rt d, ρ) st1) h) fun x H1 q => ?_
  obtain ⟨d, ρ, st1, μ1, r1, s1, q1, a1⟩ := q
  exact a1 x μ1 H1 .refl s1 q1
def sIf (t : TM) (ma mb : SM) : SM := fun ρ st => (t ρ st).bind fun b st1 => if b = true then ma ρ st1 else mb ρ st1
theorem ss_if (hc : ST X T E c mt) (ha : SSs X T E sa ma) (hb : SSs X T E sb mb) : SS X T E (.If c sa sb pos) (sIf mt ma mb) := by
  refine PS.imp (ps_if hc ha hb) fun D σ H h => ?_
  refine tG_mono (tG_bindS (Rl := RB) (k := fun ρ b st1 => if b = true then ma ρ st1 else mb ρ st1) h) fun x H1 q => ?_
  obtain ⟨d, ρ, st1, μ1, r1, s1, q1, a1⟩ := q
  cases q1
  cases x with
  | true => exact ⟨ρ, st1, μ1, r1, s1, a1⟩
  | false => exact ⟨ρ, st1, μ1, r1, s1, a1⟩

/-! ### targets -/
abbrev GM := D → Env → Store → Res Env
abbrev GMs := List D → Env → Store → Res Env
def AfterE (g : Gx) (μ : List Addr) (H : Hp) (Q : L2.St → Hp → Prop) (E : XK) (r : Res Env) : Prop := AfterG (fun μ H (σ : L2.St) (ρ : Env) => EnvR g μ H σ ρ) g μ H Q E r
def tGt (g : Gx) (E : XK) (m : GM) : TG := fun v σ H Q => ∃ d ρ st μ, DV g μ H v d ∧ EnvR g μ H σ ρ ∧ Sto g μ H st ∧ AfterE g μ H Q E (m d ρ st)
def tGts (g : Gx) (E : XK) (m : GMs) : TGs := fun vs σ H Q => ∃ ds ρ st μ, DVs g μ H vs ds ∧ EnvR g μ H σ ρ ∧ Sto g μ H st ∧ AfterE g μ H Q E (m ds ρ st)
def SG (X : Cx) (T : Tab) (E : XK) (t : Expr) (m : GM) : Prop := PG X t (tGt (gx X T) E m)
def SGs (X : Cx) (T : Tab) (E : XK) (ts : List Expr) (m : GMs) : Prop := PGs X ts (tGts (gx X T) E m)
theorem PG.imp {t u : TG} (h : PG X e t) (k : ∀ v σ H Q, u v σ H Q → t v σ H Q) : PG X e u := ⟨fun pins s σ H v uu Q I r q => h.run pins s σ H v uu Q I r (k v σ H Q q)⟩
theorem PGs.imp {es : List Expr} {t u : TGs} (h : PGs X es t) (k : ∀ v σ H Q, u v σ H Q → t v σ H Q) : PGs X es u := ⟨fun pins s σ H v uu Q I r q => h.run pins s σ H v uu Q I r (k v σ H Q q)⟩
def gmName (i : Nat) : GM := fun d ρ st => .ok (ρ.set i (some d)) st
theorem sg_name (i : Nat) {x : Str} (hN : X.N.Nodup) (hi : X.N[i]? = some x := by rfl) (hx : Loc X.env.scope x := by first | exact Or.inl rfl | exact Or.inr rfl) (hf : X.fn x = true ∨ X.env.scope.names.lookup x = some .local := by first | exact .inl rfl | exact .inr rfl | assumption) :
    SG X T E (.Name x pos) (gmName i) := by
  refine PG.imp (pg_name hN hi hx hf) fun v σ H Q h => ?_
  obtain ⟨d, ρ, st, μ, r, r1, s1, a⟩ := h
  exact a (σ.set i (some v)) μ H .refl s1 (r1.set r i)
def gmsNil : GMs := fun ds ρ st => match ds with
  | [] => .ok ρ st
  | _ => .bad
def gmsCons (m : GM) (k : GMs) : GMs := fun ds ρ st => match ds with
  | d :: ds => (m d ρ st).bind fun ρ1 st1 => k ds ρ1 st1
  | [] => .bad
theorem sgs_nil : SGs X T E [] gmsNil := by
  refine PGs.imp pgs_nil fun vs σ H Q h => ?_
  obtain ⟨ds, ρ, st, μ, r, r1, s1, a⟩ := h
  cases r with
  | nil => exact ⟨rfl, a.now s1 r1⟩
  | cons _ _ => exact a.elim
theorem sgs_cons {t : Expr} {ts : List Expr} {m : GM} {k : GMs} (h1 : SG X T E t m) (h2 : SGs X T E ts k) (hs : (assignEach (t :: ts) X.env).map (·.2) = assign t X.env :: (assignEach ts X.env).map (·.2) := by rfl) :
    SGs X T E (t :: ts) (gmsCons m k) := by
  refine PGs.imp (pgs_cons h1 h2 hs) fun vs σ H Q h => ?_
  obtain ⟨ds, ρ, st, μ, r, r1, s1, a⟩ := h
  cases r with
  | nil => exact a.elim
  | cons q1 q2 =>
    rename_i v d vs ds
    refine ⟨v, vs, rfl, d, ρ, st, μ, q1, r1, s1, ?_⟩
    refine (AfterG.bind (Rl := fun μ H (σ : L2.St) (ρ : Env) => EnvR (gx X T) μ H σ ρ) a).mono fun σ2 H2 q => ?_
    obtain ⟨ρ2, st2, μ2, e2, s2, r2, a2⟩ := q
    exact ⟨ds, ρ2, st2, μ2, DVs.ext e2 q2, r2, s2, a2⟩
theorem DVs.length {g : Gx} {μ : List Addr} {H : Hp} : ∀ {ds : List D} {vs : List V}, DVs g μ H vs ds → vs.length = ds.length
  | [], _, h => by cases h; rfl
  | _ :: _, _, h => by cases h with | cons _ h2 => simp [DVs.length h2]
/-- (a, b, ..) = a tuple of that length -/
def gmTup (n : Nat) (k : GMs) : GM := fun d ρ st => match d with
  | .tup ds => if ds.length = n then k ds ρ st else .bad
  | _ => .bad
theorem sg_tup {ts : List Expr} {j : Nat} {k : GMs} (n : Nat) (hc : X.calm = true) (h : SGs X T E ts k) (hn : (assignEach ts X.env).length = n := by rfl) (hst : (assignEach ts X.env).findIdx? (·.1) = none := by rfl) :
    SG X T E (.Tuple ts j pos) (gmTup n k) := by
  refine PG.imp (pg_tup hc h hn hst) fun v σ H Q h => ?_
  obtain ⟨d, ρ, st, μ, r, r1, s1, a⟩ := h
  cases r with
  | tup h1 h2 =>
    rename_i b vs ds
    by_cases hl : ds.length = n
    · have a' : AfterE (gx X T) μ H Q E (k ds ρ st) := by
        have q := a
        simp only [gmTup, if_pos hl] at q
        exact q
      exact ⟨b, vs, rfl, h1.sq, h2.length.trans hl, ds, ρ, st, μ, h2, r1, s1, a'⟩
    · simp only [gmTup, if_neg hl] at a
      exact a.elim
  | _ => exact a.elim
def sAsg (me : EM) (m : GM) : SM := fun ρ st => (me ρ st).bind fun d st1 => (m d ρ st1).bind fun ρ2 st2 => .ok (.nx, ρ2) st2
theorem tS_asg {g : Gx} {m : GM} {D : Ends} {σ : L2.St} {H : Hp} (h : tS g E (sAsg me m) D σ H) : tAsg (tE g E me) (tGt g E m) D σ H := by
  refine tG_mono (tG_bindS (Rl := fun μ H => DV g μ H) (k := fun ρ d st1 => (m d ρ st1).bind fun ρ2 st2 => .ok (.nx, ρ2) st2) h) fun x H1 q => ?_
  obtain ⟨d, ρ, st1, μ1, r1, s1, q1, a1⟩ := q
  refine ⟨d, ρ, st1, μ1, q1, r1, s1, ?_⟩
  refine (AfterG.bindS (Rl := fun μ H (σ : L2.St) (ρ : Env) => EnvR g μ H σ ρ) a1).mono fun σ2 H2 q => ?_
  obtain ⟨ρ2, st2, μ2, e2, s2, r2, a2⟩ := q
  exact a2 σ2 μ2 H2 .refl s2 r2
theorem ss_asg {tg : Expr} {m : GM} (he : SE X T E e me) (hg : SG X T E tg m) (hs : swapsWithSole [tg] e pos.line X.env = pure false := by rfl) (hw : swappedStores [tg] e X.env = pure none := by rfl)
    (h1 : (assignEach [tg] X.env).map (·.2) = [assign tg X.env] := by rfl) : SS X T E (.Assign [tg] e pos) (sAsg me m) := PS.imp (ps_asg he hg hs hw h1) fun _ _ _ h => tS_asg h
end
end SL
set_option maxRecDepth 100000
set_option maxHeartbeats 2000000
/-! Layer S, a def: its store's scope, its promise, its call. -/
namespace SL
open PySem PySem.Spec PyProof.Rows L2

mutual
/-- a value with the refs that rf gives -/
def fzD (rf : Nat → Option D) : D → Option D
  | .non => some .non
  | .bl b => some (.bl b)
  | .int i => some (.int i)
  | .str x => some (.str x)
  | .tup xs => (fzL rf xs).map .tup
  | .lst xs => (fzL rf xs).map .lst
  | .dic t kvs => (fzK rf kvs).map (.dic t)
  | .obj c xs => (fzL rf xs).map (.obj c)
  | .exc c xs => (fzL rf xs).map (.exc c)
  | .fn x => some (.fn x)
  | .ref i => rf i
def fzL (rf : Nat → Option D) : List D → Option (List D)
  | [] => some []
  | d :: ds => match fzD rf d, fzL rf ds with
    | some a, some b => some (a :: b)
    | _, _ => none
def fzK (rf : Nat → Option D) : List (D × D) → Option (List (D × D))
  | [] => some []
  | (k, v) :: ds => match fzD rf v, fzK rf ds with
    | some a, some b => some ((k, a) :: b)
    | _, _ => none
end
/-- what the ref i is behind a def that began with n things in the store -/
def rfK (st : Store) (n : Nat) : Nat → Nat → Option D
  | 0, i => if i < n then some (.ref i) else none
  | k + 1, i => if i < n then some (.ref i) else match st[i]? with
    | some (.lst ds) => (fzL (rfK st n k) ds).map .lst
    | some (.dic t kvs) => (fzK (rfK st n k) kvs).map (.dic t)
    | some (.ins c fs) => (fzL (rfK st n k) fs).map (.obj c)
    | none => none
def fzM (rf : Nat → Option D) : MO → Option MO
  | .lst ds => (fzL rf ds).map .lst
  | .dic t kvs => (fzK rf kvs).map (.dic t)
  | .ins c fs => (fzL rf fs).map (.ins c)
def fzS (rf : Nat → Option D) : Store → Option Store
  | [] => some []
  | o :: st => match fzM rf o, fzS rf st with
    | some a, some b => some (a :: b)
    | _, _ => none
/-- leave a def that began with n things in the store -/
def closeR (n : Nat) (r : Res D) : Res D := match r with
  | .ok d st => match fzD (rfK st n 6) d, fzS (rfK st n 6) (st.take n) with
    | some d', some st' => .ok d' st'
    | _, _ => .bad
  | .exn c fs st => match fzL (rfK st n 6) fs, fzS (rfK st n 6) (st.take n) with
    | some fs', some st' => .exn c fs' st'
    | _, _ => .bad
  | .bad => .bad

section
variable {g : Gx} {μ μ' : List Addr} {H : Hp} {n : Nat} {rf : Nat → Option D} {st : Store}
theorem not_take {a : Addr} (h : a ∉ μ) : a ∉ μ.take n := fun q => h (List.mem_of_mem_take q)
theorem TupAt.take {a : Addr} {vs : List V} (h : TupAt g μ H a vs) : TupAt g (μ.take n) H a vs := by
  rcases h with ⟨h, q⟩ | h
  · exact .inl ⟨h, not_take q⟩
  · exact .inr h
mutual
/-- a key holds no ref -/
theorem DV.key : ∀ {d : D} {v : V} {k : NestedKey}, keyOf d = some k → DV g μ H v d → DV g (μ.take n) H v d
  | .non, _, _, _, h => by cases h; exact .non
  | .bl _, _, _, _, h => by cases h; exact .bl _
  | .int _, _, _, _, h => by cases h; exact .int _
  | .str _, _, _, _, h => by cases h; exact .str _
  | .tup ds, _, k, e, h => by
    cases h with
    | tup h1 h2 =>
      cases q : keyOfL ds with
      | none => simp [keyOf, q] at e
      | some ks => exact .tup h1.take (DVs.key q h2)
  | .lst _, _, _, e, _ => by simp [keyOf] at e
  | .dic _ _, _, _, e, _ => by simp [keyOf] at e
  | .obj _ _, _, _, e, _ => by simp [keyOf] at e
  | .exc _ _, _, _, e, _ => by simp [keyOf] at e
  | .fn _, _, _, e, _ => by simp [keyOf] at e
  | .ref _, _, _, e, _ => by simp [keyOf] at e
theorem DVs.key : ∀ {ds : List D} {vs : List V} {ks : List NestedKey}, keyOfL ds = some ks → DVs g μ H vs ds → DVs g (μ.take n) H vs ds
  | [], _, _, _, h => by cases h; exact .nil
  | d :: ds, _, ks, e, h => by
    cases h with
    | cons h1 h2 =>
      cases q : keyOf d with
      | none => simp [keyOfL, q] at e
      | some k =>
        cases q2 : keyOfL ds with
        | none => simp [keyOfL, q, q2] at e
        | some k2 => exact .cons (DV.key q h1) (DVs.key q2 h2)
end
theorem keys_fzK : ∀ {kvs kvs' : List (D × D)}, fzK rf kvs = some kvs' → kvs'.map (·.1) = kvs.map (·.1)
  | [], _, e => by simp [fzK] at e; subst e; rfl
  | (k, v) :: kvs, kvs', e => by
    cases q : fzD rf v with
    | none => simp [fzK, q] at e
    | some a =>
      cases q2 : fzK rf kvs with
      | none => simp [fzK, q, q2] at e
      | some b =>
        simp [fzK, q, q2] at e
        subst e
        simp [keys_fzK q2]
theorem all_keys {P : D → Prop} {kvs kvs' : List (D × D)} (e : kvs'.map (·.1) = kvs.map (·.1)) (h : ∀ p ∈ kvs, P p.1) : ∀ p ∈ kvs', P p.1 := fun p hp => by
  have h1 : p.1 ∈ kvs'.map (·.1) := List.mem_map_of_mem hp
  rw [e] at h1
  obtain ⟨q, hq, e2⟩ := List.mem_map.mp h1
  rw [← e2]; exact h q hq
theorem len_fzL : ∀ {ds ds' : List D}, fzL rf ds = some ds' → ds'.length = ds.length
  | [], _, e => by simp [fzL] at e; subst e; rfl
  | d :: ds, ds', e => by
    cases q : fzD rf d with
    | none => simp [fzL, q] at e
    | some a =>
      cases q2 : fzL rf ds with
      | none => simp [fzL, q, q2] at e
      | some b =>
        simp [fzL, q, q2] at e
        subst e
        simp [len_fzL q2]
def RfOk (g : Gx) (μ : List Addr) (H : Hp) (n : Nat) (rf : Nat → Option D) : Prop := ∀ (i : Nat) (d : D) (a : Addr), rf i = some d → μ[i]? = some a → DV g (μ.take n) H (.ref a) d
mutual
theorem fzD_ok (hr : RfOk g μ H n rf) : ∀ {d d' : D} {v : V}, fzD rf d = some d' → DV g μ H v d → DV g (μ.take n) H v d'
  | .non, _, _, e, h => by simp [fzD] at e; subst e; cases h; exact .non
  | .bl _, _, _, e, h => by simp [fzD] at e; subst e; cases h; exact .bl _
  | .int _, _, _, e, h => by simp [fzD] at e; subst e; cases h; exact .int _
  | .str _, _, _, e, h => by simp [fzD] at e; subst e; cases h; exact .str _
  | .tup ds, d', _, e, h => by
    cases q : fzL rf ds with
    | none => simp [fzD, q] at e
    | some ds' =>
      simp [fzD, q] at e; subst e
      cases h with | tup h1 h2 => exact .tup h1.take (fzL_ok hr q h2)
  | .lst ds, d', _, e, h => by
    cases q : fzL rf ds with
    | none => simp [fzD, q] at e
    | some ds' =>
      simp [fzD, q] at e; subst e
      cases h with | lst h1 h3 h2 => exact .lst h1 (not_take h3) (fzL_ok hr q h2)
  | .dic t kvs, d', _, e, h => by
    cases q : fzK rf kvs with
    | none => simp [fzD, q] at e
    | some ds' =>
      simp [fzD, q] at e; subst e
      cases h with | dic h1 n1 h2 h3 h4 h5 => exact .dic h1 (not_take n1) h2 h3 h4 (fzK_ok hr q h5)
  | .obj c ds, d', _, e, h => by
    cases q : fzL rf ds with
    | none => simp [fzD, q] at e
    | some ds' =>
      simp [fzD, q] at e; subst e
      cases h with | obj h1 n1 h2 h3 => exact .obj h1 (not_take n1) (by rw [len_fzL q]; exact h2) (fzL_ok hr q h3)
  | .exc c ds, d', _, e, h => by
    cases q : fzL rf ds with
    | none => simp [fzD, q] at e
    | some ds' =>
      simp [fzD, q] at e; subst e
      cases h with
      | exc0 h1 n1 => simp [fzL] at q; subst q; exact .exc0 h1 (not_take n1)
      | exc h1 n1 h2 n2 h3 h4 => exact .exc h1 (not_take n1) h2 (not_take n2) h3 (fzL_ok hr q h4)
  | .fn _, _, _, e, h => by simp [fzD] at e; subst e; cases h; exact .fn _
  | .ref i, d', _, e, h => by
    cases h with | ref h1 => exact hr i d' _ (by simpa [fzD] using e) h1
theorem fzL_ok (hr : RfOk g μ H n rf) : ∀ {ds ds' : List D} {vs : List V}, fzL rf ds = some ds' → DVs g μ H vs ds → DVs g (μ.take n) H vs ds'
  | [], _, _, e, h => by simp [fzL] at e; subst e; cases h; exact .nil
  | d :: ds, ds', _, e, h => by
    cases q : fzD rf d with
    | none => simp [fzL, q] at e
    | some a =>
      cases q2 : fzL rf ds with
      | none => simp [fzL, q, q2] at e
      | some b =>
        simp [fzL, q, q2] at e
        subst e
        cases h with | cons h1 h2 => exact .cons (fzD_ok hr q h1) (fzL_ok hr q2 h2)
theorem fzK_ok (hr : RfOk g μ H n rf) : ∀ {kvs kvs' : List (D × D)} {t : Bool} {es : List DictEntry}, fzK rf kvs = some kvs' → Ents g μ H t es kvs → Ents g (μ.take n) H t es kvs'
  | [], _, _, _, e, h => by simp [fzK] at e; subst e; cases h; exact .nil
  | (k, v) :: kvs, kvs', _, _, e, h => by
    cases q : fzD rf v with
    | none => simp [fzK, q] at e
    | some a =>
      cases q2 : fzK rf kvs with
      | none => simp [fzK, q, q2] at e
      | some b =>
        simp [fzK, q, q2] at e
        subst e
        cases h with
        | cons h1 h2 h3 h4 h5 h6 h7 h8 h9 h10 h11 =>
          have ek := keys_fzK q2
          have el : b.length = kvs.length := by simpa using congrArg List.length ek
          exact .cons h1 (DV.key h4 h2) h3 h4 h5 h6 h7 (fzD_ok hr q h8) (all_keys (P := fun d => keyOf d ≠ some _) ek h9) (by rw [el]; exact h10) (fzK_ok hr q2 h11)
end
theorem rfK_ok (S : Sto g μ H st) : ∀ k, RfOk g μ H n (rfK st n k)
  | 0 => fun i d a e h => by
    by_cases c : i < n
    · simp [rfK, c] at e; subst e
      exact .ref (by rw [List.getElem?_take_of_lt c]; exact h)
    · simp [rfK, c] at e
  | k + 1 => fun i d a e h => by
    by_cases c : i < n
    · simp [rfK, c] at e; subst e
      exact .ref (by rw [List.getElem?_take_of_lt c]; exact h)
    · have na : a ∉ μ.take n := fun q => by
        obtain ⟨j, hj, e1⟩ := List.getElem_of_mem q
        have hj2 : j < n := by simp at hj; omega
        have e2 : μ[j]? = some a := by
          rw [← e1, List.getElem_take]
          exact List.getElem?_eq_getElem (by simp at hj; omega)
        have hi : i < μ.length := (List.getElem?_eq_some_iff.mp h).1
        have : i = j := (List.getElem?_inj hi S.nod).mp (h.trans e2.symm)
        omega
      cases q : st[i]? with
      | none => simp [rfK, c, q] at e
      | some o =>
        obtain ⟨a', e1, m⟩ := S.at_ i o q
        rw [h] at e1; cases e1
        cases o with
        | lst ds =>
          cases q2 : fzL (rfK st n k) ds with
          | none => simp [rfK, c, q, q2] at e
          | some ds' =>
            simp [rfK, c, q, q2] at e; subst e
            cases m with | lst h1 h2 => exact .lst (.inl h1) na (fzL_ok (rfK_ok S k) q2 h2)
        | dic t kvs =>
          cases q2 : fzK (rfK st n k) kvs with
          | none => simp [rfK, c, q, q2] at e
          | some ds' =>
            simp [rfK, c, q, q2] at e; subst e
            cases m with | dic h1 h2 h3 h4 h5 => exact .dic h1 na h2 h3 h4 (fzK_ok (rfK_ok S k) q2 h5)
        | ins c1 fs =>
          cases q2 : fzL (rfK st n k) fs with
          | none => simp [rfK, c, q, q2] at e
          | some ds' =>
            simp [rfK, c, q, q2] at e; subst e
            cases m with | ins h1 h2 h3 => exact .obj h1 na (by rw [len_fzL q2]; exact h2) (fzL_ok (rfK_ok S k) q2 h3)
theorem fzM_ok (hr : RfOk g μ H n rf) {o o' : MO} {a : Addr} (e : fzM rf o = some o') (h : MOk g μ H a o) : MOk g (μ.take n) H a o' := by
  cases h with
  | lst h1 h2 =>
    rename_i vs ds
    cases q : fzL rf ds with
    | none => simp [fzM, q] at e
    | some ds' => simp [fzM, q] at e; subst e; exact .lst h1 (fzL_ok hr q h2)
  | dic h1 h2 h3 h4 h5 =>
    rename_i t o es ep kvs
    cases q : fzK rf kvs with
    | none => simp [fzM, q] at e
    | some ds' => simp [fzM, q] at e; subst e; exact .dic h1 h2 h3 h4 (fzK_ok hr q h5)
  | ins h1 h2 h3 =>
    rename_i c dx fvs fs
    cases q : fzL rf fs with
    | none => simp [fzM, q] at e
    | some ds' => simp [fzM, q] at e; subst e; exact .ins h1 (by rw [len_fzL q]; exact h2) (fzL_ok hr q h3)
theorem fzS_get : ∀ {st st' : Store} {i : Nat} {o' : MO}, fzS rf st = some st' → st'[i]? = some o' → ∃ o, st[i]? = some o ∧ fzM rf o = some o'
  | [], _, _, _, e, h => by simp [fzS] at e; subst e; simp at h
  | o :: st, st', i, o', e, h => by
    cases q : fzM rf o with
    | none => simp [fzS, q] at e
    | some a =>
      cases q2 : fzS rf st with
      | none => simp [fzS, q, q2] at e
      | some b =>
        simp [fzS, q, q2] at e
        subst e
        cases i with
        | zero => simp at h; subst h; exact ⟨o, by simp, q⟩
        | succ i => simp at h; simpa using fzS_get q2 h
theorem fzS_len : ∀ {st st' : Store}, fzS rf st = some st' → st'.length = st.length
  | [], _, e => by simp [fzS] at e; subst e; rfl
  | o :: st, st', e => by
    cases q : fzM rf o with
    | none => simp [fzS, q] at e
    | some a =>
      cases q2 : fzS rf st with
      | none => simp [fzS, q, q2] at e
      | some b =>
        simp [fzS, q, q2] at e
        subst e
        simp [fzS_len q2]
theorem Sto.close (S : Sto g μ H st) {st' : Store} {k : Nat} (hn : n ≤ st.length) (e : fzS (rfK st n k) (st.take n) = some st') : Sto g (μ.take n) H st' := by
  refine ⟨?_, S.nod.sublist (List.take_sublist n μ), fun i o' q => ?_, S.tabs⟩
  · rw [fzS_len e, List.length_take, List.length_take, S.len]
  · obtain ⟨o, h1, h2⟩ := fzS_get e q
    have hi : i < n := by
      have := (List.getElem?_eq_some_iff.mp h1).1
      simp at this; omega
    rw [List.getElem?_take_of_lt hi] at h1
    obtain ⟨a, e1, m⟩ := S.at_ i o h1
    exact ⟨a, by rw [List.getElem?_take_of_lt hi]; exact e1, fzM_ok (rfK_ok S k) h2 m⟩
end
/-- behind a def: what stood ahead of it -/
theorem Ext.cut {μ μ' : List Addr} {H H' : Hp} (e : Ext μ H μ' H') : μ'.take μ.length = μ ∧ Ext μ H μ H' := by
  obtain ⟨m, rfl, _⟩ := e.grow
  exact ⟨by simp, e.keep, e.there, [], by simp, by simp⟩
theorem AfterG.close {g : Gx} {μ : List Addr} {H : Hp} {st : Store} {Q : VK} {E : XK} {r : Res D} (S : Sto g μ H st) (h : After g μ H Q E (closeR st.length r)) : After g μ H Q E r := by
  cases r with
  | ok d st' =>
    intro v μ' H' e s q
    have hl : st.length = μ.length := S.len
    cases q1 : fzD (rfK st' st.length 6) d with
    | none => simp [closeR, q1] at h; exact h.elim
    | some d' =>
      cases q2 : fzS (rfK st' st.length 6) (st'.take st.length) with
      | none => simp [closeR, q1, q2] at h; exact h.elim
      | some st2 =>
        simp only [closeR, q1, q2] at h
        obtain ⟨e1, e2⟩ := e.cut
        have hle : st.length ≤ st'.length := by
          obtain ⟨m, e3, _⟩ := e.grow
          rw [s.len, e3, hl]; simp
        have s2 := s.close hle q2
        have d2 := fzD_ok (rfK_ok s 6) q1 q
        rw [hl] at s2 d2
        rw [e1] at s2 d2
        exact h v μ H' e2 s2 d2
  | exn c fs st' =>
    intro cls dd μ' H' e s q
    have hl : st.length = μ.length := S.len
    cases q1 : fzL (rfK st' st.length 6) fs with
    | none => simp [closeR, q1] at h; exact h.elim
    | some d' =>
      cases q2 : fzS (rfK st' st.length 6) (st'.take st.length) with
      | none => simp [closeR, q1, q2] at h; exact h.elim
      | some st2 =>
        simp only [closeR, q1, q2] at h
        obtain ⟨e1, e2⟩ := e.cut
        have hle : st.length ≤ st'.length := by
          obtain ⟨m, e3, _⟩ := e.grow
          rw [s.len, e3, hl]; simp
        have s2 := s.close hle q2
        refine h cls dd μ H' e2 (by rw [hl, e1] at s2; exact s2) ⟨q.1, ?_⟩
        rcases q.2 with ⟨z1, z2⟩ | ⟨b, fvs, z1, z2, z3, z4, z5⟩
        · subst z2
          simp [fzL] at q1
          exact .inl ⟨z1, q1⟩
        · have d2 := fzL_ok (rfK_ok s 6) q1 z5
          rw [hl] at d2
          rw [e1] at d2
          exact .inr ⟨b, fvs, z1, z2, fun z => z3 (by rw [← e1] at z; exact List.mem_of_mem_take z), z4, d2⟩
  | bad => exact h

/-! ### a def -/
/-- from a body to a function of values; N: how many slots -/
def endR (r : Res (Fl × Env)) : Res D := r.bind fun p st => match p with
  | (.rt d, _) => .ok d st
  | (.nx, _) => .ok .non st
  | (.bk, _) => .bad
  | (.ct, _) => .bad
def startE (N : Nat) (ds : List D) : Env := ds.map some ++ List.replicate (N - ds.length) none
/-- what the def's store keeps is let go behind it -/
def fnB (N : Nat) (m : SM) : List D → Store → Res D := fun ds st => closeR st.length (endR (m (startE N ds) st))
/-- the store is kept -/
def fnK (N : Nat) (m : SM) : List D → Store → Res D := fun ds st => endR (m (startE N ds) st)
def spF (g : Gx) (n : Nat) (F : List D → Store → Res D) : Sp := fun vs H Q E => ∃ ds st μ, Sto g μ H st ∧ DVs g μ H vs ds ∧ ds.length = n ∧ After g μ H Q E (F ds st)
theorem start_env {g : Gx} {μ : List Addr} {H : Hp} {vs : List V} {ds : List D} {N : List Str} (r : DVs g μ H vs ds) : EnvR g μ H (L2.start N vs) (startE N.length ds) := by
  have hl := r.length
  refine ⟨by simp [startE, L2.start, hl], fun i d q => ?_⟩
  have key : ∀ {ds : List D} {vs : List V}, DVs g μ H vs ds → ∀ (i : Nat) (d : D), ds[i]? = some d → ∃ v, vs[i]? = some v ∧ DV g μ H v d := by
    intro ds
    induction ds with
    | nil => intro vs h i d e; simp at e
    | cons x xs ih =>
      intro vs h i d e
      cases h with
      | cons h1 h2 =>
        cases i with
        | zero => simp at e; subst e; exact ⟨_, by simp, h1⟩
        | succ i => simpa using ih h2 i d (by simpa using e)
  unfold startE at q
  by_cases c : i < ds.length
  · rw [List.getElem?_append_left (by simpa using c)] at q
    rw [List.getElem?_map] at q
    cases e : ds[i]? with
    | none => rw [e] at q; simp at q
    | some x =>
      rw [e] at q
      simp at q
      subst q
      obtain ⟨v, h1, h2⟩ := key r i x e
      refine ⟨v, ?_, h2⟩
      unfold L2.start
      rw [List.getElem?_append_left (by simp; omega), List.getElem?_map, h1]
      rfl
  · rw [List.getElem?_append_right (by simp; omega)] at q
    simp [List.getElem?_replicate] at q
theorem AfterS.ofEnd {g : Gx} {μ : List Addr} {H : Hp} {Q : VK} {E : XK} {r : Res (Fl × Env)} (h : After g μ H Q E (endR r)) : AfterS g μ H { nx := fun _ H' => Q .non H', rt := Q } E r := by
  cases r with
  | ok p st =>
    obtain ⟨f, ρ⟩ := p
    cases f with
    | nx => exact fun σ μ2 H2 e s r => h .non μ2 H2 e s .non
    | rt d => exact h
    | bk => exact (show False from h).elim
    | ct => exact (show False from h).elim
  | exn c fs st => exact h
  | bad => exact h
section
variable {P : Program} {w : World} {K : PySem.W.Frag} {mg : Str → Option Value} {base : Heap} {x qual : Str} {params : Arguments} {body : List Stmt} {scope : Scope} {dvs : List V} {kws : List (Str × V)} {f : Addr} {fd : FuncData} {N ps : List Str} {k : Nat} {T : Tab} {m : SM}
/-- a body's context: nothing of it leaves but as E says -/
def TkE (X : Cx) (E : XK) : Prop := Takes X (fun c d _ H => E c d H)
theorem tkNo {X : Cx} : TkE X (fun _ _ _ => False) := fun _ _ x => by
  obtain ⟨_, _, _, _, _, _, _, _, _, _, _, _, _, _, _, _, z⟩ := x
  exact z.elim
theorem fn_okK (F : FunD K x qual params body scope dvs kws f fd) (S : FnScope N ps scope)
    (hb : ∀ (cdv : Value) (A : Around) (outer : List PySem.Env) (s : Shared) (H : Hp) (E : XK), Room k (A.deeper (envOfC qual scope s.heap.objs.size f cdv)) → TkE (cxOf (CX P w) P w K mg base N qual scope f cdv A outer s H E) E →
      SSs (cxOf (CX P w) P w K mg base N qual scope f cdv A outer s H E) T E body m) : FnOk P w K mg base (CX P w) (k + 1) f fd ps (spF ⟨K, w, T⟩ ps.length (fnK N.length m)) := by
  refine F.ok S (fun vs H Q E h => ?_) (fun cdv A outer s H vs Q E hr h => ⟨_, hb cdv A outer s H E hr (takes_of rfl rfl rfl rfl), ?_⟩)
  · obtain ⟨ds, st, μ, _, r, e, _⟩ := h
    rw [r.length, e]
  · obtain ⟨ds, st, μ, s1, r, e, a⟩ := h
    exact ⟨startE N.length ds, st, μ, start_env r, s1, AfterS.ofEnd a⟩
theorem spF_close {g : Gx} {n : Nat} {vs : List V} {H : Hp} {Q : VK} {E : XK} (h : spF g n (fnB N.length m) vs H Q E) : spF g n (fnK N.length m) vs H Q E := by
  obtain ⟨ds, st, μ, s1, r, e, a⟩ := h
  exact ⟨ds, st, μ, s1, r, e, AfterG.close s1 a⟩
theorem fn_ok (F : FunD K x qual params body scope dvs kws f fd) (S : FnScope N ps scope)
    (hb : ∀ (cdv : Value) (A : Around) (outer : List PySem.Env) (s : Shared) (H : Hp) (E : XK), Room k (A.deeper (envOfC qual scope s.heap.objs.size f cdv)) → TkE (cxOf (CX P w) P w K mg base N qual scope f cdv A outer s H E) E →
      SSs (cxOf (CX P w) P w K mg base N qual scope f cdv A outer s H E) T E body m) : FnOk P w K mg base (CX P w) (k + 1) f fd ps (spF ⟨K, w, T⟩ ps.length (fnB N.length m)) :=
  (fn_okK F S hb).imp fun _ _ _ _ h => spF_close h
end
/-! ### calls -/
section
variable {X : Cx} {T : Tab} {E : XK} {e : Expr} {es : List Expr} {p pos : Pos} {x : Str} {f : Addr} {fd : FuncData} {ps : List Str} {k n : Nat} {F : List D → Store → Res D} {ma : AM} {ds : List Value} {dvs : List V} {dds : List D}
def mCall (F : List D → Store → Res D) (dds : List D) (ma : AM) : EM := fun ρ st => (ma ρ st).bind fun ds st1 => F (ds ++ dds) st1
theorem DVs.append {g : Gx} {μ : List Addr} {H : Hp} : ∀ {ds es : List D} {vs us : List V}, DVs g μ H vs ds → DVs g μ H us es → DVs g μ H (vs ++ us) (ds ++ es)
  | [], _, _, _, h, h2 => by cases h; exact h2
  | _ :: _, _, _, _, h, h2 => by cases h with | cons a b => exact .cons a (DVs.append b h2)
theorem tE_call {g : Gx} (hd : ∀ μ H, DVs g μ H dvs dds) {σ : L2.St} {H : Hp} {Q : VK} (hn : ∀ ds st, ds.length ≠ n → F ds st = .bad) (h : tE g E (mCall F dds ma) σ H Q) : tCall (spF g n F) dvs E (tA g E ma) σ H Q := by
  refine tG_mono (tG_bind (Rl := fun μ H => DVs g μ H) (k := fun ρ ds st1 => F (ds ++ dds) st1) h) fun x H1 q => ?_
  obtain ⟨d, ρ, st1, μ1, r1, s1, q1, a1⟩ := q
  refine ⟨d ++ dds, st1, μ1, s1, q1.append (hd _ _), ?_, a1⟩
  by_cases c : (d ++ dds).length = n
  · exact c
  · rw [hn _ _ c] at a1; exact a1.elim
/-- the arguments' number is looked at -/
def arity (n : Nat) (F : List D → Store → Res D) : List D → Store → Res D := fun ds st => if ds.length = n then F ds st else .bad
theorem arity_bad {F : List D → Store → Res D} {ds : List D} {st : Store} (h : ds.length ≠ n) : arity n F ds st = .bad := if_neg h
theorem spF_arity {g : Gx} {vs : List V} {H : Hp} {Q : VK} {E : XK} (h : spF g n (arity n F) vs H Q E) : spF g n F vs H Q E := by
  obtain ⟨ds, st, μ, s1, r, e, a⟩ := h
  exact ⟨ds, st, μ, s1, r, e, by simpa only [arity, if_pos e] using a⟩
theorem tk_pass (tk : TkE X E) : Passes (CX X.prog X.w) X E := passes_call tk fun _ _ _ _ h => h
theorem se_call (Fn : FnOk X.prog X.w X.K X.mg X.base (CX X.prog X.w) k f fd ps (spF (gx X T) n F)) (hr : Room k X.A) (tk : TkE X E) (hm : X.mg x = some (.ref f)) (hk : PySem.W.keepIn X.K (.ref f) = true) (hb : Binds X.K fd ps ds) (hd : Vals dvs ds)
    (hdd : ∀ μ H, DVs (gx X T) μ H dvs dds) (ha : SA X T E (e :: es) ma) (hg : Gl X x := by rfl) (hdb : (x == ("__debug__" : Str)) = false := by decide) (he : starEach (e :: es) X.env = (false, eval e X.env) :: starEach es X.env := by rfl) (hpl : (backTo pos (starEach es X.env)).any (·.1) = false := by rfl) :
    SE X T E (.Call (.Name x p) (e :: es) [] pos) (mCall (arity n F) dds ma) :=
  PE.imp (pe_call (sp := spF (gx X T) n (arity n F)) (Fn.imp fun _ _ _ _ h => spF_arity h) hr hg hm hk hb hd (tk_pass tk) ha hdb he hpl) fun _ _ _ h => tE_call hdd (fun _ _ => arity_bad) h
theorem se_call0 (Fn : FnOk X.prog X.w X.K X.mg X.base (CX X.prog X.w) k f fd ps (spF (gx X T) n F)) (hr : Room k X.A) (tk : TkE X E) (hm : X.mg x = some (.ref f)) (hk : PySem.W.keepIn X.K (.ref f) = true) (hb : Binds X.K fd ps ds) (hd : Vals dvs ds)
    (hdd : ∀ μ H, DVs (gx X T) μ H dvs dds) (hg : Gl X x := by rfl) (hdb : (x == ("__debug__" : Str)) = false := by decide) :
    SE X T E (.Call (.Name x p) [] [] pos) (mCall (arity n F) dds aNil) :=
  PE.imp (pe_call0 (sp := spF (gx X T) n (arity n F)) (Fn.imp fun _ _ _ _ h => spF_arity h) hr hg hm hk hb hd (tk_pass tk) hdb) fun _ _ _ h => by
    have h1 := tE_call (ma := aNil) hdd (fun _ _ => arity_bad) h
    refine (show tCall _ dvs E tNil _ _ _ from ?_)
    obtain ⟨ρ, st, μ, r1, s1, a1⟩ := h1
    exact (AfterG.now a1 s1 .nil)
end
end SL
set_option maxRecDepth 100000
set_option maxHeartbeats 2000000
/-! Layer S, what is walked; for, while, list comprehensions. -/
namespace SL
open PySem PySem.Spec PyProof.Rows L2

def SameH (H H' : Hp) : Prop := ∀ a o, H a = some o → H' a = some o
theorem SameH.ext {H H' : Hp} (s : SameH H H') (μ : List Addr) : Ext μ H μ H' := ⟨fun a o h _ _ => s a o h, fun a o h t => ⟨o, s a o h, t⟩, [], by simp, by simp⟩
theorem MOk.ext {g : Gx} {μ : List Addr} {H H' : Hp} {a : Addr} {o : MO} (s : SameH H H') (m : MOk g μ H a o) : MOk g μ H' a o := by
  cases m with
  | lst h1 h2 => exact .lst (s _ _ h1) (h2.ext (s.ext μ))
  | dic h1 h2 h3 h4 h5 => exact .dic (s _ _ h1) h2 h3 h4 (h5.ext (s.ext μ))
  | ins h1 h2 h3 => exact .ins (s _ _ h1) h2 (h3.ext (s.ext μ))
theorem Sto.same {g : Gx} {μ : List Addr} {H H' : Hp} {st : Store} (s : SameH H H') (S : Sto g μ H st) : Sto g μ H' st :=
  ⟨S.len, S.nod, fun i o h => let ⟨a, e, m⟩ := S.at_ i o h; ⟨a, e, m.ext s⟩, S.tabs.ext s⟩
theorem SameH.new {H : Hp} {p : Addr} {o : HO} (h : H p = none) : SameH H (upd H p o) := fun a o' q => by
  rw [upd_ne (ne_of_none q h)]; exact q

/-- a source: at turn k, in the store st: a next item (some (some d)), none (some none), or nothing can be said -/
abbrev Src := Nat → Store → Option (Option D)
def WalkOk (g : Gx) (src : Src) (J : It) (μ1 : List Addr) (H1 : Hp) : Prop := ∀ k μ' H' st', Ext μ1 H1 μ' H' → Sto g μ' H' st' →
  (∀ d, src k st' = some (some d) → J.go k H' ∧ ∀ x H2, J.yld k H' x H2 → SameH H' H2 ∧ DV g μ' H2 x d) ∧ (src k st' = some none → J.stop k H')
abbrev IM := Env → Store → Res (Src × Nat)
def tIt (g : Gx) (E : XK) (m : IM) : TI := fun σ H R => ∃ ρ st μ, EnvR g μ H σ ρ ∧ Sto g μ H st ∧ AfterG (fun μ H (J : It) (p : Src × Nat) => WalkOk g p.1 J μ H) g μ H R E (m ρ st)
def SI (X : Cx) (T : Tab) (E : XK) (tg iter : Expr) (m : IM) : Prop := PI X tg iter (tIt (gx X T) E m)
theorem PI.imp {X : Cx} {tg iter : Expr} {t u : TI} (h : PI X tg iter t) (k : ∀ σ H R, u σ H R → t σ H R) : PI X tg iter u := ⟨fun pins s σ H R I q => h.run pins s σ H R I (k σ H R q)⟩
def statS (ds : List D) : Src := fun k _ => some ds[k]?
def refS (i : Nat) : Src := fun k st => match st[i]? with
  | some (.lst ds) => some ds[k]?
  | _ => none
theorem DVs.get {g : Gx} {μ : List Addr} {H : Hp} : ∀ {ds : List D} {vs : List V} {i : Nat} {d : D}, DVs g μ H vs ds → ds[i]? = some d → ∃ v, vs[i]? = some v ∧ DV g μ H v d
  | [], _, _, _, _, e => by simp at e
  | _ :: _, _, 0, _, h, e => by cases h with | cons h1 h2 => simp at e; subst e; exact ⟨_, by simp, h1⟩
  | _ :: _, _, i + 1, d, h, e => by
    cases h with
    | cons h1 h2 => simpa using DVs.get h2 (i := i) (by simpa using e)
theorem walk_lst {g : Gx} {ds : List D} {a : Addr} {vs : List V} {μ : List Addr} {H : Hp} (h1 : Rd H a (.lst vs)) (n : a ∉ μ) (h2 : DVs g μ H vs ds) : WalkOk g (statS ds) (Itl g.K a) μ H := by
  intro k μ' H' st' e s
  have hr : SqL g.K H' a vs := .inl (e.rd h1 n).1
  refine ⟨fun d q => ?_, fun q => ?_⟩
  · have q' : ds[k]? = some d := by simpa [statS] using q
    obtain ⟨v, e1, e2⟩ := (h2.ext e).get q'
    refine ⟨⟨vs, v, hr, e1⟩, fun x H2 y => ?_⟩
    obtain ⟨rfl, y⟩ := y
    have := y vs hr
    rw [e1] at this; cases this
    exact ⟨fun _ _ h => h, e2⟩
  · have q' : ds[k]? = none := by simpa [statS] using q
    exact ⟨vs, hr, by rw [h2.length]; exact List.getElem?_eq_none_iff.mp q'⟩
theorem walk_tup {g : Gx} {ds : List D} {a : Addr} {vs : List V} {μ : List Addr} {H : Hp} (h1 : TupAt g μ H a vs) (h2 : DVs g μ H vs ds) : WalkOk g (statS ds) (Itt g.K a) μ H := by
  intro k μ' H' st' e s
  have hr : SqT g.K H' a vs := (h1.ext e).sq
  refine ⟨fun d q => ?_, fun q => ?_⟩
  · have q' : ds[k]? = some d := by simpa [statS] using q
    obtain ⟨v, e1, e2⟩ := (h2.ext e).get q'
    refine ⟨⟨vs, v, hr, e1⟩, fun x H2 y => ?_⟩
    obtain ⟨rfl, y⟩ := y
    have := y vs hr
    rw [e1] at this; cases this
    exact ⟨fun _ _ h => h, e2⟩
  · have q' : ds[k]? = none := by simpa [statS] using q
    exact ⟨vs, hr, by rw [h2.length]; exact List.getElem?_eq_none_iff.mp q'⟩
theorem Sto.ref {g : Gx} {μ : List Addr} {H : Hp} {st : Store} (S : Sto g μ H st) {i : Nat} {o : MO} {a : Addr} (h : st[i]? = some o) (e : μ[i]? = some a) : MOk g μ H a o := by
  obtain ⟨b, e2, m⟩ := S.at_ i o h
  rw [e] at e2; cases e2
  exact m
theorem walk_ref {g : Gx} {i : Nat} {a : Addr} {μ : List Addr} {H : Hp} (h : μ[i]? = some a) : WalkOk g (refS i) (Itl g.K a) μ H := by
  intro k μ' H' st' e s
  have hg := e.get h
  unfold refS
  cases q : st'[i]? with
  | none => simp
  | some o =>
    cases o with
    | lst ds =>
      have m := s.ref q hg
      cases m with
      | lst h1 h2 =>
        rename_i vs
        have hr : SqL g.K H' a vs := .inl (.inl h1)
        refine ⟨fun d q => ?_, fun q => ?_⟩
        · have q' : ds[k]? = some d := by simpa using q
          obtain ⟨v, e1, e2⟩ := h2.get q'
          refine ⟨⟨vs, v, hr, e1⟩, fun x H2 y => ?_⟩
          obtain ⟨rfl, y⟩ := y
          have := y vs hr
          rw [e1] at this; cases this
          exact ⟨fun _ _ h => h, e2⟩
        · have q' : ds[k]? = none := by simpa using q
          exact ⟨vs, hr, by rw [h2.length]; exact List.getElem?_eq_none_iff.mp q'⟩
    | _ => simp
section
variable {X : Cx} {T : Tab} {E : XK} {e tg iter c : Expr} {es : List Expr} {me : EM} {mt : TM} {pos : Pos}
/-- iter(v), by values -/
def PV (X : Cx) (tg : Expr) (r : V → Hp → (It → Hp → Prop) → Prop) : Prop := ∀ (pins : List (Addr × Obj)) (s : Shared) (σ : L2.St) (H : Hp) (x : V) (u : Value) (R : It → Hp → Prop), Inv X pins σ H s → RelV x u → r x H R →
  wpAny (model X.prog X.w) X.A (pyIter u) (PIE X pins σ tg R) X.xe s
theorem pi_of {te : TE} {r : V → Hp → (It → Hp → Prop) → Prop} (he : PE X e te) (h : PV X tg r) : PI X tg e (fun σ H R => te σ H fun x H1 => r x H1 R) := by
  refine ⟨fun pins s σ H R I q => ?_⟩
  refine thn (he.run pins s σ H _ I q) fun v s1 ⟨x, H1, I1, r1, q1⟩ => ?_
  exact h pins s1 σ H1 x v R I1 r1 q1
theorem pv_list : PV X tg (fun x H R => ∃ a, x = .ref a ∧ (∃ xs, SqL X.K H a xs) ∧ R (Itl X.K a) H) := by
  intro pins s1 σ H1 x v R I1 r1 q1
  obtain ⟨a, e, ⟨xs, hq⟩, q⟩ := q1
  subst e
  cases r1
  obtain ⟨its, rv, p, hz⟩ := I1.list hq
  refine wpAny_pyIter_list p.isList ?_
  refine ⟨s1.heap.objs.size, [s1.heap.objs.size], _, _, H1, rfl, I1.kept (t' := s1.toks) fun b o e => Heap.get?_push_of_some _ e, turn_list a _, ⟨_, Heap.get?_push_size _ rfl, rfl, rfl⟩, fun b hb => ?_, q⟩
  have e : b = s1.heap.objs.size := by simpa using hb
  subst e
  exact I1.fpOk (Nat.le_refl _) (I1.hok.fresh (Nat.le_refl _))
theorem pv_tup : PV X tg (fun x H R => ∃ a, x = .ref a ∧ (∃ xs, SqT X.K H a xs) ∧ R (Itt X.K a) H) := by
  intro pins s1 σ H1 x v R I1 r1 q1
  obtain ⟨a, e, ⟨xs, hq⟩, q⟩ := q1
  subst e
  cases r1
  obtain ⟨its, rv, p, hz⟩ := I1.tuple hq
  refine wpAny_pyIter_tuple (show s1.heap.IsTuple a its.toArray from p) ?_
  refine ⟨s1.heap.objs.size, [s1.heap.objs.size], _, _, H1, rfl, I1.kept (t' := s1.toks) fun b o e => Heap.get?_push_of_some _ e, turn_tuple a _, ⟨_, Heap.get?_push_size _ rfl, rfl, rfl⟩, fun b hb => ?_, q⟩
  have e : b = s1.heap.objs.size := by simpa using hb
  subst e
  exact I1.fpOk (Nat.le_refl _) (I1.hok.fresh (Nat.le_refl _))
def rIt (g : Gx) (E : XK) (f : D → Store → Res (Src × Nat)) : V → Hp → (It → Hp → Prop) → Prop := fun x H R => ∃ d st μ, Sto g μ H st ∧ DV g μ H x d ∧ AfterG (fun μ H (J : It) (p : Src × Nat) => WalkOk g p.1 J μ H) g μ H R E (f d st)
def mIt (f : D → Store → Res (Src × Nat)) (me : EM) : IM := fun ρ st => (me ρ st).bind f
theorem si_of {f : D → Store → Res (Src × Nat)} (he : SE X T E e me) (h : PV X tg (rIt (gx X T) E f)) : SI X T E tg e (mIt f me) := by
  refine PI.imp (pi_of he h) fun σ H R h => ?_
  refine tG_mono (tG_bind (Rl := fun μ H => DV (gx X T) μ H) (Rm := fun μ H (J : It) (p : Src × Nat) => WalkOk (gx X T) p.1 J μ H) (k := fun _ d st1 => f d st1) h) fun x H1 q => ?_
  obtain ⟨d, ρ, st1, μ1, r1, s1, q1, a1⟩ := q
  exact ⟨d, st1, μ1, s1, q1, a1⟩
/-- walking a list's or a tuple's items (the list of the store: at most so many turns) -/
def fSeq (fuel : Nat) : D → Store → Res (Src × Nat) := fun d st => match d with
  | .lst ds => .ok (statS ds, ds.length + 1) st
  | .tup ds => .ok (statS ds, ds.length + 1) st
  | .ref i => match st[i]? with
    | some (.lst _) => .ok (refS i, fuel) st
    | _ => .bad
  | _ => .bad
theorem pv_seq (fuel : Nat) : PV X tg (rIt (gx X T) E (fSeq fuel)) := by
  intro pins s σ H x u R I r q
  obtain ⟨d, st, μ, s1, q1, a1⟩ := q
  cases d with
  | lst ds =>
    cases q1 with
    | lst h1 n h2 => exact pv_list pins s σ H _ u R I r ⟨_, rfl, ⟨_, .inl h1⟩, a1.now s1 (walk_lst h1 n h2)⟩
  | tup ds =>
    cases q1 with
    | tup h1 h2 => exact pv_tup pins s σ H _ u R I r ⟨_, rfl, ⟨_, h1.sq⟩, a1.now s1 (walk_tup h1 h2)⟩
  | ref i =>
    cases q1 with
    | ref h1 =>
      unfold fSeq at a1
      dsimp only at a1
      cases q : st[i]? with
      | none => rw [q] at a1; exact a1.elim
      | some o =>
        rw [q] at a1
        cases o with
        | lst ds =>
          cases s1.ref q h1 with
          | lst h2 h3 => exact pv_list pins s σ H _ u R I r ⟨_, rfl, ⟨_, .inl (.inl h2)⟩, a1.now s1 (walk_ref h1)⟩
        | _ => exact a1.elim
  | _ => exact a1.elim
theorem si_seq (fuel : Nat) (he : SE X T E e me) : SI X T E tg e (mIt (fSeq fuel) me) := si_of he (pv_seq fuel)

/-! ### for -/
def forGo (src : Src) (tg : GM) (b : SM) : Nat → Nat → Env → Store → Res (Fl × Env)
  | 0, _, _, _ => .bad
  | f + 1, k, ρ, st => match src k st with
    | none => .bad
    | some none => .ok (.nx, ρ) st
    | some (some d) => (tg d ρ st).bind fun ρ1 st1 => (b ρ1 st1).bind fun r st2 => match r with
      | (.nx, ρ2) => forGo src tg b f (k + 1) ρ2 st2
      | (.ct, ρ2) => forGo src tg b f (k + 1) ρ2 st2
      | (.bk, ρ2) => .ok (.nx, ρ2) st2
      | (.rt d, ρ2) => .ok (.rt d, ρ2) st2
def sFor (mi : IM) (tg : GM) (b : SM) : SM := fun ρ st => (mi ρ st).bind fun p st1 => forGo p.1 tg b p.2 0 ρ st1
theorem ss_for {body : List Stmt} {mi : IM} {gt : GM} {mb : SM} (hp : PassesOwn (model X.prog X.w) X.A X.env X.xe) (hc : X.calm = true) (hi : SI X T E tg iter mi) (hg : SG X T E tg gt) (hb : SSs X T E body mb)
    (hs : ∀ x, foldedSetIterable iter X.env x = pure x := by intro _; rfl) : SS X T E (.For tg iter body [] pos) (sFor mi gt mb) := by
  refine PS.imp (ps_for hp hc hi hg hb hs) fun Dn σ H h => ?_
  obtain ⟨ρ, st, μ, r1, s1, a⟩ := h
  refine ⟨ρ, st, μ, r1, s1, ?_⟩
  refine (AfterG.bindS (Rl := fun μ H (J : It) (p : Src × Nat) => WalkOk (gx X T) p.1 J μ H) a).mono fun J H1 q => ?_
  obtain ⟨p, st1, μ1, e1, s1, w1, a1⟩ := q
  obtain ⟨src, fuel⟩ := p
  refine ⟨fun i m σ' H' => ∃ ρ' st' μ', Ext μ1 H1 μ' H' ∧ EnvR (gx X T) μ' H' σ' ρ' ∧ Sto (gx X T) μ' H' st' ∧ AfterS (gx X T) μ' H' Dn E (forGo src gt mb m i ρ' st'), ⟨fuel, ρ, st1, μ1, .refl, r1.ext e1, s1, a1⟩, ?_⟩
  rintro i m σ' H' ⟨ρ', st', μ', e', r', s', a'⟩
  cases m with
  | zero => exact (show False from a').elim
  | succ m =>
    obtain ⟨wg, ws⟩ := w1 i μ' H' st' e' s'
    unfold forGo at a'
    cases q : src i st' with
    | none => simp only [q] at a'; exact (show False from a').elim
    | some o =>
      cases o with
      | none =>
        simp only [q] at a'
        exact .inl ⟨ws q, a' σ' μ' H' .refl s' r'⟩
      | some d =>
        simp only [q] at a'
        obtain ⟨go, yl⟩ := wg d q
        refine .inr ⟨go, fun σ2 H2 => ∃ ρ2 st2 μ2, Ext μ1 H1 μ2 H2 ∧ EnvR (gx X T) μ2 H2 σ2 ρ2 ∧ Sto (gx X T) μ2 H2 st2 ∧ AfterS (gx X T) μ2 H2 Dn E (forGo src gt mb m (i + 1) ρ2 st2), fun σ2 H2 w2 => ⟨m, Nat.lt_succ_self _, w2⟩, fun x H2 y => ?_⟩
        obtain ⟨sm, dv⟩ := yl x H2 y
        have e2 := sm.ext μ'
        refine ⟨d, ρ', st', μ', dv, r'.ext e2, s'.same sm, ?_⟩
        refine (AfterG.bindS (Rl := fun μ H (σ : L2.St) (ρ : Env) => EnvR (gx X T) μ H σ ρ) (AfterS.ext e2 a')).mono fun σ3 H3 q3 => ?_
        obtain ⟨ρ3, st3, μ3, e3, s3, r3, a3⟩ := q3
        refine ⟨ρ3, st3, μ3, r3, s3, ?_⟩
        have eA : Ext μ1 H1 μ3 H3 := (e'.trans e2).trans e3
        cases hbb : mb ρ3 st3 with
        | ok pr st4 =>
          rw [hbb] at a3
          obtain ⟨fl, ρ4⟩ := pr
          cases fl with
          | nx => exact fun σ5 μ5 H5 e5 s5 r5 => ⟨ρ4, st4, μ5, eA.trans e5, r5, s5, AfterS.ext e5 a3⟩
          | ct => exact fun σ5 μ5 H5 e5 s5 r5 => ⟨ρ4, st4, μ5, eA.trans e5, r5, s5, AfterS.ext e5 a3⟩
          | bk => exact fun σ5 μ5 H5 e5 s5 r5 => a3 σ5 μ5 H5 e5 s5 r5
          | rt d => exact a3
        | exn c fs st4 => rw [hbb] at a3; exact a3
        | bad => rw [hbb] at a3; exact a3
/-! ### while -/
def whileGo (c : TM) (b : SM) : Nat → Env → Store → Res (Fl × Env)
  | 0, _, _ => .bad
  | f + 1, ρ, st => (c ρ st).bind fun t st1 => if t = true then (b ρ st1).bind fun r st2 => match r with
      | (.nx, ρ2) => whileGo c b f ρ2 st2
      | (.ct, ρ2) => whileGo c b f ρ2 st2
      | (.bk, ρ2) => .ok (.nx, ρ2) st2
      | (.rt d, ρ2) => .ok (.rt d, ρ2) st2
    else .ok (.nx, ρ) st1
def sWhile (fuel : Nat) (c : TM) (b : SM) : SM := fun ρ st => whileGo c b fuel ρ st
theorem ss_while (fuel : Nat) {body : List Stmt} {mb : SM} (hp : PassesOwn (model X.prog X.w) X.A X.env X.xe) (hc : ST X T E c mt) (hb : SSs X T E body mb) : SS X T E (.While c body [] pos) (sWhile fuel mt mb) := by
  refine PS.imp (ps_while hp hc hb) fun Dn σ H h => ?_
  obtain ⟨ρ, st, μ, r1, s1, a⟩ := h
  refine ⟨fun m σ' H' => ∃ ρ' st' μ', EnvR (gx X T) μ' H' σ' ρ' ∧ Sto (gx X T) μ' H' st' ∧ AfterS (gx X T) μ' H' Dn E (whileGo mt mb m ρ' st'), ⟨fuel, ρ, st, μ, r1, s1, a⟩, ?_⟩
  rintro m σ' H' ⟨ρ', st', μ', r', s', a'⟩
  cases m with
  | zero => exact (show False from a').elim
  | succ m =>
    unfold whileGo at a'
    refine ⟨ρ', st', μ', r', s', ?_⟩
    refine (AfterG.bindS (Rl := RB) a').mono fun b H1 q => ?_
    obtain ⟨t, st1, μ1, e1, s1, rb, a1⟩ := q
    cases rb
    cases b with
    | false =>
      simp only [Bool.false_eq_true, if_false] at a1 ⊢
      exact a1 σ' μ1 H1 .refl s1 (r'.ext e1)
    | true =>
      simp only [if_true] at a1 ⊢
      refine ⟨fun σ2 H2 => ∃ ρ2 st2 μ2, EnvR (gx X T) μ2 H2 σ2 ρ2 ∧ Sto (gx X T) μ2 H2 st2 ∧ AfterS (gx X T) μ2 H2 Dn E (whileGo mt mb m ρ2 st2), fun σ2 H2 w2 => ⟨m, Nat.lt_succ_self _, w2⟩, ρ', st1, μ1, r'.ext e1, s1, ?_⟩
      cases hbb : mb ρ' st1 with
      | ok pr st4 =>
        rw [hbb] at a1
        obtain ⟨fl, ρ4⟩ := pr
        cases fl with
        | nx => exact fun σ5 μ5 H5 e5 s5 r5 => ⟨ρ4, st4, μ5, r5, s5, AfterS.ext e5 a1⟩
        | ct => exact fun σ5 μ5 H5 e5 s5 r5 => ⟨ρ4, st4, μ5, r5, s5, AfterS.ext e5 a1⟩
        | bk => exact fun σ5 μ5 H5 e5 s5 r5 => a1 σ5 μ5 H5 e5 s5 r5
        | rt d => exact a1
      | exn c fs st4 => rw [hbb] at a1; exact a1
      | bad => rw [hbb] at a1; exact a1
end
end SL
set_option maxRecDepth 100000
set_option maxHeartbeats 2000000
/-! Layer S, list comprehensions. -/
namespace SL
open PySem PySem.Spec PyProof.Rows L2

/-- nothing is raised out of a comprehension -/
def noExn {α : Type} (r : Res α) : Res α := match r with
  | .ok a st => .ok a st
  | _ => .bad
def noE : XK := fun _ _ _ => False
/-! ### targets of comprehensions: names -/
abbrev TgM := D → Env → Option Env
def tgName (i : Nat) : TgM := fun d ρ => some (ρ.set i (some d))
def setAll : List Nat → List D → Env → Env
  | i :: is, d :: ds, ρ => setAll is ds (ρ.set i (some d))
  | _, _, ρ => ρ
def tgTup (is : List Nat) : TgM := fun d ρ => match d with
  | .tup ds => if ds.length = is.length then some (setAll is ds ρ) else none
  | _ => none
def wipeE (ρ : Env) : List Nat → Env
  | [] => ρ
  | v :: vs => (wipeE ρ vs).set v none
theorem EnvR.setNone {g : Gx} {μ : List Addr} {H : Hp} {σ : L2.St} {ρ : Env} (h : EnvR g μ H σ ρ) (i : Nat) : EnvR g μ H (σ.set i none) (ρ.set i none) := by
  refine ⟨by simp [h.1], fun j e q => ?_⟩
  by_cases hij : i = j
  · subst hij
    by_cases hl : i < ρ.length
    · rw [List.getElem?_set_self hl] at q; cases q
    · rw [List.getElem?_eq_none (by simpa using hl)] at q; cases q
  · rw [List.getElem?_set_ne hij] at q
    rw [List.getElem?_set_ne hij]
    exact h.2 j e q
theorem EnvR.wipe {g : Gx} {μ : List Addr} {H : Hp} {σ : L2.St} {ρ : Env} (h : EnvR g μ H σ ρ) : ∀ vs : List Nat, EnvR g μ H (L2.wipe σ vs) (wipeE ρ vs)
  | [] => h
  | v :: vs => (EnvR.wipe h vs).setNone v
theorem wipe_set {σ : L2.St} {i : Nat} {x : Option V} : ∀ {vs : List Nat}, i ∈ vs → L2.wipe (σ.set i x) vs = L2.wipe σ vs
  | [], h => by simp at h
  | v :: vs, h => by
    unfold L2.wipe
    by_cases e : v = i
    · subst e
      have key : ∀ (ws : List Nat) (τ : L2.St), (L2.wipe (τ.set v x) ws).set v none = (L2.wipe τ ws).set v none := by
        intro ws
        induction ws with
        | nil => intro τ; simp [L2.wipe]
        | cons w ws ih =>
          intro τ
          unfold L2.wipe
          by_cases hw : w = v
          · subst hw; rw [List.set_set, List.set_set]; exact ih τ
          · rw [List.set_comm none none hw, ih τ, List.set_comm none none (Ne.symm hw)]
      exact key vs σ
    · have : i ∈ vs := by
        rcases List.mem_cons.mp h with q | q
        · exact absurd q.symm e
        · exact q
      rw [wipe_set this]
theorem wipe_comm (σ : L2.St) (v : Nat) : ∀ vs : List Nat, L2.wipe (σ.set v none) vs = (L2.wipe σ vs).set v none
  | [] => rfl
  | w :: vs => by
    unfold L2.wipe
    rw [wipe_comm σ v vs]
    by_cases e : w = v
    · subst e; rfl
    · rw [List.set_comm none none e]
theorem wipe_wipe (σ : L2.St) : ∀ vs : List Nat, L2.wipe (L2.wipe σ vs) vs = L2.wipe σ vs
  | [] => rfl
  | v :: vs => by
    show (L2.wipe ((L2.wipe σ vs).set v none) vs).set v none = (L2.wipe σ vs).set v none
    rw [wipe_comm, List.set_set, wipe_wipe σ vs]
/-- g stores as m says, in the places vs -/
def TgOk (g : TG) (K : PySem.W.Frag) (m : TgM) (vs : List Nat) : Prop := ∀ (gg : Gx), gg.K = K → ∀ (μ : List Addr) (H : Hp) (v : V) (d : D) (σ : L2.St) (ρ ρ' : Env) (Q : L2.St → Hp → Prop),
  DV gg μ H v d → EnvR gg μ H σ ρ → m d ρ = some ρ' → (∀ σ', EnvR gg μ H σ' ρ' → L2.wipe σ' vs = L2.wipe σ vs → Q σ' H) → g v σ H Q
theorem tgOk_name {K : PySem.W.Frag} {i : Nat} {vs : List Nat} (h : i ∈ vs) : TgOk (gName i) K (tgName i) vs := by
  intro gg hK μ H v d σ ρ ρ' Q r r1 e k
  cases e
  exact k _ (r1.set r i) (wipe_set h)
def gNames : List Nat → TGs
  | [] => gNil
  | i :: is => gCons (gName i) (gNames is)
theorem gNames_ok {gg : Gx} {μ : List Addr} {H : Hp} {vs : List Nat} {Q : L2.St → Hp → Prop} : ∀ {is : List Nat} {ws : List V} {ds : List D} {σ : L2.St} {ρ : Env}, (∀ i ∈ is, i ∈ vs) → DVs gg μ H ws ds → ds.length = is.length → EnvR gg μ H σ ρ →
    (∀ σ', EnvR gg μ H σ' (setAll is ds ρ) → L2.wipe σ' vs = L2.wipe σ vs → Q σ' H) → gNames is ws σ H Q
  | [], ws, [], σ, ρ, _, r, _, r1, k => by cases r; exact ⟨rfl, k σ r1 rfl⟩
  | [], _, _ :: _, _, _, _, _, hl, _, _ => by simp at hl
  | _ :: _, _, [], _, _, _, _, hl, _, _ => by simp at hl
  | i :: is, ws, d :: ds, σ, ρ, hm, r, hl, r1, k => by
    cases r with
    | cons q1 q2 =>
      refine ⟨_, _, rfl, ?_⟩
      refine gNames_ok (is := is) (fun j hj => hm j (List.mem_cons_of_mem _ hj)) q2 (by simpa using hl) (r1.set q1 i) fun σ' r' w' => k σ' r' ?_
      rw [w', wipe_set (hm i List.mem_cons_self)]
theorem tgOk_tup {K : PySem.W.Frag} {is vs : List Nat} (h : ∀ i ∈ is, i ∈ vs) : TgOk (gTup K is.length (gNames is)) K (tgTup is) vs := by
  intro gg hK μ H v d σ ρ ρ' Q r r1 e k
  subst hK
  cases r with
  | tup h1 h2 =>
    rename_i a ws ds
    by_cases hl : ds.length = is.length
    · simp only [tgTup, if_pos hl, Option.some.injEq] at e
      subst e
      exact ⟨a, ws, rfl, h1.sq, by rw [h2.length, hl], gNames_ok h h2 hl r1 k⟩
    · simp [tgTup, hl] at e
  | _ => simp [tgTup] at e

/-! ### the block -/
def compGo (n : Nat) (src : Src) (tg : TgM) (c : TM) (e : EM) (ρ0 : Env) : Nat → Nat → Store → Res Unit
  | 0, _, _ => .bad
  | f + 1, k, st => match src k st with
    | none => .bad
    | some none => .ok () st
    | some (some d) => match tg d ρ0 with
      | none => .bad
      | some ρ1 => (c ρ1 st).bind fun b st1 => if b = true then (e ρ1 st1).bind fun y st2 => match st2[n]? with
          | some (.lst acc) => if acc.length < sizeLine then compGo n src tg c e ρ0 f (k + 1) (st2.set n (.lst (acc ++ [y]))) else .bad
          | _ => .bad
        else compGo n src tg c e ρ0 f (k + 1) st1
/-- [e for tg in .. if c]: a new list in the store -/
def mComp (mi : IM) (tg : TgM) (c : TM) (e : EM) (vs : List Nat) : EM := fun ρ st => (mi ρ st).bind fun p st1 => (noExn (compGo st1.length p.1 tg c e (wipeE ρ vs) p.2 0 (st1 ++ [.lst []]))).bind fun _ st2 => .ok (.ref st1.length) st2
/-- .. let go of as data -/
def closeE (m : EM) : EM := fun ρ st => closeR st.length (m ρ st)
def mTrue : TM := fun _ st => .ok true st
theorem Sto.push {g : Gx} {μ : List Addr} {H : Hp} {st : Store} {p : Addr} {u : HO} {o : MO} (S : Sto g μ H st) (hp : H p = none) (m : MOk g (μ ++ [p]) (upd H p u) p o) : Sto g (μ ++ [p]) (upd H p u) (st ++ [o]) := by
  have np : p ∉ μ := fun h => by
    obtain ⟨i, hi, e⟩ := List.getElem_of_mem h
    have hi2 : i < st.length := by rw [S.len]; exact hi
    have e1 := List.getElem?_eq_getElem hi2
    generalize st[i] = o1 at e1
    obtain ⟨a, e2, m2⟩ := S.at_ i o1 e1
    rw [List.getElem?_eq_getElem hi, e] at e2
    cases e2
    cases m2 with
    | lst h1 _ => rw [hp] at h1; cases h1
    | dic h1 => rw [hp] at h1; cases h1
    | ins h1 => rw [hp] at h1; cases h1
  refine ⟨by simp [S.len], ?_, fun i o' q => ?_, S.tabs.ext (SameH.new hp)⟩
  · rw [List.nodup_append]
    refine ⟨S.nod, by simp, fun a ha b hb => ?_⟩
    rw [List.mem_singleton.mp hb]
    exact fun e => np (by rw [← e]; exact ha)
  · by_cases c : i < st.length
    · rw [List.getElem?_append_left c] at q
      obtain ⟨a, e1, m1⟩ := S.at_ i o' q
      refine ⟨a, by rw [List.getElem?_append_left (by rw [← S.len]; exact c)]; exact e1, ?_⟩
      have ne : a ≠ p := fun e => np (by rw [← e]; exact List.mem_of_getElem? e1)
      have ex : Ext μ H (μ ++ [p]) (upd H p u) := Ext.newRef hp
      cases m1 with
      | lst h1 h2 => exact .lst (by rw [upd_ne ne]; exact h1) (h2.ext ex)
      | dic h1 h2 h3 h4 h5 => exact .dic (by rw [upd_ne ne]; exact h1) h2 h3 h4 (h5.ext ex)
      | ins h1 h2 h3 => exact .ins (by rw [upd_ne ne]; exact h1) h2 (h3.ext ex)
    · have hl : i = st.length := by
        have := (List.getElem?_eq_some_iff.mp q).1
        simp at this; omega
      subst hl
      rw [List.getElem?_append_right (Nat.le_refl _)] at q
      simp at q
      subst q
      exact ⟨p, by rw [S.len]; simp, m⟩
theorem heap_with (a : Nat) (o : Obj) (h : o.isFreed = false) : ∃ hp : Heap, hp.get? a = some o := by
  have sz : ∀ n : Nat, ∃ hp : Heap, hp.objs.size = n := fun n => by
    induction n with
    | zero => exact ⟨{ objs := #[], life := {} }, rfl⟩
    | succ n ih =>
      obtain ⟨hp, e⟩ := ih
      exact ⟨hp.push o, by rw [Heap.size_push, e]⟩
  obtain ⟨hp, e⟩ := sz a
  exact ⟨hp.push o, by rw [← e]; exact Heap.get?_push_size _ h⟩
theorem dO_ne_code {a c : Addr} {o : Obj} {es ep} {q : Str} (hd : o.data = .dict es ep) (h : a = c) : dO a o ≠ LamX.CodeO c q := fun z => by
  subst h
  obtain ⟨hp, e⟩ := heap_with a o (Obj.isFreed_of_dict hd)
  have z2 := HO.ext.inj z
  have z3 := congrFun z2 hp
  have z4 : hp.get? a = some o := e
  obtain ⟨oc, vs, t, e1, e2, _⟩ := z3.mp z4
  rw [z4] at e1
  cases e1
  rw [hd] at e2
  cases e2
/-- a thing of the store is neither a table nor a code object -/
theorem MOk.nt {g : Gx} {μ : List Addr} {H : Hp} {a : Addr} {o : MO} (m : MOk g μ H a o) : (∀ ps, H a ≠ some (.tbl ps)) ∧ ∀ q, H a ≠ some (LamX.CodeO a q) := by
  cases m with
  | lst h1 _ => exact ⟨fun ps z => (by rw [h1] at z; cases z), fun q z => by rw [h1] at z; unfold LamX.CodeO at z; cases z⟩
  | dic h1 _ h3 _ _ => exact ⟨fun ps z => (by rw [h1] at z; cases z), fun q z => by rw [h1] at z; exact dO_ne_code h3 rfl (Option.some.inj z)⟩
  | ins h1 _ _ => exact ⟨fun ps z => (by rw [h1] at z; cases z), fun q z => by rw [h1] at z; unfold LamX.CodeO at z; cases z⟩
theorem Sto.tput {g : Gx} {μ : List Addr} {H : Hp} {st : Store} {p : Addr} {u : HO} {n : Nat} (S : Sto g μ H st) (hp : μ[n]? = some p) : LamX.Tabs g.T.tb (upd H p u) := fun w hw => by
  have hn : n < st.length := by rw [S.len]; exact (List.getElem?_eq_some_iff.mp hp).1
  obtain ⟨a, e1, m⟩ := S.at_ n st[n] (List.getElem?_eq_getElem hn)
  rw [hp] at e1
  cases e1
  obtain ⟨n1, n2⟩ := m.nt
  obtain ⟨ps, h1, h2, h3⟩ := S.tabs w hw
  refine ⟨ps, by rw [upd_ne (fun z => n1 ps (by rw [← z]; exact h1))]; exact h1, h2, fun pos cv hc => ?_⟩
  obtain ⟨c, e1, e2⟩ := h3 pos cv hc
  refine ⟨c, e1, ?_⟩
  by_cases hcp : c = p
  · subst hcp
    exact (n2 _ e2).elim
  · rw [upd_ne hcp]; exact e2
/-- a thing of the store is changed -/
theorem Sto.put {g : Gx} {μ : List Addr} {H : Hp} {st : Store} {p : Addr} {u : HO} {o : MO} {n : Nat} (S : Sto g μ H st) (hp : μ[n]? = some p) (m : MOk g μ (upd H p u) p o) : Sto g μ (upd H p u) (st.set n o) := by
  have hm : p ∈ μ := List.mem_of_getElem? hp
  have ex : Ext μ H μ (upd H p u) := Ext.write hm fun ps z => m.nt.1 ps (by rw [upd_same, z])
  refine ⟨by simp [S.len], S.nod, fun i o' q => ?_, S.tput hp⟩
  by_cases c : n = i
  · subst c
    by_cases hl : n < st.length
    · rw [List.getElem?_set_self hl] at q
      cases q
      exact ⟨p, hp, m⟩
    · rw [List.getElem?_eq_none (by simpa using hl)] at q; cases q
  · rw [List.getElem?_set_ne c] at q
    obtain ⟨a, e1, m1⟩ := S.at_ i o' q
    refine ⟨a, e1, ?_⟩
    have ne : a ≠ p := fun e => by
      subst e
      exact c ((List.getElem?_inj (List.getElem?_eq_some_iff.mp hp).1 S.nod).mp (hp.trans e1.symm))
    cases m1 with
    | lst h1 h2 => exact .lst (by rw [upd_ne ne]; exact h1) (h2.ext ex)
    | dic h1 h2 h3 h4 h5 => exact .dic (by rw [upd_ne ne]; exact h1) h2 h3 h4 (h5.ext ex)
    | ins h1 h2 h3 => exact .ins (by rw [upd_ne ne]; exact h1) h2 (h3.ext ex)
section
variable {X : Cx} {T : Tab} {E : XK} {e tg iter c : Expr} {es : List Expr} {me : EM} {mt : TM} {pos : Pos}
theorem se_close (h : SE X T E e me) : SE X T E e (closeE me) := by
  refine PE.imp h fun σ H Q q => ?_
  obtain ⟨ρ, st, μ, r1, s1, a⟩ := q
  exact ⟨ρ, st, μ, r1, s1, AfterG.close s1 a⟩
theorem PTs.imp {ifs : List Expr} {t u : TT} (h : PTs X ifs t) (k : ∀ σ H Q, u σ H Q → t σ H Q) : PTs X ifs u := ⟨fun pins s σ H Q I q => h.run pins s σ H Q I (k σ H Q q)⟩
def STs (X : Cx) (T : Tab) (E : XK) (ifs : List Expr) (m : TM) : Prop := PTs X ifs (tT (gx X T) E m)
theorem sts_nil : STs X T E [] mTrue := by
  refine PTs.imp pts_nil fun σ H Q h => ?_
  obtain ⟨ρ, st, μ, r1, s1, a⟩ := h
  exact AfterG.now a s1 rfl
theorem sts_one (h : ST X T E c mt) : STs X T E [c] mt := pts_one h
theorem DVs.snoc {g : Gx} {μ : List Addr} {H : Hp} {vs : List V} {ds : List D} {v : V} {d : D} (h : DVs g μ H vs ds) (h2 : DV g μ H v d) : DVs g μ H (vs ++ [v]) (ds ++ [d]) := h.append (.cons h2 .nil)
theorem tE_comp {mi : IM} {tgm : TgM} {vs : List Nat} {g : TG} {σ : L2.St} {H : Hp} {Q : VK} (gok : TgOk g X.K tgm vs) (h : tE (gx X T) E (mComp mi tgm mt me vs) σ H Q) : tLc (tIt (gx X T) E mi) g (tT (gx X T) noE mt) (tE (gx X T) noE me) vs σ H Q := by
  obtain ⟨ρ, st, μ, r1, s1, a⟩ := h
  refine ⟨ρ, st, μ, r1, s1, ?_⟩
  refine (AfterG.bind (Rl := fun μ H (J : It) (p : Src × Nat) => WalkOk (gx X T) p.1 J μ H) a).mono fun J H1 q => ?_
  obtain ⟨p, st1, μ1, e1, s1, w1, a1⟩ := q
  obtain ⟨src, fuel⟩ := p
  dsimp only at a1 w1
  intro Dl hD
  have s2 : Sto (gx X T) (μ1 ++ [Dl]) (upd H1 Dl (.lst [])) (st1 ++ [.lst []]) := s1.push hD (.lst upd_same .nil)
  have e2 : Ext μ1 H1 (μ1 ++ [Dl]) (upd H1 Dl (.lst [])) := Ext.newRef hD
  have hat : (μ1 ++ [Dl])[st1.length]? = some Dl := by rw [s1.len]; simp
  refine ⟨fun i m H' => ∃ st' μ', Ext (μ1 ++ [Dl]) (upd H1 Dl (.lst [])) μ' H' ∧ Sto (gx X T) μ' H' st' ∧ After (gx X T) μ' H' Q E ((noExn (compGo st1.length src tgm mt me (wipeE ρ vs) m i st')).bind fun _ st2 => .ok (.ref st1.length) st2), ⟨fuel, st1 ++ [.lst []], μ1 ++ [Dl], .refl, s2, AfterG.ext e2 a1⟩, ?_⟩
  rintro i m H' ⟨st', μ', e', s', a'⟩
  cases m with
  | zero => exact (show False from a').elim
  | succ m =>
    obtain ⟨wg, ws⟩ := w1 i μ' H' st' (e2.trans e') s'
    unfold compGo at a'
    cases q : src i st' with
    | none => simp only [q] at a'; exact (show False from a').elim
    | some o =>
      cases o with
      | none =>
        simp only [q] at a'
        exact .inl ⟨ws q, a' (.ref Dl) μ' H' .refl s' (.ref (e'.get hat))⟩
      | some d =>
        simp only [q] at a'
        obtain ⟨go, yl⟩ := wg d q
        refine .inr ⟨go, fun H2 => ∃ st2 μ2, Ext (μ1 ++ [Dl]) (upd H1 Dl (.lst [])) μ2 H2 ∧ Sto (gx X T) μ2 H2 st2 ∧ After (gx X T) μ2 H2 Q E ((noExn (compGo st1.length src tgm mt me (wipeE ρ vs) m (i + 1) st2)).bind fun _ st3 => .ok (.ref st1.length) st3), fun H2 w2 => ⟨m, Nat.lt_succ_self _, w2⟩, fun x H2 y => ?_⟩
        obtain ⟨sm, dv⟩ := yl x H2 y
        have e3 := sm.ext μ'
        have r2 : EnvR (gx X T) μ' H2 (L2.wipe σ vs) (wipeE ρ vs) := (((r1.ext e1).ext e2).ext e' |>.ext e3).wipe vs
        cases qt : tgm d (wipeE ρ vs) with
        | none => simp only [qt] at a'; exact (show False from a').elim
        | some ρ1 =>
          simp only [qt] at a'
          refine gok (gx X T) rfl μ' H2 x d _ _ ρ1 _ dv r2 qt fun σ3 r3 w3 => ⟨?_, ?_⟩
          · rw [w3, wipe_wipe]
          · refine ⟨ρ1, st', μ', r3, s'.same sm, ?_⟩
            have a2 : After (gx X T) μ' H2 Q E _ := AfterG.ext e3 a'
            cases hc : mt ρ1 st' with
            | bad => rw [hc] at a2; exact (show False from a2).elim
            | exn cc fs st4 => rw [hc] at a2; exact (show False from a2).elim
            | ok b st4 =>
              rw [hc] at a2
              intro b' μ4 H4 e4 s4 rb
              have eb : b' = b := rb
              subst eb
              have eA : Ext (μ1 ++ [Dl]) (upd H1 Dl (.lst [])) μ4 H4 := (e'.trans e3).trans e4
              have a3 : After (gx X T) μ4 H4 Q E _ := AfterG.ext e4 a2
              simp only [Res.bind] at a3
              cases b' with
              | false =>
                simp only [Bool.false_eq_true, if_false] at a3 ⊢
                exact ⟨st4, μ4, eA, s4, a3⟩
              | true =>
                simp only [if_true] at a3 ⊢
                refine ⟨ρ1, st4, μ4, r3.ext e4, s4, ?_⟩
                cases he : me ρ1 st4 with
                | bad => rw [he] at a3; exact (show False from a3).elim
                | exn cc fs st5 => rw [he] at a3; exact (show False from a3).elim
                | ok y5 st5 =>
                  rw [he] at a3
                  intro v μ5 H5 e5 s5 rv
                  have a4 : After (gx X T) μ5 H5 Q E _ := AfterG.ext e5 a3
                  have eB := eA.trans e5
                  have hat5 := eB.get hat
                  simp only at a4
                  cases hg : st5[st1.length]? with
                  | none => simp only [hg] at a4; exact (show False from a4).elim
                  | some o5 =>
                    cases o5 with
                    | lst acc =>
                      simp only [hg] at a4
                      cases s5.ref hg hat5 with
                      | lst h1 h2 =>
                        rename_i ws
                        by_cases hl : acc.length < sizeLine
                        · simp only [if_pos hl] at a4
                          have hm : Dl ∈ μ5 := List.mem_of_getElem? hat5
                          have e6 : Ext μ5 H5 μ5 (upd H5 Dl (.lst (ws ++ [v]))) := Ext.write hm
                          refine ⟨ws, h1, by rw [h2.length]; exact hl, _, μ5, eB.trans e6, ?_, AfterG.ext e6 a4⟩
                          exact s5.put hat5 (.lst upd_same ((h2.snoc rv).ext e6))
                        · simp only [if_neg hl] at a4; exact (show False from a4).elim
                    | _ => simp only [hg] at a4; exact (show False from a4).elim
/-- [e for tg in iter if c] -/
theorem se_comp {ifs : List Expr} {elt : Expr} {scope : Scope} {own : List (Str × Nat)} {mi : IM} {tgm : TgM} {g : TG} (hc : X.calm = true) (hN : X.N.Nodup) (ok : BlkOk X.N X.env.scope scope own) (gok : TgOk g X.K tgm (own.map (·.2))) (hi : SI X T E tg iter mi)
    (hg : ∀ (s : Shared) (H : Hp) (C : Addr) (cl : List (Str × Addr)) (fp : List Addr), PG (X.blk s H scope (compEnvC scope cl C X.env) fp) tg g)
    (ht : ∀ (s : Shared) (H : Hp) (C : Addr) (cl : List (Str × Addr)) (fp : List Addr), STs (X.blk s H scope (compEnvC scope cl C X.env) fp) T noE ifs mt)
    (he : ∀ (s : Shared) (H : Hp) (C : Addr) (cl : List (Str × Addr)) (fp : List Addr), SE (X.blk s H scope (compEnvC scope cl C X.env) fp) T noE elt me) (hs : ∀ x, foldedSetIterable iter X.env x = pure x := by intro _; rfl) :
    SE X T E (.ListComp elt [⟨tg, iter, ifs, 0⟩] scope pos) (mComp mi tgm mt me (own.map (·.2))) :=
  PE.imp (pe_lc (tt := tT (gx X T) noE mt) (te := tE (gx X T) noE me) hc hN hi ok hg ht he hs) fun _ _ _ h => tE_comp gok h
/-- y = [..] on one line; as a thing of the store (id), as data (tE_close) -/
theorem tE_close {g : Gx} {σ : L2.St} {H : Hp} {Q : VK} (h : tE g E (closeE me) σ H Q) : tE g E me σ H Q := by
  obtain ⟨ρ, st, μ, r1, s1, a⟩ := h
  exact ⟨ρ, st, μ, r1, s1, AfterG.close s1 a⟩
theorem ss_setComp {i : Nat} {y : Str} {py spos : Pos} {ifs : List Expr} {elt : Expr} {scope : Scope} {own : List (Str × Nat)} {mi : IM} {tgm : TgM} {g : TG} {mr : EM} (hc : X.calm = true) (hN : X.N.Nodup) (hy : X.N[i]? = some y) (hyl : X.env.scope.names.lookup y = some .local)
    (hsw : swapsWith (.ListComp elt [⟨tg, iter, ifs, 0⟩] scope pos) (some (.Name y py)) spos.line X.env = pure true) (ok : BlkOk X.N X.env.scope scope own) (gok : TgOk g X.K tgm (own.map (·.2))) (hi : SI X T E tg iter mi)
    (hg : ∀ (s : Shared) (H : Hp) (C : Addr) (cl : List (Str × Addr)) (fp : List Addr), PG (X.blk s H scope (compEnvC scope cl C X.env) fp) tg g)
    (ht : ∀ (s : Shared) (H : Hp) (C : Addr) (cl : List (Str × Addr)) (fp : List Addr), STs (X.blk s H scope (compEnvC scope cl C X.env) fp) T noE ifs mt)
    (he : ∀ (s : Shared) (H : Hp) (C : Addr) (cl : List (Str × Addr)) (fp : List Addr), SE (X.blk s H scope (compEnvC scope cl C X.env) fp) T noE elt me)
    (kr : ∀ {σ H Q}, tE (gx X T) E mr σ H Q → tE (gx X T) E (mComp mi tgm mt me (own.map (·.2))) σ H Q) (hs : ∀ x, foldedSetIterable iter X.env x = pure x := by intro _; rfl) :
    SS X T E (.Assign [.Name y py] (.ListComp elt [⟨tg, iter, ifs, 0⟩] scope pos) spos) (sAsg mr (gmName i)) := by
  refine PS.imp (ps_setLc (tt := tT (gx X T) noE mt) (te := tE (gx X T) noE me) hc hN hy hyl hsw hi ok hg ht he hs) fun Dn σ H h => ?_
  refine (show tLc _ g _ _ _ σ H (fun x H1 => gName i x σ H1 Dn.nx) from tE_comp gok (kr ?_))
  obtain ⟨ρ, st, μ, r1, s1, a⟩ := h
  refine ⟨ρ, st, μ, r1, s1, ?_⟩
  refine (AfterG.bindS (Rl := fun μ H => DV (gx X T) μ H) a).mono fun x H1 q => ?_
  obtain ⟨d, st1, μ1, e1, s1, q1, a1⟩ := q
  exact a1 (σ.set i (some x)) μ1 H1 .refl s1 ((r1.ext e1).set q1 i)
end
end SL
set_option maxRecDepth 100000
set_option maxHeartbeats 2000000
/-! Layer S, operators by values. -/
namespace SL
open PySem PySem.Spec PyProof.Rows L2

/-! ### ints -/
def iop (C : Int → Int → Bool) (f : Int → Int → Int) : O2 := fun x y st => match x, y with
  | .int i, .int j => if C i j = true then .ok (.int (f i j)) st else .bad
  | _, _ => .bad
def icmp (f : Int → Int → Bool) : O2 := fun x y st => match x, y with
  | .int i, .int j => .ok (.bl (f i j)) st
  | _, _ => .bad
def cMul (i j : Int) : Bool := (decide (-(2 ^ 64) < i) && decide (i < 2 ^ 64)) || (decide (-(2 ^ 64) < j) && decide (j < 2 ^ 64))
def cDiv (_ j : Int) : Bool := decide (0 < j) && decide (j < 1073741824)
def cMod (_ j : Int) : Bool := decide (0 < j)
def cPow (i j : Int) : Bool := decide (0 ≤ j) && decide (j ≤ 1000000) && decide (i.natAbs < 2 ^ 64)
section
variable {X : Cx} {T : Tab} {E : XK} {pos : Pos}
theorem opR_iop {f : Value → Value → Sem Value} {C : Int → Int → Prop} {h : Int → Int → Int} {Cb : Int → Int → Bool} (hC : ∀ i j, Cb i j = true → C i j) (o : OpR X f (rI C fun i j => .int (h i j))) : OpR X f (rD2 (gx X T) E (iop Cb h)) := by
  intro pins s σ H x y v u Q I rx ry q
  obtain ⟨d1, d2, st, μ, s1, q1, q2, a⟩ := q
  cases d1 with
  | int i =>
    cases d2 with
    | int j =>
      cases q1
      cases q2
      by_cases c : Cb i j = true
      · simp only [iop, if_pos c] at a
        exact o pins s σ H _ _ v u Q I rx ry ⟨i, j, rfl, rfl, hC i j c, a.now s1 (.int _)⟩
      · simp only [iop, if_neg c] at a
        exact a.elim
    | _ => exact a.elim
  | _ => cases d2 <;> exact a.elim
theorem opR_icmp {f : Value → Value → Sem Value} {h : Int → Int → Bool} (o : OpR X f (rI0 fun i j => .bl (h i j))) : OpR X f (rD2 (gx X T) E (icmp h)) := by
  intro pins s σ H x y v u Q I rx ry q
  obtain ⟨d1, d2, st, μ, s1, q1, q2, a⟩ := q
  cases d1 with
  | int i =>
    cases d2 with
    | int j =>
      cases q1
      cases q2
      exact o pins s σ H _ _ v u Q I rx ry ⟨i, j, rfl, rfl, a.now s1 (.bl _)⟩
    | _ => exact a.elim
  | _ => cases d2 <;> exact a.elim
theorem opR_iop0 {f : Value → Value → Sem Value} {h : Int → Int → Int} (o : OpR X f (rI0 fun i j => .int (h i j))) : OpR X f (rD2 (gx X T) E (iop (fun _ _ => true) h)) := by
  intro pins s σ H x y v u Q I rx ry q
  obtain ⟨d1, d2, st, μ, s1, q1, q2, a⟩ := q
  cases d1 with
  | int i =>
    cases d2 with
    | int j =>
      cases q1
      cases q2
      exact o pins s σ H _ _ v u Q I rx ry ⟨i, j, rfl, rfl, AfterG.now (d := D.int (h i j)) a s1 (.int _)⟩
    | _ => exact a.elim
  | _ => cases d2 <;> exact a.elim
def opSub : O2 := iop (fun _ _ => true) fun i j => i - j
def opDiv : O2 := iop cDiv fun i j => i / j
def opMod : O2 := iop cMod fun i j => i % j
def opPow : O2 := iop cPow fun i j => i ^ j.toNat
def opShl : O2 := iop cPow fun i j => i * 2 ^ j.toNat
def opXor : O2 := iop (fun _ _ => true) fun i j => Builtin.bitXor i j
theorem cPow_ok {i j : Int} (h : cPow i j = true) : CPow i j := by
  simp only [cPow, Bool.and_eq_true, decide_eq_true_eq] at h
  exact ⟨h.1.1, h.1.2, h.2⟩
theorem o_sub : OpR X (binaryOp .Sub) (rD2 (gx X T) E opSub) := opR_iop0 op_sub
theorem o_xor : OpR X (binaryOp .BitXor) (rD2 (gx X T) E opXor) := opR_iop0 op_xor
theorem o_div : OpR X (binaryOp .FloorDiv) (rD2 (gx X T) E opDiv) := opR_iop (fun i j h => by
  simp only [cDiv, Bool.and_eq_true, decide_eq_true_eq] at h
  exact h) op_fdiv
theorem o_mod : OpR X (binaryOp .Mod) (rD2 (gx X T) E opMod) := opR_iop (C := fun _ j => 0 < j) (fun i j h => by simpa [cMod] using h) op_mod
theorem o_pow : OpR X (binaryOp .Pow) (rD2 (gx X T) E opPow) := opR_iop (fun i j h => cPow_ok h) op_pow
theorem o_shl : OpR X (binaryOp .LShift) (rD2 (gx X T) E opShl) := opR_iop (fun i j h => cPow_ok h) op_shl
def opLtI : O2 := icmp fun i j => decide (i < j)
def opLeI : O2 := icmp fun i j => decide (i ≤ j)
def opGtI : O2 := icmp fun i j => decide (j < i)
def opGeI : O2 := icmp fun i j => decide (j ≤ i)
theorem o_ltI : OpR X (compareOp .Lt) (rD2 (gx X T) E opLtI) := opR_icmp op_lt
theorem o_leI : OpR X (compareOp .LtE) (rD2 (gx X T) E opLeI) := opR_icmp op_le
theorem o_gtI : OpR X (compareOp .Gt) (rD2 (gx X T) E opGtI) := opR_icmp op_gt
theorem o_geI : OpR X (compareOp .GtE) (rD2 (gx X T) E opGeI) := opR_icmp op_ge

/-! ### is, is not -/
/-- is None (the right side written) -/
def opIsN : O2 := fun x y st => match y with
  | .non => .ok (.bl (match x with
    | .non => true
    | _ => false)) st
  | _ => .bad
def opNotN : O2 := fun x y st => match y with
  | .non => .ok (.bl (match x with
    | .non => false
    | _ => true)) st
  | _ => .bad
def isNon : D → Bool
  | .non => true
  | _ => false
theorem dv_non {g : Gx} {μ : List Addr} {H : Hp} {x : V} {d : D} (h : DV g μ H x d) : decide (x = V.non) = isNon d := by
  cases h <;> simp [isNon]
theorem o_isN : OpR X (compareOp .Is) (rD2 (gx X T) E opIsN) := by
  intro pins s σ H x y v u Q I rx ry q
  obtain ⟨d1, d2, st, μ, s1, q1, q2, a⟩ := q
  cases d2 with
  | non =>
    cases q2
    have z := dv_non q1
    refine op_isN pins s σ H x _ v u Q I rx ry ⟨rfl, ?_⟩
    rw [z]
    have a' := AfterG.now a s1 (.bl _)
    cases d1 <;> exact a'
  | _ => exact a.elim
theorem o_notN : OpR X (compareOp .IsNot) (rD2 (gx X T) E opNotN) := by
  intro pins s σ H x y v u Q I rx ry q
  obtain ⟨d1, d2, st, μ, s1, q1, q2, a⟩ := q
  cases d2 with
  | non =>
    cases q2
    have z := dv_non q1
    refine op_notN pins s σ H x _ v u Q I rx ry ⟨rfl, ?_⟩
    rw [z]
    have a' := AfterG.now a s1 (.bl _)
    cases d1 <;> exact a'
  | _ => exact a.elim

/-! ### == of data -/
/-- as data, the refs looked up -/
def pyD (st : Store) (d : D) : Option PyData := (fzD (rfK st 0 6) d).bind toPy
section
variable {g : Gx} {μ : List Addr} {H : Hp}
mutual
theorem dp_of (hμ : μ = []) : ∀ {d : D} {v : V} {p : PyData}, DV g μ H v d → toPy d = some p → Dp g.K H v p
  | .non, _, _, h, e => by cases h; simp [toPy] at e; subst e; exact .non
  | .bl _, _, _, h, e => by cases h; simp [toPy] at e; subst e; exact .bl _
  | .int _, _, _, h, e => by cases h; simp [toPy] at e; subst e; exact .int _
  | .str _, _, _, h, e => by cases h; simp [toPy] at e; subst e; exact .str _
  | .tup ds, _, p, h, e => by
    cases q : toPyL ds with
    | none => simp [toPy, q] at e
    | some ps =>
      simp [toPy, q] at e; subst e
      cases h with | tup h1 h2 => exact .tup h1.sq (dps_of hμ h2 q)
  | .lst ds, _, p, h, e => by
    cases q : toPyL ds with
    | none => simp [toPy, q] at e
    | some ps =>
      simp [toPy, q] at e; subst e
      cases h with | lst h1 n h2 => exact .lst (.inl h1) (dps_of hμ h2 q)
  | .dic _ _, _, _, _, e => by simp [toPy] at e
  | .obj _ _, _, _, _, e => by simp [toPy] at e
  | .exc _ _, _, _, _, e => by simp [toPy] at e
  | .fn _, _, _, _, e => by simp [toPy] at e
  | .ref _, _, _, _, e => by simp [toPy] at e
theorem dps_of (hμ : μ = []) : ∀ {ds : List D} {vs : List V} {ps : List PyData}, DVs g μ H vs ds → toPyL ds = some ps → DpAll g.K H vs ps
  | [], _, _, h, e => by cases h; simp [toPyL] at e; subst e; exact .nil
  | d :: ds, _, ps, h, e => by
    cases h with
    | cons h1 h2 =>
      cases q : toPy d with
      | none => simp [toPyL, q] at e
      | some p =>
        cases q2 : toPyL ds with
        | none => simp [toPyL, q, q2] at e
        | some ps2 =>
          simp [toPyL, q, q2] at e; subst e
          exact .cons (dp_of hμ h1 q) (dps_of hμ h2 q2)
end
theorem pyD_ok {st : Store} {d : D} {v : V} {p : PyData} (S : Sto g μ H st) (h : DV g μ H v d) (e : pyD st d = some p) : Dp g.K H v p := by
  unfold pyD at e
  cases q : fzD (rfK st 0 6) d with
  | none => simp [q] at e
  | some d' =>
    rw [q] at e
    have h2 := fzD_ok (n := 0) (rfK_ok S 6) q h
    exact dp_of (by simp) h2 (by simpa using e)
end
def dEq (st : Store) (x y : D) : Option Bool := match pyD st x, pyD st y with
  | some p, some q => if SeqAt.shaped p = true ∧ SeqAt.shaped q = true then some (PyData.eqv p q) else none
  | _, _ => none
def opEq : O2 := fun x y st => match dEq st x y with
  | some b => .ok (.bl b) st
  | none => .bad
def opNe : O2 := fun x y st => match dEq st x y with
  | some b => .ok (.bl (!b)) st
  | none => .bad
theorem dEq_ok {g : Gx} {μ : List Addr} {H : Hp} {st : Store} {d1 d2 : D} {x y : V} {b : Bool} (S : Sto g μ H st) (h1 : DV g μ H x d1) (h2 : DV g μ H y d2) (e : dEq st d1 d2 = some b) :
    ∃ p q, Dp g.K H x p ∧ Dp g.K H y q ∧ SeqAt.shaped p = true ∧ SeqAt.shaped q = true ∧ PyData.eqv p q = b := by
  unfold dEq at e
  cases e1 : pyD st d1 with
  | none => simp [e1] at e
  | some p =>
    cases e2 : pyD st d2 with
    | none => simp [e1, e2] at e
    | some q =>
      simp only [e1, e2] at e
      by_cases c : SeqAt.shaped p = true ∧ SeqAt.shaped q = true
      · rw [if_pos c] at e
        exact ⟨p, q, pyD_ok S h1 e1, pyD_ok S h2 e2, c.1, c.2, by simpa using e⟩
      · rw [if_neg c] at e; cases e
theorem o_eq (hu : X.A.units + 64 < cLine) : OpR X (compareOp .Eq) (rD2 (gx X T) E opEq) := by
  intro pins s σ H x y v u Q I rx ry q
  obtain ⟨d1, d2, st, μ, s1, q1, q2, a⟩ := q
  unfold opEq at a
  cases e : dEq st d1 d2 with
  | none => rw [e] at a; exact a.elim
  | some b =>
    rw [e] at a
    obtain ⟨p, q, h1, h2, c1, c2, rfl⟩ := dEq_ok s1 q1 q2 e
    exact op_eqD hu pins s σ H x y v u Q I rx ry ⟨p, q, h1, h2, c1, c2, a.now s1 (.bl _)⟩
theorem o_ne (hu : X.A.units + 64 < cLine) : OpR X (compareOp .NotEq) (rD2 (gx X T) E opNe) := by
  intro pins s σ H x y v u Q I rx ry q
  obtain ⟨d1, d2, st, μ, s1, q1, q2, a⟩ := q
  unfold opNe at a
  cases e : dEq st d1 d2 with
  | none => rw [e] at a; exact a.elim
  | some b =>
    rw [e] at a
    obtain ⟨p, q, h1, h2, c1, c2, rfl⟩ := dEq_ok s1 q1 q2 e
    exact op_neD hu pins s σ H x y v u Q I rx ry ⟨p, q, h1, h2, c1, c2, a.now s1 (.bl _)⟩
/-! ### x in a list, a tuple -/
def dIn (st : Store) (x y : D) : Option Bool := match pyD st x, pyD st y with
  | some p, some (.list qs) => if SeqAt.shaped p = true ∧ SeqAt.shaped (.list qs) = true then some (qs.any fun z => PyData.eqv z p) else none
  | some p, some (.tuple qs) => if SeqAt.shaped p = true ∧ SeqAt.shaped (.list qs) = true then some (qs.any fun z => PyData.eqv z p) else none
  | _, _ => none
theorem dIn_ok {g : Gx} {μ : List Addr} {H : Hp} {st : Store} {d1 d2 : D} {x y : V} {b : Bool} (S : Sto g μ H st) (h1 : DV g μ H x d1) (h2 : DV g μ H y d2) (e : dIn st d1 d2 = some b) :
    ∃ p qs, Dp g.K H x p ∧ (Dp g.K H y (.list qs) ∨ Dp g.K H y (.tuple qs)) ∧ SeqAt.shaped p = true ∧ SeqAt.shaped (.list qs) = true ∧ (qs.any fun z => PyData.eqv z p) = b := by
  unfold dIn at e
  cases e1 : pyD st d1 with
  | none => simp [e1] at e
  | some p =>
    cases e2 : pyD st d2 with
    | none => simp [e1, e2] at e
    | some q =>
      cases q with
      | list qs =>
        simp only [e1, e2] at e
        by_cases c : SeqAt.shaped p = true ∧ SeqAt.shaped (.list qs) = true
        · rw [if_pos c] at e
          exact ⟨p, qs, pyD_ok S h1 e1, .inl (pyD_ok S h2 e2), c.1, c.2, by simpa using e⟩
        · rw [if_neg c] at e; cases e
      | tuple qs =>
        simp only [e1, e2] at e
        by_cases c : SeqAt.shaped p = true ∧ SeqAt.shaped (.list qs) = true
        · rw [if_pos c] at e
          exact ⟨p, qs, pyD_ok S h1 e1, .inr (pyD_ok S h2 e2), c.1, c.2, by simpa using e⟩
        · rw [if_neg c] at e; cases e
      | _ => simp [e1, e2] at e
theorem in_room {d : PyData} {n : Nat} (h : SeqAt.shaped d = true) (hu : X.A.units + 65 < cLine) : X.A.units + 1 + min n d.depth < cLine := by
  have h1 := SeqAt.depth_of_shaped h
  have h2 : min n d.depth ≤ d.depth := Nat.min_le_right _ _
  omega
theorem opIn_seq (hu : X.A.units + 65 < cLine) {pins : List (Addr × Obj)} {s : Shared} {σ : L2.St} {H : Hp} {x y : V} {v u : Value} {Q : VK} {st : Store} {μ : List Addr} {d1 d2 : D} {b : Bool} (I : Inv X pins σ H s) (rx : RelV x v) (ry : RelV y u)
    (s1 : Sto (gx X T) μ H st) (q1 : DV (gx X T) μ H x d1) (q2 : DV (gx X T) μ H y d2) (e : dIn st d1 d2 = some b) (q : Q (.bl b) H) : wpAny (model X.prog X.w) X.A (compareOp .In v u) (EP X pins σ Q) X.xe s := by
  obtain ⟨p, qs, h1, h2, c1, c2, rfl⟩ := dIn_ok s1 q1 q2 e
  obtain ⟨as, r1⟩ := Dp.reads I _ x v h1 rx
  have cl := SeqAt.canLay_of_shaped c2
  rcases h2 with h2 | h2
  · obtain ⟨bs, r2⟩ := Dp.reads I _ y u h2 ry
    exact SeqAt.in_list_reads r2 r1 cl (SeqAt.canLay_of_shaped c1) (in_room c1 hu) ⟨.bl _, H, I, rfl, q⟩
  · obtain ⟨bs, r2⟩ := Dp.reads I _ y u h2 ry
    exact SeqAt.in_tuple_reads r2 r1 cl (SeqAt.canLay_of_shaped c1) (in_room c1 hu) ⟨.bl _, H, I, rfl, q⟩
theorem opNotIn_seq (hu : X.A.units + 65 < cLine) {pins : List (Addr × Obj)} {s : Shared} {σ : L2.St} {H : Hp} {x y : V} {v u : Value} {Q : VK} {st : Store} {μ : List Addr} {d1 d2 : D} {b : Bool} (I : Inv X pins σ H s) (rx : RelV x v) (ry : RelV y u)
    (s1 : Sto (gx X T) μ H st) (q1 : DV (gx X T) μ H x d1) (q2 : DV (gx X T) μ H y d2) (e : dIn st d1 d2 = some b) (q : Q (.bl (!b)) H) : wpAny (model X.prog X.w) X.A (compareOp .NotIn v u) (EP X pins σ Q) X.xe s := by
  obtain ⟨p, qs, h1, h2, c1, c2, rfl⟩ := dIn_ok s1 q1 q2 e
  obtain ⟨as, r1⟩ := Dp.reads I _ x v h1 rx
  have cl := SeqAt.canLay_of_shaped c2
  rcases h2 with h2 | h2
  · obtain ⟨bs, r2⟩ := Dp.reads I _ y u h2 ry
    exact SeqAt.notIn_list_reads r2 r1 cl (SeqAt.canLay_of_shaped c1) (in_room c1 hu) ⟨.bl _, H, I, rfl, q⟩
  · obtain ⟨bs, r2⟩ := Dp.reads I _ y u h2 ry
    exact SeqAt.notIn_tuple_reads r2 r1 cl (SeqAt.canLay_of_shaped c1) (in_room c1 hu) ⟨.bl _, H, I, rfl, q⟩
end
end SL
set_option maxRecDepth 100000
set_option maxHeartbeats 2000000
/-! Layer S, dicts. -/
namespace SL
open PySem PySem.Spec PyProof.Rows L2

def DicAt (g : Gx) (μ : List Addr) (H : Hp) (a : Addr) (t : Bool) (kvs : List (D × D)) : Prop :=
  ∃ o es ep, H a = some (dO a o) ∧ o.ExactDict ∧ o.data = .dict es ep ∧ (a == sysModules) = false ∧ Ents g μ H t es.toList kvs
/-- a look-up, by the key -/
def dLook (kvs : List (D × D)) (k : NestedKey) : Option D := (kvs.find? fun p => decide (keyOf p.1 = some k)).map (·.2)
def dSet (kvs : List (D × D)) (kd : D) (k : NestedKey) (vd : D) : List (D × D) :=
  if (dLook kvs k).isSome = true then kvs.map (fun p => if keyOf p.1 = some k then (p.1, vd) else p) else kvs ++ [(kd, vd)]
/-- the key that d is in a dict of kind t -/
def dKey (t : Bool) (d : D) : Option NestedKey := if keyKind t d = true then match keyOf d with
  | some k => if k.depth ≤ 8 then some k else none
  | none => none else none
theorem dKey_ok {t : Bool} {d : D} {k : NestedKey} (h : dKey t d = some k) : keyKind t d = true ∧ keyOf d = some k ∧ k.depth ≤ 8 := by
  unfold dKey at h
  by_cases c : keyKind t d = true
  · rw [if_pos c] at h
    cases e : keyOf d with
    | none => rw [e] at h; cases h
    | some k2 =>
      rw [e] at h
      by_cases c2 : k2.depth ≤ 8
      · simp only [if_pos c2, Option.some.injEq] at h
        subst h
        exact ⟨c, rfl, c2⟩
      · simp [if_neg c2] at h
  · rw [if_neg c] at h; cases h

/-! ### keys that are tuples -/
inductive ER (g : Gx) (μ : List Addr) (H : Hp) : List (NestedKey × Addr × Value) → List (D × D) → Prop
  | nil : ER g μ H [] []
  | cons {k b u xs kd vv vd kvs} : keyOf kd = some k → k.depth ≤ 8 → isTup kd = true → DV g μ H (.ref b) kd → RelV vv u → DV g μ H vv vd → ER g μ H xs kvs → ER g μ H ((k, b, u) :: xs) ((kd, vd) :: kvs)
section
variable {g : Gx} {μ : List Addr} {H : Hp}
theorem ER.ext {μ' : List Addr} {H' : Hp} (e : Ext μ H μ' H') {xs : List (NestedKey × Addr × Value)} {kvs : List (D × D)} (h : ER g μ H xs kvs) : ER g μ' H' xs kvs := by
  induction h with
  | nil => exact .nil
  | cons h1 h2 h3 h4 h5 h6 _ ih => exact .cons h1 h2 h3 (h4.ext e) h5 (h6.ext e) ih
theorem ER.length {xs : List (NestedKey × Addr × Value)} {kvs : List (D × D)} (h : ER g μ H xs kvs) : xs.length = kvs.length := by
  induction h with
  | nil => rfl
  | cons _ _ _ _ _ _ _ ih => simp [ih]
theorem ER.keys {xs : List (NestedKey × Addr × Value)} {kvs : List (D × D)} (h : ER g μ H xs kvs) : xs.map (fun x => some x.1) = kvs.map fun p => keyOf p.1 := by
  induction h with
  | nil => rfl
  | cons h1 _ _ _ _ _ _ ih => simp [h1, ih]
theorem ER.look {xs : List (NestedKey × Addr × Value)} {kvs : List (D × D)} (h : ER g μ H xs kvs) (k : NestedKey) : (atKey xs k = none ∧ dLook kvs k = none) ∨
    ∃ b u vv vd, atKey xs k = some (b, u) ∧ dLook kvs k = some vd ∧ RelV vv u ∧ DV g μ H vv vd := by
  induction h with
  | nil => exact .inl ⟨rfl, rfl⟩
  | cons h1 h2 h3 h4 h5 h6 h7 ih =>
    rename_i k2 b u xs kd vv vd kvs
    by_cases e : k2 = k
    · subst e
      refine .inr ⟨b, u, vv, vd, ?_, ?_, h5, h6⟩
      · simp [atKey]
      · simp [dLook, h1]
    · have e1 : atKey ((k2, b, u) :: xs) k = atKey xs k := by simp [atKey, List.find?_cons, e]
      have e2 : dLook ((kd, vd) :: kvs) k = dLook kvs k := by simp [dLook, List.find?_cons, h1, e]
      rw [e1, e2]
      exact ih
theorem ER.map {xs : List (NestedKey × Addr × Value)} {kvs : List (D × D)} (h : ER g μ H xs kvs) (k : NestedKey) {u : Value} {vv : V} {vd : D} (r : RelV vv u) (q : DV g μ H vv vd) : ER g μ H (xs.map (putAt k u)) (kvs.map fun p => if keyOf p.1 = some k then (p.1, vd) else p) := by
  induction h with
  | nil => exact .nil
  | cons h1 h2 h3 h4 h5 h6 h7 ih =>
    rename_i k2 b u2 xs kd vv2 vd2 kvs
    rw [List.map_cons, List.map_cons]
    by_cases e : k2 = k
    · have e2 : keyOf kd = some k := by rw [h1, e]
      rw [putAt, if_pos e, if_pos e2]
      exact .cons h1 h2 h3 h4 r q ih
    · have e2 : ¬ keyOf kd = some k := by rw [h1]; simpa using e
      rw [putAt, if_neg e, if_neg e2]
      exact .cons h1 h2 h3 h4 h5 h6 ih
theorem ER.snoc {xs : List (NestedKey × Addr × Value)} {kvs : List (D × D)} (h : ER g μ H xs kvs) {k : NestedKey} {b : Addr} {u : Value} {kd vd : D} {vv : V} (h1 : keyOf kd = some k) (h2 : k.depth ≤ 8) (h3 : isTup kd = true) (h4 : DV g μ H (.ref b) kd)
    (h5 : RelV vv u) (h6 : DV g μ H vv vd) : ER g μ H (xs ++ [(k, b, u)]) (kvs ++ [(kd, vd)]) := by
  induction h with
  | nil => exact .cons h1 h2 h3 h4 h5 h6 .nil
  | cons a1 a2 a3 a4 a5 a6 _ ih => exact .cons a1 a2 a3 a4 a5 a6 ih
theorem ER.set {xs : List (NestedKey × Addr × Value)} {kvs : List (D × D)} (h : ER g μ H xs kvs) {k : NestedKey} {b : Addr} {u : Value} {kd vd : D} {vv : V} (h1 : keyOf kd = some k) (h2 : k.depth ≤ 8) (h3 : isTup kd = true) (h4 : DV g μ H (.ref b) kd)
    (h5 : RelV vv u) (h6 : DV g μ H vv vd) : ER g μ H (storedH xs k b u) (dSet kvs kd k vd) := by
  unfold storedH dSet
  rcases h.look k with ⟨e1, e2⟩ | ⟨b2, u2, vv2, vd2, e1, e2, _, _⟩
  · rw [e1, e2]
    simp only [Option.isSome_none, Bool.false_eq_true, if_false]
    exact h.snoc h1 h2 h3 h4 h5 h6
  · rw [e1, e2]
    simp only [Option.isSome_some, if_true]
    exact h.map k h5 h6
end
theorem length_dSet (kvs : List (D × D)) (kd : D) (k : NestedKey) (vd : D) : (dSet kvs kd k vd).length ≤ kvs.length + 1 := by
  unfold dSet
  split <;> simp
section
variable {X : Cx} {T : Tab} {pins : List (Addr × Obj)} {σ : L2.St} {H : Hp} {s : Shared} {μ : List Addr}
mutual
theorem nested_of (I : Inv X pins σ H s) : ∀ {d : D} {k : NestedKey} {v : V} {u : Value}, keyOf d = some k → DV (gx X T) μ H v d → RelV v u → NestedIs s.heap k u
  | .non, k, _, _, e, h, r => by cases h; simp [keyOf] at e; subst e; cases r; exact .none
  | .bl b, k, _, _, e, h, r => by cases h; simp [keyOf] at e; subst e; cases r; exact .bool rfl
  | .int i, k, _, _, e, h, r => by cases h; simp [keyOf] at e; subst e; obtain ⟨t, rfl⟩ := r; exact .int i t
  | .str x, k, _, _, e, h, r => by cases h; simp [keyOf] at e; subst e; obtain ⟨t, rfl⟩ := r; exact .text x t
  | .tup ds, k, _, _, e, h, r => by
    cases q : keyOfL ds with
    | none => simp [keyOf, q] at e
    | some ks =>
      simp [keyOf, q] at e; subst e
      cases h with
      | tup h1 h2 =>
        cases r
        obtain ⟨its, rv, ⟨o, ho, hc, n, hd⟩, _⟩ := I.tuple h1.sq
        exact .tup ho hc hd (nesteds_of I q h2 rv)
  | .lst _, _, _, _, e, _, _ => by simp [keyOf] at e
  | .dic _ _, _, _, _, e, _, _ => by simp [keyOf] at e
  | .obj _ _, _, _, _, e, _, _ => by simp [keyOf] at e
  | .exc _ _, _, _, _, e, _, _ => by simp [keyOf] at e
  | .fn _, _, _, _, e, _, _ => by simp [keyOf] at e
  | .ref _, _, _, _, e, _, _ => by simp [keyOf] at e
theorem nesteds_of (I : Inv X pins σ H s) : ∀ {ds : List D} {ks : List NestedKey} {vs : List V} {us : List Value}, keyOfL ds = some ks → DVs (gx X T) μ H vs ds → Vals vs us → NestedAll s.heap ks us
  | [], ks, _, _, e, h, r => by cases h; simp [keyOfL] at e; subst e; cases r; exact .nil
  | d :: ds, ks, _, _, e, h, r => by
    cases h with
    | cons h1 h2 =>
      cases r with
      | cons r1 r2 =>
        cases q : keyOf d with
        | none => simp [keyOfL, q] at e
        | some k =>
          cases q2 : keyOfL ds with
          | none => simp [keyOfL, q, q2] at e
          | some ks2 =>
            simp [keyOfL, q, q2] at e; subst e
            exact .cons (nested_of I q h1 r1) (nesteds_of I q2 h2 r2)
end
theorem tup_ref {g : Gx} {v : V} {d : D} (h : DV g μ H v d) (e : isTup d = true) : ∃ b, v = .ref b := by
  cases h <;> simp [isTup] at e
  exact ⟨_, rfl⟩
theorem ents_T (I : Inv X pins σ H s) : ∀ {es : List DictEntry} {kvs : List (D × D)}, Ents (gx X T) μ H true es kvs →
    ∃ xs : List (NestedKey × Addr × Value), es = xs.map (entryOfKey (nestedKind X.prog X.w)) ∧ (∀ x ∈ xs, (nestedKind X.prog X.w).is s.heap x.1 x.2.1) ∧ ER (gx X T) μ H xs kvs ∧ (xs.map (·.1)).Nodup
  | _, [], h => by cases h; exact ⟨[], rfl, by simp, .nil, by simp⟩
  | _, (kd, vd) :: kvs, h => by
    cases h with
    | cons h1 h2 h3 h4 h5 h6 h7 h8 h9 h10 h11 =>
      rename_i e es kv vv nk
      obtain ⟨xs, e1, e2, e3, e4⟩ := ents_T I h11
      have h3' : isTup kd = true := by simpa [keyKind] using h3
      obtain ⟨b, rfl⟩ := tup_ref h2 h3'
      refine ⟨(nk, b, e.val) :: xs, ?_, fun x hx => ?_, .cons h4 h5 h3' h2 h7 h8 e3, ?_⟩
      · rw [List.map_cons, ← e1]
        have ek : e.key = .ref b := h1
        obtain ⟨eh, ekk, ev⟩ := e
        simp only [entryOfKey] at *
        subst ek
        rw [h6]
        rfl
      · rcases List.mem_cons.mp hx with q | q
        · subst q
          refine ⟨?_, h5⟩
          exact nested_of I h4 h2 rfl
        · exact e2 x q
      · rw [List.map_cons, List.nodup_cons]
        refine ⟨fun hm => ?_, e4⟩
        obtain ⟨x, hx, e⟩ := List.mem_map.mp hm
        have : some x.1 ∈ kvs.map (fun p => keyOf p.1) := by
          rw [← e3.keys]
          exact List.mem_map_of_mem (f := fun x => some x.1) hx
        obtain ⟨p, hp, e2⟩ := List.mem_map.mp this
        exact h9 p hp (by rw [e2, e])
theorem ents_ofT {g : Gx} {prog : Program} : ∀ {xs : List (NestedKey × Addr × Value)} {kvs : List (D × D)}, ER g μ H xs kvs → (xs.map (·.1)).Nodup → kvs.length ≤ sizeLine → Ents g μ H true (xs.map (entryOfKey (nestedKind prog g.w))) kvs
  | _, _, .nil, _, _ => .nil
  | _, _, .cons (k := k) (b := b) (u := u) (xs := xs) (kvs := kvs) h1 h2 h3 h4 h5 h6 h7, hn, hl => by
    rw [List.map_cons, List.nodup_cons] at hn
    have hl' : kvs.length + 1 ≤ sizeLine := by simpa using hl
    refine Ents.cons (kv := .ref b) rfl h4 (by simpa [keyKind] using h3) h1 h2 rfl h5 h6 (fun p hp e => ?_) hl' (ents_ofT h7 hn.2 (by omega))
    have : some k ∈ xs.map (fun x => some x.1) := by
      rw [h7.keys]
      exact List.mem_map.mpr ⟨p, hp, e⟩
    obtain ⟨x, hx, e2⟩ := List.mem_map.mp this
    exact hn.1 (List.mem_map.mpr ⟨x, hx, by simpa using e2⟩)
end

/-! ### keys that are ints, texts -/
def ofK : Key → D
  | .inl i => .int i
  | .inr x => .str x
def nkK : Key → NestedKey
  | .inl i => .num i
  | .inr x => .text x
theorem keyOf_ofK (k : Key) : keyOf (ofK k) = some (nkK k) := by cases k <;> rfl
theorem nkK_inj {a b : Key} (h : nkK a = nkK b) : a = b := by
  cases a <;> cases b <;> simp [nkK] at h <;> rw [h]
theorem leaf_key {d : D} (h : isLeaf d = true) : ∃ k, d = ofK k := by
  cases d <;> simp [isLeaf] at h
  · exact ⟨.inl _, rfl⟩
  · exact ⟨.inr _, rfl⟩
theorem leaf_ofK (k : Key) : isLeaf (ofK k) = true := by cases k <;> rfl
theorem dv_ofK {g : Gx} {μ : List Addr} {H : Hp} {v : V} {k : Key} (h : DV g μ H v (ofK k)) : v = kV k := by
  cases k <;> cases h <;> rfl
theorem ofK_dv {g : Gx} {μ : List Addr} {H : Hp} (k : Key) : DV g μ H (kV k) (ofK k) := by
  cases k
  · exact .int _
  · exact .str _
inductive EK (g : Gx) (μ : List Addr) (H : Hp) : List (Key × Value) → List (D × D) → Prop
  | nil : EK g μ H [] []
  | cons {k u xs vv vd kvs} : RelV vv u → DV g μ H vv vd → EK g μ H xs kvs → EK g μ H ((k, u) :: xs) ((ofK k, vd) :: kvs)
section
variable {g : Gx} {μ : List Addr} {H : Hp}
theorem EK.ext {μ' : List Addr} {H' : Hp} (e : Ext μ H μ' H') {xs : List (Key × Value)} {kvs : List (D × D)} (h : EK g μ H xs kvs) : EK g μ' H' xs kvs := by
  induction h with
  | nil => exact .nil
  | cons h1 h2 _ ih => exact .cons h1 (h2.ext e) ih
theorem EK.length {xs : List (Key × Value)} {kvs : List (D × D)} (h : EK g μ H xs kvs) : xs.length = kvs.length := by
  induction h with
  | nil => rfl
  | cons _ _ _ ih => simp [ih]
theorem EK.keys {xs : List (Key × Value)} {kvs : List (D × D)} (h : EK g μ H xs kvs) : xs.map (fun x => some (nkK x.1)) = kvs.map fun p => keyOf p.1 := by
  induction h with
  | nil => rfl
  | cons _ _ _ ih => simp [ih, keyOf_ofK]
theorem EK.look {xs : List (Key × Value)} {kvs : List (D × D)} (h : EK g μ H xs kvs) (k : Key) : (valueAt xs k = none ∧ dLook kvs (nkK k) = none) ∨
    ∃ u vv vd, valueAt xs k = some u ∧ dLook kvs (nkK k) = some vd ∧ RelV vv u ∧ DV g μ H vv vd := by
  induction h with
  | nil => exact .inl ⟨rfl, rfl⟩
  | cons h1 h2 h3 ih =>
    rename_i k2 u xs vv vd kvs
    by_cases e : k2 = k
    · subst e
      refine .inr ⟨u, vv, vd, ?_, ?_, h1, h2⟩
      · simp [valueAt]
      · simp [dLook, keyOf_ofK]
    · have e1 : valueAt ((k2, u) :: xs) k = valueAt xs k := by simp [valueAt, List.find?_cons, e]
      have e3 : ¬ nkK k2 = nkK k := fun z => e (nkK_inj z)
      have e2 : dLook ((ofK k2, vd) :: kvs) (nkK k) = dLook kvs (nkK k) := by simp [dLook, List.find?_cons, keyOf_ofK, e3]
      rw [e1, e2]
      exact ih
theorem EK.any {xs : List (Key × Value)} {kvs : List (D × D)} (h : EK g μ H xs kvs) (k : Key) : (xs.any fun kv => decide (kv.1 = k)) = (dLook kvs (nkK k)).isSome := by
  induction h with
  | nil => rfl
  | cons h1 h2 h3 ih =>
    rename_i k2 u xs vv vd kvs
    rw [List.any_cons]
    by_cases e : k2 = k
    · subst e
      simp [dLook, keyOf_ofK]
    · have e3 : ¬ nkK k2 = nkK k := fun z => e (nkK_inj z)
      have e2 : dLook ((ofK k2, vd) :: kvs) (nkK k) = dLook kvs (nkK k) := by simp [dLook, List.find?_cons, keyOf_ofK, e3]
      rw [e2, ih, decide_eq_false e]
      rfl
theorem EK.map {xs : List (Key × Value)} {kvs : List (D × D)} (h : EK g μ H xs kvs) (k : Key) {u : Value} {vv : V} {vd : D} (r : RelV vv u) (q : DV g μ H vv vd) :
    EK g μ H (xs.map fun kv => if kv.1 = k then (kv.1, u) else kv) (kvs.map fun p => if keyOf p.1 = some (nkK k) then (p.1, vd) else p) := by
  induction h with
  | nil => exact .nil
  | cons h1 h2 h3 ih =>
    rename_i k2 u2 xs vv2 vd2 kvs
    rw [List.map_cons, List.map_cons]
    by_cases e : k2 = k
    · subst e
      rw [if_pos rfl, if_pos (keyOf_ofK k2)]
      exact .cons r q ih
    · have e2 : ¬ keyOf (ofK k2) = some (nkK k) := by
        rw [keyOf_ofK]
        exact fun z => e (nkK_inj (Option.some.inj z))
      rw [if_neg e, if_neg e2]
      exact .cons h1 h2 ih
theorem EK.snoc {xs : List (Key × Value)} {kvs : List (D × D)} (h : EK g μ H xs kvs) {k : Key} {u : Value} {vd : D} {vv : V} (h5 : RelV vv u) (h6 : DV g μ H vv vd) : EK g μ H (xs ++ [(k, u)]) (kvs ++ [(ofK k, vd)]) := by
  induction h with
  | nil => exact .cons h5 h6 .nil
  | cons a1 a2 _ ih => exact .cons a1 a2 ih
theorem EK.set {xs : List (Key × Value)} {kvs : List (D × D)} (h : EK g μ H xs kvs) {k : Key} {u : Value} {vd : D} {vv : V} (h5 : RelV vv u) (h6 : DV g μ H vv vd) : EK g μ H (stored xs k u) (dSet kvs (ofK k) (nkK k) vd) := by
  unfold stored dSet
  rw [h.any k]
  by_cases c : (dLook kvs (nkK k)).isSome = true
  · rw [if_pos c, if_pos c]
    exact h.map k h5 h6
  · rw [if_neg c, if_neg c]
    exact h.snoc h5 h6
end
section
variable {P : Program} {g : Gx} {μ : List Addr} {H : Hp}
theorem ents_K : ∀ {es : List DictEntry} {kvs : List (D × D)}, Ents g μ H false es kvs →
    ∃ ks : List (Key × Value), (∀ e ∈ es, ∃ k, (mixKind P g.w).is k e.key = true ∧ e.hash = (mixKind P g.w).hash k) ∧ Pairs (mixKind P g.w) es ks ∧ EK g μ H ks kvs ∧ (ks.map (·.1)).Nodup
  | _, [], h => by cases h; exact ⟨[], by simp, .nil, .nil, by simp⟩
  | _, (kd, vd) :: kvs, h => by
    cases h with
    | cons h1 h2 h3 h4 h5 h6 h7 h8 h9 h10 h11 =>
      rename_i e es kv vv nk
      obtain ⟨ks, e1, e2, e3, e4⟩ := ents_K h11
      obtain ⟨k, rfl⟩ := leaf_key (show isLeaf kd = true by simpa [keyKind] using h3)
      have ev := dv_ofK h2
      subst ev
      have hk : (mixKind P g.w).is k e.key = true := kV_is h1
      have en : nk = nkK k := by
        rw [keyOf_ofK] at h4
        exact (Option.some.inj h4).symm
      subst en
      refine ⟨(k, e.val) :: ks, fun x hx => ?_, .cons hk rfl e2, .cons h7 h8 e3, ?_⟩
      · rcases List.mem_cons.mp hx with q | q
        · subst q
          exact ⟨k, hk, by rw [h6]; cases k <;> rfl⟩
        · exact e1 x q
      · rw [List.map_cons, List.nodup_cons]
        refine ⟨fun hm => ?_, e4⟩
        obtain ⟨x, hx, e⟩ := List.mem_map.mp hm
        have : some (nkK x.1) ∈ kvs.map (fun p => keyOf p.1) := by
          rw [← e3.keys]
          exact List.mem_map_of_mem (f := fun x => some (nkK x.1)) hx
        obtain ⟨p, hp, e2⟩ := List.mem_map.mp this
        exact h9 p hp (by rw [e2, e])
theorem ents_ofK : ∀ {es : List DictEntry} {ks : List (Key × Value)} {kvs : List (D × D)}, (∀ e ∈ es, ∃ k, (mixKind P g.w).is k e.key = true ∧ e.hash = (mixKind P g.w).hash k) → Pairs (mixKind P g.w) es ks → EK g μ H ks kvs → (ks.map (·.1)).Nodup → kvs.length ≤ sizeLine → Ents g μ H false es kvs := by
  intro es
  induction es with
  | nil =>
    intro ks kvs _ p h _ _
    cases p
    cases h
    exact .nil
  | cons e es ih =>
    intro ks kvs hk p h hn hl
    cases p with
    | cons p1 p2 p3 =>
      cases h with
      | cons h1 h2 h3 =>
        rename_i xs k u vv vd kvs
        rw [List.map_cons, List.nodup_cons] at hn
        have hl' : kvs.length + 1 ≤ sizeLine := by simpa using hl
        obtain ⟨k2, a1, a2⟩ := hk e List.mem_cons_self
        have ek : k2 = k := (mixKind P g.w).inj _ _ _ a1 p1
        subst ek
        have p2' : e.val = u := p2
        refine Ents.cons (kv := kV k2) ?_ (ofK_dv k2) (by simp [keyKind, leaf_ofK]) (keyOf_ofK k2) (by cases k2 <;> simp [nkK, NestedKey.depth]) (by rw [a2]; cases k2 <;> rfl) (by rw [p2']; exact h1) h2 (fun p hp e => ?_) hl'
          (ih (fun e he => hk e (List.mem_cons_of_mem _ he)) p3 h3 hn.2 (by omega))
        · rcases keyIs_shape (show keyIs k2 e.key = true from a1) with ⟨i, t, rfl, e1⟩ | ⟨x, t, rfl, e1⟩
          · rw [e1]; exact ⟨t, rfl⟩
          · rw [e1]; exact ⟨t, rfl⟩
        · have : some (nkK k2) ∈ xs.map (fun x => some (nkK x.1)) := by
            rw [h3.keys]
            exact List.mem_map.mpr ⟨p, hp, e⟩
          obtain ⟨x, hx, e2⟩ := List.mem_map.mp this
          exact hn.1 (List.mem_map.mpr ⟨x, hx, nkK_inj (by simpa using e2)⟩)
end

/-! ### the operations -/
section
variable {X : Cx} {T : Tab} {pins : List (Addr × Obj)} {σ : L2.St} {H : Hp} {s : Shared} {μ : List Addr} {a : Addr} {t : Bool} {kvs : List (D × D)} {kd : D} {k : NestedKey} {v : V} {u : Value} {A : Around} {E : Value → Shared → Prop}
theorem dO_at (I : Inv X pins σ H s) {o : Obj} (e : H a = some (dO a o)) : s.heap.get? a = some o := by
  have h : ObjOk X.prog X.w H s.heap a (.ext fun h => h.get? a = some o) := I.hok a _ e
  exact h.1
theorem nroom (hu : X.A.units + 65 < cLine) : (nestedKind X.prog X.w).room X.A.in1 := by
  show X.A.units + 1 + 8 < cLine
  omega
theorem dk_ref (h : DV (gx X T) μ H v kd) (hk : keyKind true kd = true) (r : RelV v u) (e : keyOf kd = some k) (hd : k.depth ≤ 8) (I : Inv X pins σ H s) : ∃ b, v = .ref b ∧ u = .ref b ∧ (nestedKind X.prog X.w).is s.heap k b := by
  obtain ⟨b, rfl⟩ := tup_ref h (by simpa [keyKind] using hk)
  cases r
  exact ⟨b, rfl, rfl, nested_of I e h rfl, hd⟩
/-- k in d -/
theorem dic_in (hu : X.A.units + 65 < cLine) (I : Inv X pins σ H s) (d : DicAt (gx X T) μ H a t kvs) (hk : dKey t kd = some k) (h : DV (gx X T) μ H v kd) (r : RelV v u) {Q : Value → Shared → Prop} (q : ∀ s', Inv X pins σ H s' → Q (.bool (dLook kvs k).isSome) s') :
    wpAny (model X.prog X.w) X.A (compareOp .In u (.ref a)) Q E s := by
  obtain ⟨o, es, ep, e1, e2, e3, e4, e5⟩ := d
  obtain ⟨k1, k2, k3⟩ := dKey_ok hk
  have ho := dO_at I e1
  cases t with
  | true =>
    obtain ⟨xs, x1, x2, x3, x4⟩ := ents_T I e5
    obtain ⟨b, rfl, rfl, kb⟩ := dk_ref h k1 r k2 k3 I
    refine wpAny_in_heap (knd := nestedKind X.prog X.w) (xs := xs) (nroom hu) kb e4 ⟨o, es, ep, ho, e2, e3, x1, x2, x4⟩ ?_
    rcases x3.look k with ⟨l1, l2⟩ | ⟨_, _, _, _, l1, l2, _⟩
    · rw [l1]; rw [l2] at q; exact q _ (I.tok _)
    · rw [l1]; rw [l2] at q; exact q _ (I.tok _)
  | false =>
    obtain ⟨ks, x1, x2, x3, x4⟩ := ents_K (P := X.prog) e5
    obtain ⟨kk, rfl⟩ := leaf_key (show isLeaf kd = true by simpa [keyKind] using k1)
    have ev := dv_ofK h
    subst ev
    rw [keyOf_ofK] at k2; cases k2
    have dd : s.heap.DictOf (mixKind X.prog X.w) a ks := ⟨o, es, ep, ho, e2, e3, fun e he => x1 e (by simpa using he), x2, x4⟩
    refine wpAny_in_of (kV_is r) e4 dd.mapOf ?_
    rcases x3.look kk with ⟨l1, l2⟩ | ⟨_, _, _, l1, l2, _⟩
    · rw [l1]; rw [l2] at q; exact q _ (I.tok _)
    · rw [l1]; rw [l2] at q; exact q _ (I.tok _)
theorem dic_notIn (hu : X.A.units + 65 < cLine) (I : Inv X pins σ H s) (d : DicAt (gx X T) μ H a t kvs) (hk : dKey t kd = some k) (h : DV (gx X T) μ H v kd) (r : RelV v u) {Q : Value → Shared → Prop} (q : ∀ s', Inv X pins σ H s' → Q (.bool (!(dLook kvs k).isSome)) s') :
    wpAny (model X.prog X.w) X.A (compareOp .NotIn u (.ref a)) Q E s := by
  obtain ⟨o, es, ep, e1, e2, e3, e4, e5⟩ := d
  obtain ⟨k1, k2, k3⟩ := dKey_ok hk
  have ho := dO_at I e1
  cases t with
  | true =>
    obtain ⟨xs, x1, x2, x3, x4⟩ := ents_T I e5
    obtain ⟨b, rfl, rfl, kb⟩ := dk_ref h k1 r k2 k3 I
    refine wpAny_notIn_heap (knd := nestedKind X.prog X.w) (xs := xs) (nroom hu) kb e4 ⟨o, es, ep, ho, e2, e3, x1, x2, x4⟩ ?_
    rcases x3.look k with ⟨l1, l2⟩ | ⟨_, _, _, _, l1, l2, _⟩
    · rw [l1]; rw [l2] at q; exact q _ (I.tok _)
    · rw [l1]; rw [l2] at q; exact q _ (I.tok _)
  | false =>
    obtain ⟨ks, x1, x2, x3, x4⟩ := ents_K (P := X.prog) e5
    obtain ⟨kk, rfl⟩ := leaf_key (show isLeaf kd = true by simpa [keyKind] using k1)
    have ev := dv_ofK h
    subst ev
    rw [keyOf_ofK] at k2; cases k2
    have dd : s.heap.DictOf (mixKind X.prog X.w) a ks := ⟨o, es, ep, ho, e2, e3, fun e he => x1 e (by simpa using he), x2, x4⟩
    refine wpAny_notIn_of (kV_is r) e4 dd.mapOf ?_
    rcases x3.look kk with ⟨l1, l2⟩ | ⟨_, _, _, l1, l2, _⟩
    · rw [l1]; rw [l2] at q; exact q _ (I.tok _)
    · rw [l1]; rw [l2] at q; exact q _ (I.tok _)
/-- d[k], there -/
theorem dic_get (hu : X.A.units + 65 < cLine) (I : Inv X pins σ H s) (d : DicAt (gx X T) μ H a t kvs) (hk : dKey t kd = some k) (h : DV (gx X T) μ H v kd) (r : RelV v u) {vd : D} (hv : dLook kvs k = some vd) {Q : Value → Shared → Prop}
    (q : ∀ vv w s', Inv X pins σ H s' → RelV vv w → DV (gx X T) μ H vv vd → Q w s') : wpAny (model X.prog X.w) X.A (getItem (.ref a) u) Q E s := by
  obtain ⟨o, es, ep, e1, e2, e3, e4, e5⟩ := d
  obtain ⟨k1, k2, k3⟩ := dKey_ok hk
  have ho := dO_at I e1
  cases t with
  | true =>
    obtain ⟨xs, x1, x2, x3, x4⟩ := ents_T I e5
    obtain ⟨b, rfl, rfl, kb⟩ := dk_ref h k1 r k2 k3 I
    rcases x3.look k with ⟨l1, l2⟩ | ⟨b2, u2, vv, vd2, l1, l2, l3, l4⟩
    · rw [hv] at l2; cases l2
    · rw [hv] at l2; cases l2
      exact wpAny_getItem_heap (knd := nestedKind X.prog X.w) (xs := xs) (nroom hu) kb ⟨o, es, ep, ho, e2, e3, x1, x2, x4⟩ l1 (q vv u2 _ (I.tok _) l3 l4)
  | false =>
    obtain ⟨ks, x1, x2, x3, x4⟩ := ents_K (P := X.prog) e5
    obtain ⟨kk, rfl⟩ := leaf_key (show isLeaf kd = true by simpa [keyKind] using k1)
    have ev := dv_ofK h
    subst ev
    rw [keyOf_ofK] at k2; cases k2
    have dd : s.heap.DictOf (mixKind X.prog X.w) a ks := ⟨o, es, ep, ho, e2, e3, fun e he => x1 e (by simpa using he), x2, x4⟩
    rcases x3.look kk with ⟨l1, l2⟩ | ⟨u2, vv, vd2, l1, l2, l3, l4⟩
    · rw [hv] at l2; cases l2
    · rw [hv] at l2; cases l2
      exact wpAny_getItem_of (kV_is r) dd.mapOf l1 (q vv u2 _ (I.tok _) l3 l4)
/-- d.get(k, x) -/
theorem dic_get2 (hu : X.A.units + 65 < cLine) (I : Inv X pins σ H s) (d : DicAt (gx X T) μ H a t kvs) (hk : dKey t kd = some k) (h : DV (gx X T) μ H v kd) (r : RelV v u) {xv : V} {xd : D} {xu : Value} (rx : RelV xv xu) (hx : DV (gx X T) μ H xv xd) {Q : Value → Shared → Prop}
    (q : ∀ vv w s', Inv X pins σ H s' → RelV vv w → DV (gx X T) μ H vv ((dLook kvs k).getD xd) → Q w s') : wpAny (model X.prog X.w) X.A (call (.builtin "dict.get") [.ref a, u, xu]) Q E s := by
  obtain ⟨o, es, ep, e1, e2, e3, e4, e5⟩ := d
  obtain ⟨k1, k2, k3⟩ := dKey_ok hk
  have ho := dO_at I e1
  cases t with
  | true =>
    obtain ⟨xs, x1, x2, x3, x4⟩ := ents_T I e5
    obtain ⟨b, rfl, rfl, kb⟩ := dk_ref h k1 r k2 k3 I
    have dd : s.heap.DictOfH (nestedKind X.prog X.w) a xs := ⟨o, es, ep, ho, e2, e3, x1, x2, x4⟩
    refine call_meetsIn PySem.F.slot_dict_get dd.typeIs PySem.F.entry_dict_get (PySem.F.args_dict_get_3 _ _ _) (meetsH_dict_get_default (nestedKind X.prog X.w) a b e4 xu) ⟨nroom hu, k, xs, kb, dd, ?_⟩
    rcases x3.look k with ⟨l1, l2⟩ | ⟨b2, u2, vv, vd2, l1, l2, l3, l4⟩
    · rw [l1]; rw [l2] at q; exact q xv xu _ (I.tok _) rx hx
    · rw [l1]; rw [l2] at q; exact q vv u2 _ (I.tok _) l3 l4
  | false =>
    obtain ⟨ks, x1, x2, x3, x4⟩ := ents_K (P := X.prog) e5
    obtain ⟨kk, rfl⟩ := leaf_key (show isLeaf kd = true by simpa [keyKind] using k1)
    have ev := dv_ofK h
    subst ev
    rw [keyOf_ofK] at k2; cases k2
    have dd : s.heap.DictOf (mixKind X.prog X.w) a ks := ⟨o, es, ep, ho, e2, e3, fun e he => x1 e (by simpa using he), x2, x4⟩
    refine call_meetsIn PySem.F.slot_dict_get dd.typeIs PySem.F.entry_dict_get (PySem.F.args_dict_get_3 _ _ _) (meets_dict_get_default (mixKind X.prog X.w) a (kV_is r) e4 xu) ⟨_, dd.mapOf, ?_⟩
    rcases x3.look kk with ⟨l1, l2⟩ | ⟨u2, vv, vd2, l1, l2, l3, l4⟩
    · rw [l1]; rw [l2] at q; exact q xv xu _ (I.tok _) rx hx
    · rw [l1]; rw [l2] at q; exact q vv u2 _ (I.tok _) l3 l4
/-- d[k] = v -/
theorem dic_set (hu : X.A.units + 65 < cLine) (I : Inv X pins σ H s) {n : Nat} {st : Store} (S : Sto (gx X T) μ H st) (hs : st[n]? = some (.dic t kvs)) (ha : μ[n]? = some a) (hk : dKey t kd = some k) (h : DV (gx X T) μ H v kd) (r : RelV v u) {vv : V} {vd : D} {vu : Value} (rv : RelV vv vu)
    (hv : DV (gx X T) μ H vv vd) (hl : kvs.length < sizeLine) {Q : Unit → Shared → Prop} (q : ∀ H' s', Inv X pins σ H' s' → Ext μ H μ H' → Sto (gx X T) μ H' (st.set n (.dic t (dSet kvs kd k vd))) → Q () s') :
    wpAny (model X.prog X.w) X.A (setItem (.ref a) u vu) Q E s := by
  have m := S.ref hs ha
  have hm : a ∈ μ := List.mem_of_getElem? ha
  have hlen : (dSet kvs kd k vd).length ≤ sizeLine := by have := length_dSet kvs kd k vd; omega
  obtain ⟨k1, k2, k3⟩ := dKey_ok hk
  cases m with
  | dic e1 e2 e3 e4 e5 =>
    rename_i o es ep
    have ho := dO_at I e1
    have fin : ∀ (h' : Heap) (tk : Nat) (o' : Obj) (es' : Array DictEntry) (ep' : Nat), h'.get? a = some o' → o'.ExactDict → o'.data = .dict es' ep' → Heap.SameBut a s.heap h' → (Ents (gx X T) μ (upd H a (dO a o')) t es'.toList (dSet kvs kd k vd)) → Q () { s with heap := h', toks := tk } := by
      intro h' tk o' es' ep' ho' x1 x2 sb x3
      have J : Inv X pins σ (upd H a (dO a o')) { s with heap := h', toks := tk } := I.write (x := a) (e := a) (by rw [e1]; exact trivial) (.inl rfl) (fun b q hb z => (sb.2 b hb).trans z) ⟨o', ho'⟩ ⟨ho', ⟨o', ho'⟩, fun h1 h2 z kk => kk _ z⟩
      exact q _ _ J (Ext.write hm) (S.put ha (.dic upd_same x1 x2 e4 x3))
    cases t with
    | true =>
      obtain ⟨xs, x1, x2, x3, x4⟩ := ents_T I e5
      obtain ⟨b, rfl, rfl, kb⟩ := dk_ref h k1 r k2 k3 I
      have dd : s.heap.DictOfH (nestedKind X.prog X.w) a xs := ⟨o, es, ep, ho, e2, e3, x1, x2, x4⟩
      refine wpAny_setItem_heap (hsz := by rw [x3.length]; omega) (nroom hu) kb dd fun h' dd' sb => ?_
      obtain ⟨o', es', ep', ho', y1, y2, y3, _, y4⟩ := dd'
      refine fin h' _ o' es' ep' ho' y1 y2 sb ?_
      have ex : Ext μ H μ (upd H a (dO a o')) := Ext.write hm
      have er := (x3.set k2 k3 (by simpa [keyKind] using k1) h rv hv).ext ex
      rw [y3]
      exact ents_ofT (g := gx X T) er y4 hlen
    | false =>
      obtain ⟨ks, x1, x2, x3, x4⟩ := ents_K (P := X.prog) e5
      obtain ⟨kk, rfl⟩ := leaf_key (show isLeaf kd = true by simpa [keyKind] using k1)
      have ev := dv_ofK h
      subst ev
      rw [keyOf_ofK] at k2; cases k2
      have dd : s.heap.DictOf (mixKind X.prog X.w) a ks := ⟨o, es, ep, ho, e2, e3, fun e he => x1 e (by simpa using he), x2, x4⟩
      refine wpAny_setItem_pairs (hsz := by rw [x3.length]; omega) (kV_is r) dd fun h' dd' sb => ?_
      obtain ⟨o', es', ep', ho', y1, y2, y3, y4, y5⟩ := dd'
      refine fin h' _ o' es' ep' ho' y1 y2 sb ?_
      have ex : Ext μ H μ (upd H a (dO a o')) := Ext.write hm
      exact ents_ofK (P := X.prog) (fun e he => y3 e (by simpa using he)) y4 ((x3.set rv hv).ext ex) y5 hlen
end
end SL
set_option maxRecDepth 100000
set_option maxHeartbeats 2000000
/-! Layer S: in, subscripts, slices, displays, +, *, calls of built-ins, methods. -/
namespace SL
open PySem PySem.Spec PyProof.Rows L2

/-- a list or a tuple, by its items (a list of the store too) -/
def seqOf (st : Store) (d : D) : Option (List D) := match d with
  | .lst ds => some ds
  | .tup ds => some ds
  | .ref n => match st[n]? with
    | some (.lst ds) => some ds
    | _ => none
  | _ => none
def lstOf (st : Store) (d : D) : Option (List D) := match d with
  | .lst ds => some ds
  | .ref n => match st[n]? with
    | some (.lst ds) => some ds
    | _ => none
  | _ => none
def dicOf (st : Store) (d : D) : Option (Bool × List (D × D)) := match d with
  | .dic t kvs => some (t, kvs)
  | .ref n => match st[n]? with
    | some (.dic t kvs) => some (t, kvs)
    | _ => none
  | _ => none
section
variable {g : Gx} {μ : List Addr} {H : Hp} {st : Store} {d : D} {v : V}
theorem lstOf_ok (S : Sto g μ H st) (h : DV g μ H v d) {ds : List D} (e : lstOf st d = some ds) : ∃ a vs, v = .ref a ∧ Rd H a (.lst vs) ∧ DVs g μ H vs ds := by
  cases h with
  | lst h1 n h2 => simp [lstOf] at e; subst e; exact ⟨_, _, rfl, h1, h2⟩
  | ref h1 =>
    rename_i i a
    unfold lstOf at e
    dsimp only at e
    cases q : st[i]? with
    | none => rw [q] at e; cases e
    | some o =>
      rw [q] at e
      cases o with
      | lst xs =>
        simp at e; subst e
        cases S.ref q h1 with
        | lst h2 h3 => exact ⟨_, _, rfl, .inl h2, h3⟩
      | _ => cases e
  | _ => simp [lstOf] at e
theorem seqOf_ok (S : Sto g μ H st) (h : DV g μ H v d) {ds : List D} (e : seqOf st d = some ds) : ∃ a vs, v = .ref a ∧ (Rd H a (.lst vs) ∨ SqT g.K H a vs) ∧ DVs g μ H vs ds := by
  cases d with
  | tup xs =>
    simp [seqOf] at e; subst e
    cases h with | tup h1 h2 => exact ⟨_, _, rfl, .inr h1.sq, h2⟩
  | lst xs =>
    obtain ⟨a, vs, e1, e2, e3⟩ := lstOf_ok S h (ds := ds) (by simpa [seqOf, lstOf] using e)
    exact ⟨a, vs, e1, .inl e2, e3⟩
  | ref n =>
    obtain ⟨a, vs, e1, e2, e3⟩ := lstOf_ok S h (ds := ds) (by simpa [seqOf, lstOf] using e)
    exact ⟨a, vs, e1, .inl e2, e3⟩
  | _ => simp [seqOf] at e
theorem dicOf_ok (S : Sto g μ H st) (h : DV g μ H v d) {t : Bool} {kvs : List (D × D)} (e : dicOf st d = some (t, kvs)) : ∃ a, v = .ref a ∧ DicAt g μ H a t kvs := by
  cases h with
  | dic h1 n h2 h3 h4 h5 => simp [dicOf] at e; obtain ⟨rfl, rfl⟩ := e; exact ⟨_, rfl, _, _, _, h1, h2, h3, h4, h5⟩
  | ref h1 =>
    rename_i i a
    unfold dicOf at e
    dsimp only at e
    cases q : st[i]? with
    | none => rw [q] at e; cases e
    | some o =>
      rw [q] at e
      cases o with
      | dic t2 xs =>
        simp at e; obtain ⟨rfl, rfl⟩ := e
        cases S.ref q h1 with
        | dic h2 h3 h4 h5 h6 => exact ⟨_, rfl, _, _, _, h2, h3, h4, h5, h6⟩
      | _ => cases e
  | _ => simp [dicOf] at e
theorem atI_dv {ds : List D} {vs : List V} {i : Int} {d : D} (h : DVs g μ H vs ds) (e : atI ds i = some d) : ∃ v, atI vs i = some v ∧ DV g μ H v d := by
  unfold atI at e ⊢
  rw [h.length]
  cases q : ixN ds.length i with
  | none => rw [q] at e; cases e
  | some j =>
    rw [q] at e
    exact DVs.get h e
end
section
variable {X : Cx} {T : Tab} {E : XK} {e a b : Expr} {es : List Expr} {me ma mb : EM} {am : AM} {pos : Pos}
theorem inv_lstR {pins : List (Addr × Obj)} {σ : L2.St} {H : Hp} {s : Shared} {l : Addr} {xs : List V} (I : Inv X pins σ H s) (h : Rd H l (.lst xs)) :
    xs.length ≤ sizeLine ∧ ∃ (its : List Value) (n : Nat), Vals xs its ∧ s.heap.get? l = some { cls := .type "list", data := .seq its.toArray n } := h.ok I.hok
/-! ### in -/
def opIn : O2 := fun x y st => match dicOf st y with
  | some (t, kvs) => match dKey t x with
    | some k => .ok (.bl (dLook kvs k).isSome) st
    | none => .bad
  | none => match dIn st x y with
    | some b => .ok (.bl b) st
    | none => .bad
def opNotIn : O2 := fun x y st => match dicOf st y with
  | some (t, kvs) => match dKey t x with
    | some k => .ok (.bl (!(dLook kvs k).isSome)) st
    | none => .bad
  | none => match dIn st x y with
    | some b => .ok (.bl (!b)) st
    | none => .bad
theorem o_in (hu : X.A.units + 65 < cLine) : OpR X (compareOp .In) (rD2 (gx X T) E opIn) := by
  intro pins s σ H x y v u Q I rx ry q
  obtain ⟨d1, d2, st, μ, s1, q1, q2, a⟩ := q
  unfold opIn at a
  cases e : dicOf st d2 with
  | some p =>
    obtain ⟨t, kvs⟩ := p
    simp only [e] at a
    cases ek : dKey t d1 with
    | none => simp only [ek] at a; exact a.elim
    | some k =>
      simp only [ek] at a
      obtain ⟨b, rfl, da⟩ := dicOf_ok s1 q2 e
      cases ry
      exact dic_in hu I da ek q1 rx fun s' I' => ⟨.bl _, H, I', rfl, AfterG.now a s1 (.bl _)⟩
  | none =>
    simp only [e] at a
    cases e2 : dIn st d1 d2 with
    | none => simp only [e2] at a; exact a.elim
    | some b =>
      simp only [e2] at a
      exact opIn_seq hu I rx ry s1 q1 q2 e2 (AfterG.now a s1 (.bl _))
theorem o_notIn (hu : X.A.units + 65 < cLine) : OpR X (compareOp .NotIn) (rD2 (gx X T) E opNotIn) := by
  intro pins s σ H x y v u Q I rx ry q
  obtain ⟨d1, d2, st, μ, s1, q1, q2, a⟩ := q
  unfold opNotIn at a
  cases e : dicOf st d2 with
  | some p =>
    obtain ⟨t, kvs⟩ := p
    simp only [e] at a
    cases ek : dKey t d1 with
    | none => simp only [ek] at a; exact a.elim
    | some k =>
      simp only [ek] at a
      obtain ⟨b, rfl, da⟩ := dicOf_ok s1 q2 e
      cases ry
      exact dic_notIn hu I da ek q1 rx fun s' I' => ⟨.bl _, H, I', rfl, AfterG.now a s1 (.bl _)⟩
  | none =>
    simp only [e] at a
    cases e2 : dIn st d1 d2 with
    | none => simp only [e2] at a; exact a.elim
    | some b =>
      simp only [e2] at a
      exact opNotIn_seq hu I rx ry s1 q1 q2 e2 (AfterG.now a s1 (.bl _))

/-! ### subscripts -/
def opIx : O2 := fun x y st => match dicOf st x with
  | some (t, kvs) => match dKey t y with
    | some k => match dLook kvs k with
      | some d => .ok d st
      | none => .bad
    | none => .bad
  | none => match seqOf st x, y with
    | some ds, .int i => match atI ds i with
      | some d => .ok d st
      | none => .bad
    | _, _ => .bad
theorem ix_D (hu : X.A.units + 65 < cLine) : IxR X (rD2 (gx X T) E opIx) := by
  intro value slice pins s σ H x y v u Q I rx ry q hs
  obtain ⟨d1, d2, st, μ, s1, q1, q2, a⟩ := q
  unfold opIx at a
  cases e : dicOf st d1 with
  | some p =>
    obtain ⟨t, kvs⟩ := p
    simp only [e] at a
    cases ek : dKey t d2 with
    | none => simp only [ek] at a; exact a.elim
    | some k =>
      simp only [ek] at a
      cases el : dLook kvs k with
      | none => simp only [el] at a; exact a.elim
      | some d =>
        simp only [el] at a
        obtain ⟨b, rfl, da⟩ := dicOf_ok s1 q1 e
        cases rx
        have ht : s.TypeIs (.ref b) "dict" := by
          obtain ⟨o, es, ep, e1, e2, _⟩ := da
          exact ⟨o, dO_at I e1, e2.1⟩
        exact tail_any ht PySem.F.slot_dict_getitem.lookup (dic_get hu I da ek q2 ry el fun vv w s' I' rw' dv => ⟨vv, H, I', rw', AfterG.now a s1 dv⟩) hs
  | none =>
    simp only [e] at a
    cases e2 : seqOf st d1 with
    | none => simp only [e2] at a; exact a.elim
    | some ds =>
      cases d2 with
      | int i =>
        simp only [e2] at a
        cases e3 : atI ds i with
        | none => simp only [e3] at a; exact a.elim
        | some d =>
          simp only [e3] at a
          obtain ⟨b, vs, rfl, hb, hv⟩ := seqOf_ok s1 q1 e2
          cases q2
          obtain ⟨w, ew, dw⟩ := atI_dv hv e3
          rcases hb with hb | hb
          · exact ix_list value slice pins s σ H _ _ v u Q I rx ry ⟨b, vs, i, w, rfl, rfl, .inl hb, ew, AfterG.now a s1 dw⟩ hs
          · exact ix_tup value slice pins s σ H _ _ v u Q I rx ry ⟨b, vs, i, w, rfl, rfl, hb, ew, AfterG.now a s1 dw⟩ hs
      | _ => simp only [e2] at a; exact a.elim
theorem se_ix (hu : X.A.units + 65 < cLine) (ha : SE X T E a ma) (hb : SE X T E b mb) (hs : PlainIx b := by exact fun _ _ => rfl) : SE X T E (.Subscript a b pos) (mBin opIx ma mb) :=
  PE.imp (pe_ix (ix_D hu) ha hb hs) fun _ _ _ h => tE_bin h
/-! ### slices -/
def cutD (xs : List D) (lo hi : Option Int) : List D := (xs.drop (HT.sIx xs.length 0 lo)).take (HT.sIx xs.length xs.length hi - HT.sIx xs.length 0 lo)
abbrev OM := Env → Store → Res (Option Int)
def pNo : OM := fun _ st => .ok none st
def pSome (m : EM) : OM := fun ρ st => (m ρ st).bind fun d st1 => match d with
  | .int i => .ok (some i) st1
  | _ => .bad
abbrev ROI : List Addr → Hp → Option Int → Option Int → Prop := fun _ _ b c => b = c
def SO (X : Cx) (T : Tab) (E : XK) (o : Option Expr) (m : OM) : Prop := PO X o (tG ROI (gx X T) E m)
theorem PO.imp {o : Option Expr} {t u : TO} (h : PO X o t) (k : ∀ σ H Q, u σ H Q → t σ H Q) : PO X o u := ⟨fun pins s σ H Q I q => h.run pins s σ H Q I (k σ H Q q)⟩
theorem so_none : SO X T E none pNo := by
  refine PO.imp po_none fun σ H Q h => ?_
  obtain ⟨ρ, st, μ, r1, s1, a⟩ := h
  exact AfterG.now a s1 rfl
theorem so_some (h : SE X T E e me) : SO X T E (some e) (pSome me) := by
  refine PO.imp (po_some h) fun σ H Q h => ?_
  refine tG_mono (tG_bind (Rl := fun μ H => DV (gx X T) μ H) (Rm := ROI) (k := fun _ d st1 => match d with
    | .int i => Res.ok (some i) st1
    | _ => .bad) h) fun x H1 q => ?_
  obtain ⟨d, ρ, st1, μ1, r1, s1, q1, a1⟩ := q
  cases d with
  | int i =>
    cases q1
    exact ⟨i, rfl, AfterG.now a1 s1 rfl⟩
  | _ => exact a1.elim
def opSl (d : D) (lo hi : Option Int) : Store → Res D := fun st => match d with
  | .tup ds => .ok (.tup (cutD ds lo hi)) st
  | _ => match lstOf st d with
    | some ds => .ok (.lst (cutD ds lo hi)) st
    | none => .bad
theorem DVs.drop {g : Gx} {μ : List Addr} {H : Hp} : ∀ {ds : List D} {vs : List V} (n : Nat), DVs g μ H vs ds → DVs g μ H (vs.drop n) (ds.drop n)
  | _, _, 0, h => by simpa using h
  | [], _, n + 1, h => by cases h; exact .nil
  | _ :: _, _, n + 1, h => by cases h with | cons h1 h2 => simpa using DVs.drop n h2
theorem DVs.take {g : Gx} {μ : List Addr} {H : Hp} : ∀ {ds : List D} {vs : List V} (n : Nat), DVs g μ H vs ds → DVs g μ H (vs.take n) (ds.take n)
  | _, _, 0, h => by simpa using DVs.nil
  | [], _, n + 1, h => by cases h; exact .nil
  | _ :: _, _, n + 1, h => by cases h with | cons h1 h2 => simpa using DVs.cons h1 (DVs.take n h2)
theorem cut_dv {g : Gx} {μ : List Addr} {H : Hp} {ds : List D} {vs : List V} (h : DVs g μ H vs ds) (lo hi : Option Int) : DVs g μ H (cutV vs lo hi) (cutD ds lo hi) := by
  unfold cutV cutD
  rw [h.length]
  exact (h.drop _).take _
/-- a new list of such items, as data -/
theorem lst_now {g : Gx} {μ : List Addr} {H : Hp} {st : Store} {Q : VK} {ds : List D} {vs : List V} {p : Addr} (S : Sto g μ H st) (a : After g μ H Q E (.ok (.lst ds) st)) (h : DVs g μ H vs ds) (hp : H p = none) : Q (.ref p) (upd H p (.lst vs)) := by
  have np : p ∉ μ := fun hm => by
    obtain ⟨i, hi, e⟩ := List.getElem_of_mem hm
    have hi2 : i < st.length := by rw [S.len]; exact hi
    have e1 := List.getElem?_eq_getElem hi2
    generalize st[i] = o1 at e1
    obtain ⟨b, e2, m2⟩ := S.at_ i o1 e1
    rw [List.getElem?_eq_getElem hi, e] at e2
    cases e2
    cases m2 with
    | lst h1 _ => rw [hp] at h1; cases h1
    | dic h1 => rw [hp] at h1; cases h1
    | ins h1 => rw [hp] at h1; cases h1
  have ex : Ext μ H μ (upd H p (.lst vs)) := Ext.new hp
  exact a _ μ _ ex (S.same (SameH.new hp)) (.lst (.inl upd_same) np (h.ext ex))
theorem tup_now {g : Gx} {μ : List Addr} {H : Hp} {st : Store} {Q : VK} {ds : List D} {vs : List V} {p : Addr} (S : Sto g μ H st) (a : After g μ H Q E (.ok (.tup ds) st)) (h : DVs g μ H vs ds) (hp : H p = none) : Q (.ref p) (upd H p (.tup vs)) := by
  have np : p ∉ μ := fun hm => by
    obtain ⟨i, hi, e⟩ := List.getElem_of_mem hm
    have hi2 : i < st.length := by rw [S.len]; exact hi
    have e1 := List.getElem?_eq_getElem hi2
    generalize st[i] = o1 at e1
    obtain ⟨b, e2, m2⟩ := S.at_ i o1 e1
    rw [List.getElem?_eq_getElem hi, e] at e2
    cases e2
    cases m2 with
    | lst h1 _ => rw [hp] at h1; cases h1
    | dic h1 => rw [hp] at h1; cases h1
    | ins h1 => rw [hp] at h1; cases h1
  have ex : Ext μ H μ (upd H p (.tup vs)) := Ext.new hp
  exact a _ μ _ ex (S.same (SameH.new hp)) (.tup (.inl ⟨.inl upd_same, np⟩) (h.ext ex))
theorem sl_D : SlR X (fun x lo hi H Q => ∃ d st μ, Sto (gx X T) μ H st ∧ DV (gx X T) μ H x d ∧ After (gx X T) μ H Q E (opSl d lo hi st)) := by
  intro pins s σ H x v vl vu lo hi sl Q I rx hs pl pu h
  obtain ⟨d, st, μ, s1, q1, a⟩ := h
  unfold opSl at a
  cases d with
  | tup ds =>
    cases q1 with
    | tup h1 h2 =>
      rename_i b vs
      refine sl_tupA pins s σ H _ v vl vu lo hi sl Q I rx hs pl pu ⟨b, vs, rfl, h1.sq, fun hw => ?_, fun _ p hp => tup_now s1 a (cut_dv h2 lo hi) hp⟩
      have e : cutD ds lo hi = ds := by
        rw [h2.length] at hw
        unfold cutD
        rw [hw.1, hw.2]
        simp
      dsimp only at a
      rw [e] at a
      exact AfterG.now a s1 (.tup h1 h2)
  | lst ds =>
    simp only [lstOf] at a
    obtain ⟨b, vs, rfl, hb, hv⟩ := lstOf_ok s1 q1 (ds := ds) rfl
    exact sl_list pins s σ H _ v vl vu lo hi sl Q I rx hs pl pu ⟨b, vs, rfl, .inl hb, fun p hp => lst_now s1 a (cut_dv hv lo hi) hp⟩
  | ref n =>
    dsimp only at a
    cases e : lstOf st (.ref n) with
    | none => simp only [e] at a; exact a.elim
    | some ds =>
      simp only [e] at a
      obtain ⟨b, vs, rfl, hb, hv⟩ := lstOf_ok s1 q1 e
      exact sl_list pins s σ H _ v vl vu lo hi sl Q I rx hs pl pu ⟨b, vs, rfl, .inl hb, fun p hp => lst_now s1 a (cut_dv hv lo hi) hp⟩
  | _ => exact a.elim
def mSl (m : EM) (lo hi : OM) : EM := fun ρ st => (m ρ st).bind fun d st1 => (lo ρ st1).bind fun l st2 => (hi ρ st2).bind fun u st3 => opSl d l u st3
theorem se_sl {lo hi : Option Expr} {ml mh : OM} {p2 : Pos} (he : SE X T E e me) (hl : SO X T E lo ml) (hh : SO X T E hi mh) : SE X T E (.Subscript e (.Slice lo hi none p2) pos) (mSl me ml mh) := by
  refine PE.imp (pe_slice (sl_D (T := T) (E := E)) he hl hh) fun σ H Q h => ?_
  refine tG_mono (tG_bind (Rl := fun μ H => DV (gx X T) μ H) (k := fun ρ d st1 => (ml ρ st1).bind fun l st2 => (mh ρ st2).bind fun u st3 => opSl d l u st3) h) fun x H1 q => ?_
  obtain ⟨d, ρ, st1, μ1, r1, s1, q1, a1⟩ := q
  refine ⟨ρ, st1, μ1, r1, s1, ?_⟩
  refine (AfterG.bind (Rl := ROI) a1).mono fun l H2 q => ?_
  obtain ⟨l', st2, μ2, e2, s2, q2, a2⟩ := q
  cases q2
  refine ⟨ρ, st2, μ2, r1.ext e2, s2, ?_⟩
  refine (AfterG.bind (Rl := ROI) a2).mono fun u H3 q => ?_
  obtain ⟨u', st3, μ3, e3, s3, q3, a3⟩ := q
  cases q3
  exact ⟨d, st3, μ3, s3, (q1.ext e2).ext e3, a3⟩
/-! ### displays -/
def mTup (m : AM) : EM := fun ρ st => (m ρ st).bind fun ds st1 => if ds.length ≤ sizeLine then .ok (.tup ds) st1 else .bad
def mLst (m : AM) : EM := fun ρ st => (m ρ st).bind fun ds st1 => if ds.length ≤ sizeLine then .ok (.lst ds) st1 else .bad
def mNew (m : AM) : EM := fun ρ st => (m ρ st).bind fun ds st1 => if ds.length ≤ sizeLine then .ok (.ref st1.length) (st1 ++ [.lst ds]) else .bad
theorem ref_now {g : Gx} {μ : List Addr} {H : Hp} {st : Store} {Q : VK} {p : Addr} {u : HO} {o : MO} (S : Sto g μ H st) (a : After g μ H Q E (.ok (.ref st.length) (st ++ [o]))) (hp : H p = none) (m : MOk g (μ ++ [p]) (upd H p u) p o) : Q (.ref p) (upd H p u) :=
  a _ _ _ (Ext.newRef hp) (S.push hp m) (.ref (by rw [S.len]; simp))
theorem se_tup {j} (h : SA X T E es am) : SE X T E (.Tuple es j pos) (mTup am) := by
  refine PE.imp (pe_tup h) fun σ H Q h => ?_
  refine tG_mono (tG_bind (Rl := fun μ H => DVs (gx X T) μ H) (k := fun ρ (ds : List D) (st1 : Store) => if ds.length ≤ sizeLine then Res.ok (D.tup ds) st1 else Res.bad) h) fun x H1 q => ?_
  obtain ⟨ds, ρ, st1, μ1, r1, s1, q1, a1⟩ := q
  by_cases c : ds.length ≤ sizeLine
  · simp only [if_pos c] at a1
    exact ⟨by rw [q1.length]; exact c, fun p hp => tup_now s1 a1 q1 hp⟩
  · simp only [if_neg c] at a1; exact a1.elim
theorem se_lst (h : SA X T E es am) : SE X T E (.List es pos) (mLst am) := by
  refine PE.imp (pe_lst h) fun σ H Q h => ?_
  refine tG_mono (tG_bind (Rl := fun μ H => DVs (gx X T) μ H) (k := fun ρ (ds : List D) (st1 : Store) => if ds.length ≤ sizeLine then Res.ok (D.lst ds) st1 else Res.bad) h) fun x H1 q => ?_
  obtain ⟨ds, ρ, st1, μ1, r1, s1, q1, a1⟩ := q
  by_cases c : ds.length ≤ sizeLine
  · simp only [if_pos c] at a1
    exact ⟨by rw [q1.length]; exact c, fun p hp => lst_now s1 a1 q1 hp⟩
  · simp only [if_neg c] at a1; exact a1.elim
theorem se_new (h : SA X T E es am) : SE X T E (.List es pos) (mNew am) := by
  refine PE.imp (pe_lst h) fun σ H Q h => ?_
  refine tG_mono (tG_bind (Rl := fun μ H => DVs (gx X T) μ H) (k := fun ρ (ds : List D) (st1 : Store) => if ds.length ≤ sizeLine then Res.ok (D.ref st1.length) (st1 ++ [MO.lst ds]) else Res.bad) h) fun x H1 q => ?_
  obtain ⟨ds, ρ, st1, μ1, r1, s1, q1, a1⟩ := q
  by_cases c : ds.length ≤ sizeLine
  · simp only [if_pos c] at a1
    exact ⟨by rw [q1.length]; exact c, fun p hp => ref_now s1 a1 hp (.lst upd_same (q1.ext (Ext.newRef hp)))⟩
  · simp only [if_neg c] at a1; exact a1.elim
/-- {}: a dict of kind t, in the store -/
def mNewD (t : Bool) : EM := fun _ st => .ok (.ref st.length) (st ++ [.dic t []])
theorem se_newD (t : Bool) : SE X T E (.Dict [] [] pos) (mNewD t) := by
  refine ⟨fun pins s σ H Q I h => ?_⟩
  obtain ⟨ρ, st, μ, r1, s1, a⟩ := h
  have hf := I.hok.fresh (Nat.le_refl s.heap.objs.size)
  refine wpAny_Dict_empty ?_
  have J : Inv X pins σ (upd H s.heap.objs.size (dO s.heap.objs.size { cls := .type "dict", data := .dict #[] })) { s with heap := s.heap.push { cls := .type "dict", data := .dict #[] } } :=
    I.laid (t' := s.toks) (fun b o q => Heap.get?_push_of_some _ q) (Nat.le_refl _) ⟨Heap.get?_push_size _ rfl, ⟨_, Heap.get?_push_size _ rfl⟩, fun h1 h2 z k => k _ z⟩
  exact ⟨.ref _, _, J, rfl, ref_now s1 a hf (.dic upd_same ⟨rfl, rfl, rfl⟩ rfl (by
    have := I.big
    simp only [beq_eq_false_iff_ne, ne_eq]
    intro z
    rw [z] at this
    exact Nat.lt_irrefl _ this) .nil)⟩
end
end SL
set_option maxRecDepth 100000
set_option maxHeartbeats 2000000
namespace SL
open PySem PySem.Spec PyProof.Rows L2
theorem tuple_mul_one (l : Addr) (items : Array Value) (n : Nat) (dd : Option Addr) (sl : Array (Option Value)) (u : Tok) :
    Meets (Builtin.«tuple.__mul__» ⟨[.ref l, .int 1 u], []⟩) (fun _ R s => s.heap.get? l = some { cls := .type "tuple", dict := dd, data := .seq items n, slots := sl } ∧ R (.ok (.ret (Value.ref l))) s) :=
  .of_wp fun prog w A R s h => by
    obtain ⟨hp, g, d, tk, os⟩ := s
    obtain ⟨hl, h⟩ := h
    have f1 := AutoSeq1.idx_int
    wp_walk using wpAny_loadPart' hl
    repeat (first
      | (refine wpAny_ite_false (by decide) ?_; wp_walk using wpAny_loadPart' hl)
      | (refine wpAny_ite_true (by simp) ?_; wp_walk using wpAny_loadPart' hl))
    all_goals exact ⟨_, rfl, h⟩
theorem tuple_mul_zero (l : Addr) (items : Array Value) (n : Nat) (dd : Option Addr) (sl : Array (Option Value)) (x : Int) (u : Tok) (h0 : -(2 ^ 63) ≤ x) (h1 : x ≤ 0) (hi : items.isEmpty = false) :
    Meets (Builtin.«tuple.__mul__» ⟨[.ref l, .int x u], []⟩) (fun _ R s => s.heap.get? l = some { cls := .type "tuple", dict := dd, data := .seq items n, slots := sl } ∧
      R (.ok (.ret (Value.ref s.heap.objs.size))) { s with heap := s.heap.push { cls := Value.type "tuple", data := Data.seq #[] }, toks := s.toks }) :=
  .of_wp fun prog w A R s h => by
    obtain ⟨hp, g, d, tk, os⟩ := s
    obtain ⟨hl, h⟩ := h
    have f1 := AutoSeq1.idx_int
    have c0 : (decide (x < -(2 ^ 63)) || decide (x ≥ 2 ^ 63)) = false := by
      rw [decide_eq_false (by omega), decide_eq_false (by omega)]; rfl
    have c1 : (items.isEmpty || x == 1) = false := by
      rw [hi, Bool.false_or]; exact beq_eq_false_iff_ne.mpr (by omega)
    have c2 : (decide (x ≤ 0) || items.isEmpty) = true := by rw [decide_eq_true h1]; rfl
    wp_walk using wpAny_loadPart' hl
    repeat (first
      | (refine wpAny_ite_false (decide_eq_false (by rw [c0]; exact Bool.false_ne_true)) ?_; wp_walk using wpAny_loadPart' hl)
      | (refine wpAny_ite_false (decide_eq_false (by rw [c1]; exact Bool.false_ne_true)) ?_; wp_walk using wpAny_loadPart' hl)
      | (refine wpAny_ite_true (decide_eq_true c2) ?_; wp_walk using wpAny_loadPart' hl)
      | (refine wpAny_ite_false (by decide) ?_; wp_walk using wpAny_loadPart' hl))
    all_goals exact ⟨_, rfl, h⟩

def okMulT (n : Nat) (k : Int) : Bool := decide (0 < n) && decide (n ≤ 1000) && decide (-(2 ^ 63) ≤ k) && decide (k ≤ 1000)
def opAdd : O2 := fun x y st => match x, y with
  | .int i, .int j => .ok (.int (i + j)) st
  | .tup a, .tup b => if a.length + b.length ≤ sizeLine then .ok (.tup (a ++ b)) st else .bad
  | .str a, .str b => if a.length + b.length ≤ sizeLine then .ok (.str (a ++ b)) st else .bad
  | x, y => match lstOf st x, lstOf st y with
    | some a, some b => if a.length + b.length ≤ sizeLine then .ok (.lst (a ++ b)) st else .bad
    | _, _ => .bad
def opMul : O2 := fun x y st => match x, y with
  | .int i, .int j => if cMul i j = true then .ok (.int (i * j)) st else .bad
  | .tup a, .int k => if okMulT a.length k = true then .ok (.tup (List.replicate k.toNat a).flatten) st else .bad
  | x, .int k => match lstOf st x with
    | some a => if okMulT a.length k = true then .ok (.lst (List.replicate k.toNat a).flatten) st else .bad
    | none => .bad
  | _, _ => .bad
section
variable {X : Cx} {T : Tab} {E : XK}
theorem DVs.rep {g : Gx} {μ : List Addr} {H : Hp} {ds : List D} {vs : List V} (h : DVs g μ H vs ds) : ∀ n : Nat, DVs g μ H (List.replicate n vs).flatten (List.replicate n ds).flatten
  | 0 => .nil
  | n + 1 => by
    rw [List.replicate_succ, List.replicate_succ, List.flatten_cons, List.flatten_cons]
    exact h.append (DVs.rep h n)
theorem cat_lists {pins : List (Addr × Obj)} {σ : L2.St} {H : Hp} {s : Shared} {Q : VK} {l b : Addr} {xs zs : List V} (I : Inv X pins σ H s) (hl : Rd H l (.lst xs)) (hb : Rd H b (.lst zs)) (hz : xs.length + zs.length ≤ sizeLine)
    (q : ∀ p, H p = none → Q (.ref p) (upd H p (.lst (xs ++ zs)))) : wpAny (model X.prog X.w) X.A (binaryOp .Add (.ref l) (.ref b)) (EP X pins σ Q) X.xe s := by
  obtain ⟨_, its, n, r, e⟩ := inv_lstR I hl
  obtain ⟨_, its2, n2, r2, e2⟩ := inv_lstR I hb
  have h1 := r.length
  have h2 := r2.length
  refine PySem.P.add_list e e2 ?_ (by simp only [List.size_toArray]; omega)
  rw [List.append_toArray]
  exact ⟨.ref _, _, I.lnew (t' := s.toks) (r.append r2) (by rw [List.length_append]; omega), rfl, q _ I.fresh⟩
theorem o_add : OpR X (binaryOp .Add) (rD2 (gx X T) E opAdd) := by
  intro pins s σ H x y v u Q I rx ry q
  obtain ⟨d1, d2, st, μ, s1, q1, q2, a⟩ := q
  have lists : ∀ {xs ys : List D}, lstOf st d1 = some xs → lstOf st d2 = some ys → After (gx X T) μ H Q E (if xs.length + ys.length ≤ sizeLine then .ok (.lst (xs ++ ys)) st else .bad) → wpAny (model X.prog X.w) X.A (binaryOp .Add v u) (EP X pins σ Q) X.xe s := by
    intro xs ys e1 e2 a
    obtain ⟨l, vs, rfl, hl, hv⟩ := lstOf_ok s1 q1 e1
    obtain ⟨b, ws, rfl, hb, hw⟩ := lstOf_ok s1 q2 e2
    cases rx
    cases ry
    by_cases c : xs.length + ys.length ≤ sizeLine
    · rw [if_pos c] at a
      exact cat_lists I hl hb (by rw [hv.length, hw.length]; exact c) fun p hp => lst_now s1 a (hv.append hw) hp
    · rw [if_neg c] at a; exact a.elim
  unfold opAdd at a
  split at a
  · cases q1
    cases q2
    exact op_add pins s σ H _ _ v u Q I rx ry ⟨_, _, rfl, rfl, AfterG.now a s1 (.int _)⟩
  · rename_i xs ys
    by_cases c : xs.length + ys.length ≤ sizeLine
    · rw [if_pos c] at a
      cases q1 with
      | tup h1 h2 =>
        cases q2 with
        | tup h3 h4 =>
          rename_i l vs b ws
          refine op_catA pins s σ H _ _ v u Q I rx ry ⟨l, b, vs, ws, rfl, rfl, h1.sq, h3.sq, by rw [h2.length, h4.length]; exact c, fun z => ?_, fun _ z => ?_, fun _ _ p hp => tup_now s1 a (h2.append h4) hp⟩
          · subst z
            cases h2
            exact AfterG.now a s1 (.tup h3 h4)
          · subst z
            cases h4
            rw [List.append_nil] at a
            exact AfterG.now a s1 (.tup h1 h2)
    · rw [if_neg c] at a; exact a.elim
  · rename_i xs ys
    by_cases c : xs.length + ys.length ≤ sizeLine
    · rw [if_pos c] at a
      cases q1
      cases q2
      exact op_add_str pins s σ H _ _ v u Q I rx ry ⟨_, _, rfl, rfl, c, AfterG.now a s1 (.str _)⟩
    · rw [if_neg c] at a; exact a.elim
  · rename_i d1' d2' _ _ _
    split at a
    · rename_i xs ys e1 e2
      exact lists e1 e2 a
    · exact a.elim
theorem mul_tup {pins : List (Addr × Obj)} {σ : L2.St} {H : Hp} {s : Shared} {Q : VK} {l : Addr} {xs : List V} {k : Int} {t : Tok} (I : Inv X pins σ H s) (hT : SqT X.K H l xs) (c : okMulT xs.length k = true) (q1 : k = 1 → Q (.ref l) H)
    (q : k ≠ 1 → ∀ p, H p = none → Q (.ref p) (upd H p (.tup (List.replicate k.toNat xs).flatten))) : wpAny (model X.prog X.w) X.A (binaryOp .Mult (.ref l) (.int k t)) (EP X pins σ Q) X.xe s := by
  simp only [okMulT, Bool.and_eq_true, decide_eq_true_eq] at c
  obtain ⟨⟨⟨c1, c2⟩, c3⟩, c4⟩ := c
  have hne : xs ≠ [] := fun e => by subst e; simp at c1
  by_cases k2 : 2 ≤ k
  · exact op_repT pins s σ H (.ref l) (.int k) _ _ Q I rfl ⟨t, rfl⟩ ⟨l, k, xs, rfl, rfl, hT, hne, k2, c4, c2, q (by omega)⟩
  · obtain ⟨its, r, ⟨⟨cls, dd, data, sl⟩, ho, hc, n, hd⟩, hs⟩ := I.tuple hT
    simp only at hc hd
    subst hc hd
    have hle := r.length
    have hi : its.toArray.isEmpty = false := by
      cases its with
      | nil => have z : xs.length = 0 := hle; omega
      | cons a b => rfl
    by_cases k1 : k = 1
    · subst k1
      exact wpAny_binaryOp_repeat_ref (T := "tuple") (U := "int") (by decide) ⟨_, ho, rfl⟩ (fun s' => typeIs_int s' 1 t) noFill_tuple_mul F.fills_int_mul F.slot_int_rmul repeat_tuple F.slot_int_index.lookup
        (call_meets F.slot_int_rmul (typeIs_int s 1 t) F.entry_int_rmul (F.args_int_rmul_2 _ _) (int_rmul_tuple 1 t l its.toArray n dd sl)
          ⟨ho, rfl, ⟨_, ho, rfl⟩, call_meets F.slot_tuple_mul ⟨_, ho, rfl⟩ F.entry_tuple_mul (F.args_tuple_mul_2 _ _) (tuple_mul_one l its.toArray n dd sl t) ⟨ho, ⟨.ref l, H, I, rfl, q1 rfl⟩⟩⟩)
    · refine wpAny_binaryOp_repeat_ref (T := "tuple") (U := "int") (by decide) ⟨_, ho, rfl⟩ (fun s' => typeIs_int s' k t) noFill_tuple_mul F.fills_int_mul F.slot_int_rmul repeat_tuple F.slot_int_index.lookup
        (call_meets F.slot_int_rmul (typeIs_int s k t) F.entry_int_rmul (F.args_int_rmul_2 _ _) (int_rmul_tuple k t l its.toArray n dd sl)
          ⟨ho, rfl, ⟨_, ho, rfl⟩, call_meets F.slot_tuple_mul ⟨_, ho, rfl⟩ F.entry_tuple_mul (F.args_tuple_mul_2 _ _) (tuple_mul_zero l its.toArray n dd sl k t c3 (by omega) hi) ⟨ho, ?_⟩⟩)
      have e0 : k.toNat = 0 := by omega
      have qq := q k1 _ (I.hok.fresh (Nat.le_refl s.heap.objs.size))
      rw [e0] at qq
      refine ⟨.ref s.heap.objs.size, _, I.laid (t' := s.toks) (o := .tup (List.replicate 0 xs).flatten) (fun b ob q => Heap.get?_push_of_some _ q) (Nat.le_refl _) ?_, rfl, qq⟩
      exact ⟨by simp, [], .nil, IsTup.new _ _⟩
theorem mul_lst {pins : List (Addr × Obj)} {σ : L2.St} {H : Hp} {s : Shared} {Q : VK} {l : Addr} {xs : List V} {k : Int} {t : Tok} (I : Inv X pins σ H s) (hL : Rd H l (.lst xs)) (c : okMulT xs.length k = true)
    (q : ∀ p, H p = none → Q (.ref p) (upd H p (.lst (List.replicate k.toNat xs).flatten))) : wpAny (model X.prog X.w) X.A (binaryOp .Mult (.ref l) (.int k t)) (EP X pins σ Q) X.xe s := by
  simp only [okMulT, Bool.and_eq_true, decide_eq_true_eq] at c
  obtain ⟨⟨⟨c1, c2⟩, c3⟩, c4⟩ := c
  obtain ⟨_, its, n, r, e⟩ := inv_lstR I hL
  have hle := r.length
  have hb : xs.length * k.toNat ≤ sizeLine := by
    rw [sizeLine_eq]
    have a1 : xs.length * k.toNat ≤ 1000 * 1000 := Nat.mul_le_mul c2 (by omega)
    omega
  have hlen : its.toArray.size * k.toNat ≤ sizeLine := by rw [List.size_toArray, ← hle]; exact hb
  have hcap : ¬ its.toArray.size * k.toNat > (2 ^ 63 - 1) / 8 := by
    have : (sizeLine : Nat) ≤ (2 ^ 63 - 1) / 8 := by decide
    omega
  have hfit : ¬ (!Builtin.List.listFitsIndex k) = true := by
    rw [fitsIndex_both c3 (by omega)]
    exact Bool.false_ne_true
  have hlong : ¬ Builtin.List.listTooLong (its.toArray.size * k.toNat) = true := by
    rw [notLongL hlen]
    exact Bool.false_ne_true
  have hne : its.toArray.isEmpty = false := by
    cases its with
    | nil => have z : xs.length = 0 := hle; omega
    | cons a b => rfl
  have hnew : List.foldl (fun x1 x2 => x1 ++ x2) #[] (List.replicate (if its.toArray.isEmpty = true then 0 else k.toNat) its.toArray) = (List.replicate k.toNat its).flatten.toArray := by
    rw [hne, if_neg Bool.false_ne_true]
    exact size_rep its k.toNat
  refine wpAny_binaryOp_repeat_ref (T := "list") (U := "int") (by decide) ⟨_, e, rfl⟩ (fun s' => typeIs_int s' k t) noFill_list_mul F.fills_int_mul F.slot_int_rmul repeat_list F.slot_int_index.lookup
    (call_meets F.slot_int_rmul (typeIs_int s k t) F.entry_int_rmul (F.args_int_rmul_2 _ _) (int___rmul___int_list k t l its.toArray n)
      ⟨e, rfl, ⟨_, e, rfl⟩, call_meets F.slot_list_mul ⟨_, e, rfl⟩ F.entry_list_mul (F.args_list_mul_2 _ _) (AutoListH.list___mul___list_int_3 l its.toArray n k t hfit hcap hlong) ⟨e, ?_⟩⟩)
  rw [hnew]
  exact ⟨.ref _, _, I.lnew (t' := s.toks) (r.rep k.toNat) (by rw [PyProof.Rows.lm_len_rep_flat, Nat.mul_comm]; exact hb), rfl, q _ I.fresh⟩
theorem o_mul : OpR X (binaryOp .Mult) (rD2 (gx X T) E opMul) := by
  intro pins s σ H x y v u Q I rx ry q
  obtain ⟨d1, d2, st, μ, s1, q1, q2, a⟩ := q
  unfold opMul at a
  split at a
  · rename_i i j
    by_cases c : cMul i j = true
    · rw [if_pos c] at a
      cases q1
      cases q2
      refine op_mul pins s σ H _ _ v u Q I rx ry ⟨_, _, rfl, rfl, ?_, AfterG.now a s1 (.int _)⟩
      simp only [cMul, Bool.or_eq_true, Bool.and_eq_true, decide_eq_true_eq] at c
      exact c
    · rw [if_neg c] at a; exact a.elim
  · rename_i xs k
    by_cases c : okMulT xs.length k = true
    · rw [if_pos c] at a
      cases q2
      obtain ⟨t, rfl⟩ := ry
      cases q1 with
      | tup h1 h2 =>
        cases rx
        refine mul_tup I h1.sq (by rw [h2.length]; exact c) (fun z => ?_) fun _ p hp => tup_now s1 a (h2.rep _) hp
        subst z
        have e : (List.replicate (1 : Int).toNat xs).flatten = xs := by simp
        rw [e] at a
        exact AfterG.now a s1 (.tup h1 h2)
    · rw [if_neg c] at a; exact a.elim
  · rename_i k _ _
    split at a
    · rename_i xs e1
      by_cases c : okMulT xs.length k = true
      · rw [if_pos c] at a
        cases q2
        obtain ⟨t, rfl⟩ := ry
        obtain ⟨l, vs, rfl, hl, hv⟩ := lstOf_ok s1 q1 e1
        cases rx
        exact mul_lst I hl (by rw [hv.length]; exact c) fun p hp => lst_now s1 a (hv.rep _) hp
      · rw [if_neg c] at a; exact a.elim
    · exact a.elim
  · exact a.elim
end
end SL
set_option maxRecDepth 100000
set_option maxHeartbeats 2000000
/-! Layer S: calls of built-ins and of their methods. -/
namespace SL
open PySem PySem.Spec PyProof.Rows L2

abbrev CF := List D → Store → Res D
def rDs (g : Gx) (E : XK) (F : CF) : List V → Hp → VK → Prop := fun xs H Q => ∃ ds st μ, Sto g μ H st ∧ DVs g μ H xs ds ∧ After g μ H Q E (F ds st)
def mCB (F : CF) (ma : AM) : EM := fun ρ st => (ma ρ st).bind F
section
variable {X : Cx} {T : Tab} {E : XK} {e o : Expr} {es : List Expr} {me mo : EM} {am : AM} {pos p : Pos} {x name : Str} {id Ty : String} {F : CF}
theorem tE_CB {g : Gx} {σ : L2.St} {H : Hp} {Q : VK} (h : tE g E (mCB F am) σ H Q) : tCB (rDs g E F) (tA g E am) σ H Q := by
  refine tG_mono (tG_bind (Rl := fun μ H => DVs g μ H) (k := fun _ ds st1 => F ds st1) h) fun x H1 q => ?_
  obtain ⟨ds, ρ, st1, μ1, r1, s1, q1, a1⟩ := q
  exact ⟨ds, st1, μ1, s1, q1, a1⟩
theorem se_callB (hc : CallR X (.builtin id) (rDs (gx X T) E F)) (hm : X.mg x = none) (ha : SA X T E (e :: es) am) (hg : Gl X x := by rfl) (hv : bootBuiltins x = some (.builtin id) := by rfl) (hn : x ≠ "__name__" := by decide) (hdb : (x == ("__debug__" : Str)) = false := by decide)
    (he : starEach (e :: es) X.env = (false, eval e X.env) :: starEach es X.env := by rfl) (hpl : (backTo pos (starEach es X.env)).any (·.1) = false := by rfl) : SE X T E (.Call (.Name x p) (e :: es) [] pos) (mCB F am) :=
  PE.imp (pe_callB hc hg hm hv ha hn hdb he hpl) fun _ _ _ h => tE_CB h
theorem se_callTy (hc : CallR X (.type Ty) (rDs (gx X T) E F)) (hm : X.mg x = none) (ha : SA X T E (e :: es) am) (hg : Gl X x := by rfl) (hv : bootBuiltins x = some (.type Ty) := by rfl) (hn : x ≠ "__name__" := by decide) (hdb : (x == ("__debug__" : Str)) = false := by decide)
    (he : starEach (e :: es) X.env = (false, eval e X.env) :: starEach es X.env := by rfl) (hpl : (backTo pos (starEach es X.env)).any (·.1) = false := by rfl) : SE X T E (.Call (.Name x p) (e :: es) [] pos) (mCB F am) :=
  PE.imp (pe_callTy hc hg hm hv ha hn hdb he hpl) fun _ _ _ h => tE_CB h
/-! ### len -/
def bLen : CF := fun ds st => match ds with
  | [.str x] => if x.length ≤ sizeLine then .ok (.int x.length) st else .bad
  | [d] => match seqOf st d with
    | some xs => .ok (.int xs.length) st
    | none => match dicOf st d with
      | some (_, kvs) => .ok (.int kvs.length) st
      | none => .bad
  | _ => .bad
theorem ents_len {g : Gx} {μ : List Addr} {H : Hp} : ∀ {t : Bool} {es : List DictEntry} {kvs : List (D × D)}, Ents g μ H t es kvs → es.length = kvs.length ∧ kvs.length ≤ sizeLine
  | _, _, [], h => by cases h; exact ⟨rfl, Nat.zero_le _⟩
  | _, _, _ :: kvs, h => by cases h with | cons _ _ _ _ _ _ _ _ _ h10 h11 => exact ⟨by simp [(ents_len h11).1], by simpa using h10⟩
theorem DVs.one {g : Gx} {μ : List Addr} {H : Hp} {vs : List V} {d : D} (h : DVs g μ H vs [d]) : ∃ v, vs = [v] ∧ DV g μ H v d := by
  cases h with
  | cons h1 h2 => cases h2; exact ⟨_, rfl, h1⟩
theorem DVs.two {g : Gx} {μ : List Addr} {H : Hp} {vs : List V} {d c : D} (h : DVs g μ H vs [d, c]) : ∃ v w, vs = [v, w] ∧ DV g μ H v d ∧ DV g μ H w c := by
  cases h with
  | cons h1 h2 => obtain ⟨w, rfl, h3⟩ := DVs.one h2; exact ⟨_, _, rfl, h1, h3⟩
theorem cr_lenD : CallR X (.builtin "len") (rDs (gx X T) E bLen) := by
  intro pins s σ H xs us Q I r h
  obtain ⟨ds, st, μ, s1, q1, a⟩ := h
  unfold bLen at a
  split at a
  · rename_i z
    by_cases c : z.length ≤ sizeLine
    · rw [if_pos c] at a
      obtain ⟨v, rfl, dv⟩ := q1.one
      cases dv
      exact call_len_str pins s σ H _ us Q I r ⟨z, rfl, c, AfterG.now a s1 (.int _)⟩
    · rw [if_neg c] at a; exact a.elim
  · rename_i d _
    obtain ⟨v, rfl, dv⟩ := q1.one
    cases e : seqOf st d with
    | some xs =>
      simp only [e] at a
      obtain ⟨b, vs, rfl, hb, hv⟩ := seqOf_ok s1 dv e
      refine call_len_seq pins s σ H _ us Q I r ⟨b, vs, rfl, ?_, ?_⟩
      · rcases hb with hb | hb
        · exact .inl (.inl hb)
        · exact .inr hb
      · rw [hv.length]; exact AfterG.now a s1 (.int _)
    | none =>
      simp only [e] at a
      cases e2 : dicOf st d with
      | none => simp only [e2] at a; exact a.elim
      | some p =>
        obtain ⟨t, kvs⟩ := p
        simp only [e2] at a
        obtain ⟨b, rfl, o, es, ep, e1, e2, e3, e4, e5⟩ := dicOf_ok s1 dv e2
        have ho := dO_at I e1
        obtain ⟨u, rfl, ru⟩ := vals1 r
        cases ru
        obtain ⟨l1, l2⟩ := ents_len e5
        have hz : es.size < 2 ^ 63 := by
          have h1 : es.toList.length = es.size := Array.length_toList
          have h2 : sizeLine = 16777216 := sizeLine_eq
          omega
        have dr : s.heap.DictRaw b es ep := ⟨o, ho, e2, e3⟩
        have el : es.size = kvs.length := by
          rw [← l1]; exact Array.length_toList.symm
        refine PyProof.Rows.call_len_slot (T := "dict") dr.typeIs PySem.F.slot_dict_len (fun Q' q => call_len_raw e4 dr q) (by omega) (by omega) ?_
        refine ⟨.int es.size, H, I.tok _, ⟨_, rfl⟩, ?_⟩
        rw [el]
        exact AfterG.now a s1 (.int _)
  · exact a.elim
/-! ### ints -/
def bAbs : CF := fun ds st => match ds with
  | [.int i] => .ok (.int (if i < 0 then -i else i)) st
  | _ => .bad
theorem cr_absD : CallR X (.builtin "abs") (rDs (gx X T) E bAbs) := by
  intro pins s σ H xs us Q I r h
  obtain ⟨ds, st, μ, s1, q1, a⟩ := h
  unfold bAbs at a
  split at a
  · obtain ⟨v, rfl, dv⟩ := q1.one
    cases dv
    exact call_abs pins s σ H _ us Q I r ⟨_, rfl, AfterG.now a s1 (.int _)⟩
  · exact a.elim
def bInt : CF := fun ds st => match ds with
  | [.int i] => .ok (.int i) st
  | [.bl b] => .ok (.int (if b = true then 1 else 0)) st
  | _ => .bad
theorem cr_intD : CallR X (.type "int") (rDs (gx X T) E bInt) := by
  intro pins s σ H xs us Q I r h
  obtain ⟨ds, st, μ, s1, q1, a⟩ := h
  unfold bInt at a
  split at a
  · obtain ⟨v, rfl, dv⟩ := q1.one
    cases dv
    exact call_int1 pins s σ H _ us Q I r (.inl ⟨_, rfl, AfterG.now a s1 (.int _)⟩)
  · obtain ⟨v, rfl, dv⟩ := q1.one
    cases dv
    exact call_int1 pins s σ H _ us Q I r (.inr ⟨_, rfl, AfterG.now a s1 (.int _)⟩)
  · exact a.elim
/-! ### lists of ints, of bools -/
def intsOf : List D → Option (List Int)
  | [] => some []
  | .int i :: ds => (intsOf ds).map (i :: ·)
  | _ :: _ => none
def blsOf : List D → Option (List Bool)
  | [] => some []
  | .bl i :: ds => (blsOf ds).map (i :: ·)
  | _ :: _ => none
theorem ints_v {g : Gx} {μ : List Addr} {H : Hp} : ∀ {ds : List D} {vs : List V} {is : List Int}, DVs g μ H vs ds → intsOf ds = some is → vs = is.map V.int
  | [], _, _, h, e => by cases h; simp [intsOf] at e; subst e; rfl
  | d :: ds, _, is, h, e => by
    cases h with
    | cons h1 h2 =>
      cases d with
      | int i =>
        cases q : intsOf ds with
        | none => simp [intsOf, q] at e
        | some js =>
          simp [intsOf, q] at e; subst e
          cases h1
          simp [ints_v h2 q]
      | _ => simp [intsOf] at e
theorem bls_v {g : Gx} {μ : List Addr} {H : Hp} : ∀ {ds : List D} {vs : List V} {is : List Bool}, DVs g μ H vs ds → blsOf ds = some is → vs = is.map V.bl
  | [], _, _, h, e => by cases h; simp [blsOf] at e; subst e; rfl
  | d :: ds, _, is, h, e => by
    cases h with
    | cons h1 h2 =>
      cases d with
      | bl i =>
        cases q : blsOf ds with
        | none => simp [blsOf, q] at e
        | some js =>
          simp [blsOf, q] at e; subst e
          cases h1
          simp [bls_v h2 q]
      | _ => simp [blsOf] at e
/-- the greatest, the least -/
def topI : List Int → Int
  | [] => 0
  | [i] => i
  | i :: j :: l => max i (topI (j :: l))
def botI : List Int → Int
  | [] => 0
  | [i] => i
  | i :: j :: l => min i (botI (j :: l))
theorem topI_ge : ∀ {l : List Int} {a : Int}, a ∈ l → a ≤ topI l
  | [i], a, h => by simp at h; subst h; exact Int.le_refl _
  | i :: j :: l, a, h => by
    rcases List.mem_cons.mp h with h | h
    · subst h; exact Int.le_max_left _ _
    · exact Int.le_trans (topI_ge h) (Int.le_max_right _ _)
theorem topI_mem : ∀ {l : List Int}, l ≠ [] → topI l ∈ l
  | [], h => (h rfl).elim
  | [i], _ => by simp [topI]
  | i :: j :: l, _ => by
    have ih := topI_mem (l := j :: l) (by simp)
    unfold topI
    rcases Int.le_total i (topI (j :: l)) with h | h
    · rw [Int.max_eq_right h]; exact List.mem_cons_of_mem _ ih
    · rw [Int.max_eq_left h]; exact List.mem_cons_self
theorem botI_le : ∀ {l : List Int} {a : Int}, a ∈ l → botI l ≤ a
  | [i], a, h => by simp at h; subst h; exact Int.le_refl _
  | i :: j :: l, a, h => by
    rcases List.mem_cons.mp h with h | h
    · subst h; exact Int.min_le_left _ _
    · exact Int.le_trans (Int.min_le_right _ _) (botI_le h)
theorem botI_mem : ∀ {l : List Int}, l ≠ [] → botI l ∈ l
  | [], h => (h rfl).elim
  | [i], _ => by simp [botI]
  | i :: j :: l, _ => by
    have ih := botI_mem (l := j :: l) (by simp)
    unfold botI
    rcases Int.le_total i (botI (j :: l)) with h | h
    · rw [Int.min_eq_left h]; exact List.mem_cons_self
    · rw [Int.min_eq_right h]; exact List.mem_cons_of_mem _ ih
def bMin : CF := fun ds st => match ds with
  | [.int i, .int j] => .ok (.int (if j < i then j else i)) st
  | [d] => match (lstOf st d).bind intsOf with
    | some (i :: is) => .ok (.int (botI (i :: is))) st
    | _ => .bad
  | _ => .bad
def bMax : CF := fun ds st => match ds with
  | [.int i, .int j] => .ok (.int (if j > i then j else i)) st
  | [d] => match (lstOf st d).bind intsOf with
    | some (i :: is) => .ok (.int (topI (i :: is))) st
    | _ => .bad
  | _ => .bad
theorem lst_ints {g : Gx} {μ : List Addr} {H : Hp} {st : Store} {d : D} {v : V} {is : List Int} (S : Sto g μ H st) (h : DV g μ H v d) (e : (lstOf st d).bind intsOf = some is) : ∃ a, v = .ref a ∧ SqL g.K H a (is.map V.int) := by
  cases q : lstOf st d with
  | none => simp [q] at e
  | some xs =>
    simp [q] at e
    obtain ⟨a, vs, rfl, h1, h2⟩ := lstOf_ok S h q
    exact ⟨a, rfl, .inl (by rw [← ints_v h2 e]; exact h1)⟩
theorem lst_bls {g : Gx} {μ : List Addr} {H : Hp} {st : Store} {d : D} {v : V} {is : List Bool} (S : Sto g μ H st) (h : DV g μ H v d) (e : (lstOf st d).bind blsOf = some is) : ∃ a, v = .ref a ∧ SqL g.K H a (is.map V.bl) := by
  cases q : lstOf st d with
  | none => simp [q] at e
  | some xs =>
    simp [q] at e
    obtain ⟨a, vs, rfl, h1, h2⟩ := lstOf_ok S h q
    exact ⟨a, rfl, .inl (by rw [← bls_v h2 e]; exact h1)⟩
theorem cr_minD (hc : X.calm = true) : CallR X (.builtin "min") (rDs (gx X T) E bMin) := by
  intro pins s σ H xs us Q I r h
  obtain ⟨ds, st, μ, s1, q1, a⟩ := h
  unfold bMin at a
  split at a
  · obtain ⟨v, w, rfl, dv, dw⟩ := q1.two
    cases dv; cases dw
    exact call_min2 hc pins s σ H _ us Q I r ⟨_, _, rfl, AfterG.now a s1 (.int _)⟩
  · obtain ⟨v, rfl, dv⟩ := q1.one
    split at a
    · rename_i i is e
      obtain ⟨b, rfl, hb⟩ := lst_ints s1 dv e
      refine cr_min hc pins s σ H _ us Q I r ⟨b, i :: is, rfl, hb, by simp, fun m hm hy => ?_⟩
      have e2 : m = botI (i :: is) := Int.le_antisymm (hy _ (botI_mem (by simp))) (botI_le hm)
      subst e2
      exact AfterG.now a s1 (.int _)
    · exact a.elim
  · exact a.elim
theorem cr_maxD (hc : X.calm = true) : CallR X (.builtin "max") (rDs (gx X T) E bMax) := by
  intro pins s σ H xs us Q I r h
  obtain ⟨ds, st, μ, s1, q1, a⟩ := h
  unfold bMax at a
  split at a
  · obtain ⟨v, w, rfl, dv, dw⟩ := q1.two
    cases dv; cases dw
    exact call_max2 hc pins s σ H _ us Q I r ⟨_, _, rfl, AfterG.now a s1 (.int _)⟩
  · obtain ⟨v, rfl, dv⟩ := q1.one
    split at a
    · rename_i i is e
      obtain ⟨b, rfl, hb⟩ := lst_ints s1 dv e
      refine cr_max hc pins s σ H _ us Q I r ⟨b, i :: is, rfl, hb, by simp, fun m hm hy => ?_⟩
      have e2 : m = topI (i :: is) := Int.le_antisymm (topI_ge hm) (hy _ (topI_mem (by simp)))
      subst e2
      exact AfterG.now a s1 (.int _)
    · exact a.elim
  · exact a.elim
def bSum : CF := fun ds st => match ds with
  | [d] => match (lstOf st d).bind intsOf with
    | some is => .ok (.int is.sum) st
    | _ => .bad
  | _ => .bad
theorem cr_sumD (hc : X.calm = true) : CallR X (.builtin "sum") (rDs (gx X T) E bSum) := by
  intro pins s σ H xs us Q I r h
  obtain ⟨ds, st, μ, s1, q1, a⟩ := h
  unfold bSum at a
  split at a
  · obtain ⟨v, rfl, dv⟩ := q1.one
    split at a
    · rename_i is e
      obtain ⟨b, rfl, hb⟩ := lst_ints s1 dv e
      exact cr_sum hc pins s σ H _ us Q I r ⟨b, is, rfl, hb, AfterG.now a s1 (.int _)⟩
    · exact a.elim
  · exact a.elim
def bAll : CF := fun ds st => match ds with
  | [d] => match (lstOf st d).bind blsOf with
    | some is => .ok (.bl (is.all _root_.id)) st
    | _ => .bad
  | _ => .bad
def bAny : CF := fun ds st => match ds with
  | [d] => match (lstOf st d).bind blsOf with
    | some is => .ok (.bl (is.any _root_.id)) st
    | _ => .bad
  | _ => .bad
theorem cr_allD (hc : X.calm = true) : CallR X (.builtin "all") (rDs (gx X T) E bAll) := by
  intro pins s σ H xs us Q I r h
  obtain ⟨ds, st, μ, s1, q1, a⟩ := h
  unfold bAll at a
  split at a
  · obtain ⟨v, rfl, dv⟩ := q1.one
    split at a
    · rename_i is e
      obtain ⟨b, rfl, hb⟩ := lst_bls s1 dv e
      exact cr_all hc pins s σ H _ us Q I r ⟨b, is, rfl, hb, AfterG.now a s1 (.bl _)⟩
    · exact a.elim
  · exact a.elim
theorem cr_anyD (hc : X.calm = true) : CallR X (.builtin "any") (rDs (gx X T) E bAny) := by
  intro pins s σ H xs us Q I r h
  obtain ⟨ds, st, μ, s1, q1, a⟩ := h
  unfold bAny at a
  split at a
  · obtain ⟨v, rfl, dv⟩ := q1.one
    split at a
    · rename_i is e
      obtain ⟨b, rfl, hb⟩ := lst_bls s1 dv e
      exact cr_any hc pins s σ H _ us Q I r ⟨b, is, rfl, hb, AfterG.now a s1 (.bl _)⟩
    · exact a.elim
  · exact a.elim
/-! ### list(x), tuple(x) -/
/-- list(x): a new list of the store -/
def bList : CF := fun ds st => match ds with
  | [d] => match seqOf st d with
    | some xs => .ok (.ref st.length) (st ++ [.lst xs])
    | _ => .bad
  | _ => .bad
/-- list(x), kept as data -/
def bListF : CF := fun ds st => match ds with
  | [d] => match seqOf st d with
    | some xs => .ok (.lst xs) st
    | _ => .bad
  | _ => .bad
theorem cr_listD : CallR X (.type "list") (rDs (gx X T) E bList) := by
  intro pins s σ H xs us Q I r h
  obtain ⟨ds, st, μ, s1, q1, a⟩ := h
  unfold bList at a
  split at a
  · obtain ⟨v, rfl, dv⟩ := q1.one
    split at a
    · rename_i is e
      obtain ⟨b, vs, rfl, hb, hv⟩ := seqOf_ok s1 dv e
      refine call_list_of pins s σ H _ us Q I r ⟨b, vs, rfl, ?_, fun l hl => ref_now s1 a hl (.lst upd_same (hv.ext (Ext.newRef hl)))⟩
      rcases hb with hb | hb
      · exact .inl (.inl hb)
      · exact .inr hb
    · exact a.elim
  · exact a.elim
theorem cr_listF : CallR X (.type "list") (rDs (gx X T) E bListF) := by
  intro pins s σ H xs us Q I r h
  obtain ⟨ds, st, μ, s1, q1, a⟩ := h
  unfold bListF at a
  split at a
  · obtain ⟨v, rfl, dv⟩ := q1.one
    split at a
    · rename_i is e
      obtain ⟨b, vs, rfl, hb, hv⟩ := seqOf_ok s1 dv e
      refine call_list_of pins s σ H _ us Q I r ⟨b, vs, rfl, ?_, fun l hl => lst_now s1 a hv hl⟩
      rcases hb with hb | hb
      · exact .inl (.inl hb)
      · exact .inr hb
    · exact a.elim
  · exact a.elim
def bTuple : CF := fun ds st => match ds with
  | [d] => match seqOf st d with
    | some xs => .ok (.tup xs) st
    | _ => .bad
  | _ => .bad
theorem cr_tupleD : CallR X (.type "tuple") (rDs (gx X T) E bTuple) := by
  intro pins s σ H xs us Q I r h
  obtain ⟨ds, st, μ, s1, q1, a⟩ := h
  unfold bTuple at a
  split at a
  · rename_i d
    obtain ⟨v, rfl, dv⟩ := q1.one
    have ls : ∀ {xs : List D}, lstOf st d = some xs → After (gx X T) μ H Q E (.ok (.tup xs) st) → wpAny (model X.prog X.w) X.A (call (.type "tuple") us) (EP X pins σ Q) X.xe s := fun e a => by
      obtain ⟨b, vs, rfl, hb, hv⟩ := lstOf_ok s1 dv e
      exact call_tuple_of pins s σ H _ us Q I r ⟨b, vs, rfl, .inl ⟨.inl hb, fun l hl => tup_now s1 a hv hl⟩⟩
    split at a
    · rename_i is e
      cases d with
      | tup ys =>
        simp [seqOf] at e; subst e
        have dv' := dv
        cases dv with
        | tup h1 h2 => exact call_tuple_of pins s σ H _ us Q I r ⟨_, _, rfl, .inr ⟨h1.sq, AfterG.now a s1 dv'⟩⟩
      | lst ys => exact ls (by simpa [seqOf, lstOf] using e) a
      | ref n => exact ls (by simpa [seqOf, lstOf] using e) a
      | _ => simp [seqOf] at e
    · exact a.elim
  · exact a.elim
end
end SL
set_option maxRecDepth 100000
set_option maxHeartbeats 2000000
/-! Layer S: methods of built-ins; subscripts and attributes stored. -/
namespace SL
open PySem PySem.Spec PyProof.Rows L2

/-- of that built-in type -/
def tyD (Ty : String) (st : Store) (d : D) : Bool := match Ty with
  | "list" => (lstOf st d).isSome
  | "dict" => (dicOf st d).isSome
  | "str" => match d with
    | .str _ => true
    | _ => false
  | _ => false
theorem tyD_is {X : Cx} {T : Tab} {pins : List (Addr × Obj)} {σ : L2.St} {H : Hp} {s : Shared} {μ : List Addr} {st : Store} {Ty : String} {x : V} {v : Value} {d : D} (I : Inv X pins σ H s) (S : Sto (gx X T) μ H st) (h : DV (gx X T) μ H x d) (r : RelV x v) (ty : tyD Ty st d = true) :
    s.TypeIs v Ty ∧ ∀ a, v = .ref a → ∃ ob, s.heap.get? a = some ob ∧ ob.dict = none := by
  unfold tyD at ty
  split at ty
  · cases e : lstOf st d with
    | none => rw [e] at ty; cases ty
    | some xs =>
      obtain ⟨a, vs, rfl, h1, h2⟩ := lstOf_ok S h e
      exact tyV_is I r (.inl ⟨rfl, _, .inl h1⟩)
  · cases e : dicOf st d with
    | none => rw [e] at ty; cases ty
    | some p =>
      obtain ⟨t, kvs⟩ := p
      obtain ⟨a, rfl, o, es, ep, e1, e2, e3, e4, e5⟩ := dicOf_ok S h e
      have ho := dO_at I e1
      cases r
      refine ⟨⟨o, ho, e2.1⟩, fun b e => ?_⟩
      cases e
      exact ⟨o, ho, e2.2.1⟩
  · split at ty
    · cases h
      exact tyV_is I r rfl
    · cases ty
  · cases ty
abbrev MF := D → List D → Store → Res D
def rMt (g : Gx) (E : XK) (F : MF) : V → List V → Hp → VK → Prop := fun x xs H Q => ∃ d ds st μ, Sto g μ H st ∧ DV g μ H x d ∧ DVs g μ H xs ds ∧ After g μ H Q E (F d ds st)
/-- o.m(..), m a method of the built-in type Ty -/
def mMeth (Ty : String) (F : MF) (mo : EM) (ma : AM) : EM := fun ρ st => (mo ρ st).bind fun d st1 => if tyD Ty st1 d = true then (ma ρ st1).bind fun ds st2 => F d ds st2 else .bad
section
variable {X : Cx} {T : Tab} {E : XK} {e o : Expr} {es : List Expr} {me mo : EM} {am : AM} {apos cpos : Pos} {x name : Str} {id Ty : String} {F : MF}
theorem se_meth (pa : PlainAttrs Ty) (slot : Slot Ty name id) (hty : typeOf (.builtin id) = pure (.type "method_descriptor")) (hm : MtR X id (rMt (gx X T) E F)) (ho : SE X T E o mo) (ha : SA X T E (e :: es) am)
    (hbase : attributeBase o name X.env (eval o X.env) = eval o X.env := by rfl)
    (hfew : ((backTo cpos (starEach (e :: es) X.env)).all (fun x => !x.1) && (backToKw cpos (keywordEach [] X.env)).all (fun x => x.1.isSome)
      && decide ((e :: es).length + ([] : List Keyword).length + (if ([] : List Keyword).isEmpty then 0 else 1) < 30)) = true := by rfl)
    (hline : (apos.endLine == cpos.line) = true := by rfl) (hs : starEach (e :: es) X.env = (false, eval e X.env) :: starEach es X.env := by rfl) (hplain : (backTo cpos (starEach es X.env)).any (·.1) = false := by rfl) :
    SE X T E (.Call (.Attribute o name apos) (e :: es) [] cpos) (mMeth Ty F mo am) := by
  refine ⟨fun pins s σ H Q I h => ?_⟩
  have h1 := tG_bind (Rl := fun μ H => DV (gx X T) μ H) (k := fun ρ d st1 => if tyD Ty st1 d = true then (am ρ st1).bind fun ds st2 => F d ds st2 else .bad) h
  refine wpAny_Call_method_late hbase hfew hline rfl (thn (ho.run pins s σ H _ I h1) fun v s1 ⟨x, H1, I1, r1, q1⟩ => ?_)
  obtain ⟨d, ρ, st1, μ1, er, S1, dv, a1⟩ := q1
  by_cases c : tyD Ty st1 d = true
  · simp only [if_pos c] at a1
    obtain ⟨h1, h2⟩ := tyD_is I1 S1 dv r1 c
    refine ⟨Ty, id, pa, slot, hty, h1, h2, ?_⟩
    have hA := ha.run cpos pins s1 σ H1 (fun vs H2 => rMt (gx X T) E F x vs H2 Q) I1 (by
      refine ⟨ρ, st1, μ1, er, S1, ?_⟩
      refine (AfterG.bind (Rl := fun μ H => DVs (gx X T) μ H) a1).mono fun vs H2 q => ?_
      obtain ⟨ds, st2, μ2, e2, s2, q2, a2⟩ := q
      exact ⟨d, ds, st2, μ2, s2, dv.ext e2, q2, a2⟩)
    rw [hs] at hA ⊢
    refine Calls.callWith_builtin (by show (false || (backTo cpos (starEach es X.env)).any (·.1)) = false; rw [hplain] <;> rfl) (Calls.evalArgs_plain ?_)
    exact thn hA fun us s2 ⟨vs, H2, I2, r2, q2⟩ => hm pins s2 σ H2 x vs v us Q I2 r1 r2 q2
  · simp only [if_neg c] at a1
    exact a1.elim
theorem se_meth0 (pa : PlainAttrs Ty) (slot : Slot Ty name id) (hty : typeOf (.builtin id) = pure (.type "method_descriptor")) (hm : MtR X id (rMt (gx X T) E F)) (ho : SE X T E o mo)
    (hbase : attributeBase o name X.env (eval o X.env) = eval o X.env := by rfl) (hline : (apos.endLine == cpos.line) = true := by rfl) :
    SE X T E (.Call (.Attribute o name apos) [] [] cpos) (mMeth Ty F mo aNil) := by
  refine ⟨fun pins s σ H Q I h => ?_⟩
  have h1 := tG_bind (Rl := fun μ H => DV (gx X T) μ H) (k := fun ρ d st1 => if tyD Ty st1 d = true then (aNil ρ st1).bind fun ds st2 => F d ds st2 else .bad) h
  refine wpAny_Call_method0_late hbase hline (thn (ho.run pins s σ H _ I h1) fun v s1 ⟨x, H1, I1, r1, q1⟩ => ?_)
  obtain ⟨d, ρ, st1, μ1, er, S1, dv, a1⟩ := q1
  by_cases c : tyD Ty st1 d = true
  · simp only [if_pos c] at a1
    obtain ⟨h1, h2⟩ := tyD_is I1 S1 dv r1 c
    exact ⟨Ty, id, pa, slot, hty, h1, h2, Calls.callWith_builtin rfl (PySem.evalArgs_none (hm pins s1 σ H1 x [] v [] Q I1 r1 .nil ⟨d, [], st1, μ1, S1, dv, .nil, a1⟩))⟩
  · simp only [if_neg c] at a1
    exact a1.elim
/-! ### methods of lists -/
theorem ref_lst {g : Gx} {μ : List Addr} {H : Hp} {st : Store} {n : Nat} {v : V} {xs : List D} (S : Sto g μ H st) (h : DV g μ H v (.ref n)) (e : st[n]? = some (.lst xs)) : ∃ a vs, v = .ref a ∧ μ[n]? = some a ∧ H a = some (.lst vs) ∧ DVs g μ H vs xs := by
  cases h with
  | ref h1 =>
    cases S.ref e h1 with
    | lst h2 h3 => exact ⟨_, _, rfl, h1, h2, h3⟩
theorem put_now {g : Gx} {μ : List Addr} {H : Hp} {st : Store} {n : Nat} {a : Addr} {vs : List V} {xs : List D} {Q : VK} {d : D} {v : V} (S : Sto g μ H st) (A : After g μ H Q E (.ok d (st.set n (.lst xs)))) (hn : μ[n]? = some a) (hv : DVs g μ H vs xs) (hd : DV g μ H v d) : Q v (upd H a (.lst vs)) := by
  have ex : Ext μ H μ (upd H a (.lst vs)) := Ext.write (List.mem_of_getElem? hn)
  exact A v μ _ ex (S.put hn (.lst upd_same (hv.ext ex))) (hd.ext ex)
def fAppend : MF := fun d ds st => match d, ds with
  | .ref n, [y] => match st[n]? with
    | some (.lst xs) => if xs.length < sizeLine then .ok .non (st.set n (.lst (xs ++ [y]))) else .bad
    | _ => .bad
  | _, _ => .bad
theorem m_append : MtR X "list.append" (rMt (gx X T) E fAppend) := by
  intro pins s σ H x xs v us Q I rx rs h
  obtain ⟨d, ds, st, μ, S, dv, dvs, a⟩ := h
  unfold fAppend at a
  split at a
  · rename_i n y
    split at a
    · rename_i ys e
      by_cases c : ys.length < sizeLine
      · rw [if_pos c] at a
        obtain ⟨b, vs, rfl, hb, hH, hv⟩ := ref_lst S dv e
        obtain ⟨w, rfl, dw⟩ := dvs.one
        refine mt_append pins s σ H _ _ v us Q I rx rs ⟨b, vs, w, rfl, rfl, hH, by rw [hv.length]; exact c, ?_⟩
        exact put_now S a hb (hv.snoc dw) .non
      · rw [if_neg c] at a; exact a.elim
    · exact a.elim
  · exact a.elim
def fExtend : MF := fun d ds st => match d, ds with
  | .ref n, [y] => match st[n]?, seqOf st y with
    | some (.lst xs), some ys => if xs.length + ys.length ≤ sizeLine then .ok .non (st.set n (.lst (xs ++ ys))) else .bad
    | _, _ => .bad
  | _, _ => .bad
/-- xs.pop(i), xs.pop() -/
def fPop : MF := fun d ds st => match d, ds with
  | .ref n, [.int i] => match st[n]? with
    | some (.lst xs) => match ixN xs.length i with
      | some k => match xs[k]? with
        | some y => .ok y (st.set n (.lst (xs.eraseIdx k)))
        | none => .bad
      | none => .bad
    | _ => .bad
  | .ref n, [] => match st[n]? with
    | some (.lst xs) => match xs[xs.length - 1]? with
      | some y => .ok y (st.set n (.lst xs.dropLast))
      | none => .bad
    | _ => .bad
  | _, _ => .bad
theorem DVs.erase {g : Gx} {μ : List Addr} {H : Hp} : ∀ {ds : List D} {vs : List V} (k : Nat), DVs g μ H vs ds → DVs g μ H (vs.eraseIdx k) (ds.eraseIdx k)
  | [], _, _, h => by cases h; simpa using DVs.nil
  | _ :: _, _, 0, h => by cases h with | cons h1 h2 => simpa using h2
  | _ :: _, _, k + 1, h => by cases h with | cons h1 h2 => simpa using DVs.cons h1 (DVs.erase k h2)
theorem DVs.dropLast {g : Gx} {μ : List Addr} {H : Hp} {ds : List D} {vs : List V} (h : DVs g μ H vs ds) : DVs g μ H vs.dropLast ds.dropLast := by
  rw [List.dropLast_eq_take, List.dropLast_eq_take, h.length]
  exact h.take _
theorem m_pop : MtR X "list.pop" (rMt (gx X T) E fPop) := by
  intro pins s σ H x xs v us Q I rx rs h
  obtain ⟨d, ds, st, μ, S, dv, dvs, a⟩ := h
  unfold fPop at a
  split at a
  · rename_i n i
    split at a
    · rename_i ys e
      cases ei : ixN ys.length i with
      | none => rw [ei] at a; exact a.elim
      | some k =>
        simp only [ei] at a
        cases ey : ys[k]? with
        | none => rw [ey] at a; exact a.elim
        | some y =>
          simp only [ey] at a
          obtain ⟨b, vs, rfl, hb, hH, hv⟩ := ref_lst S dv e
          obtain ⟨w, rfl, dw⟩ := dvs.one
          cases dw
          obtain ⟨u, hu, du⟩ := hv.get ey
          obtain ⟨i1, i2, i3, i4⟩ := ixN_seq ei
          have hz : ys.length ≤ sizeLine := by
            have := (inv_lstR I (.inl hH)).1
            rw [hv.length] at this; exact this
          have hs : sizeLine = 16777216 := sizeLine_eq
          refine mt_popAt pins s σ H _ _ v us Q I rx rs ⟨b, vs, i, k, u, rfl, rfl, hH, by omega, by omega, by rw [hv.length]; exact i1, hu, ?_⟩
          exact put_now S a hb (hv.erase k) du
    · exact a.elim
  · rename_i n
    split at a
    · rename_i ys e
      cases ey : ys[ys.length - 1]? with
      | none => rw [ey] at a; exact a.elim
      | some y =>
        simp only [ey] at a
        obtain ⟨b, vs, rfl, hb, hH, hv⟩ := ref_lst S dv e
        cases dvs
        obtain ⟨u, hu, du⟩ := hv.get ey
        refine mt_pop pins s σ H _ _ v us Q I rx rs ⟨b, vs, u, rfl, rfl, hH, by rw [hv.length]; exact hu, ?_⟩
        exact put_now S a hb hv.dropLast du
    · exact a.elim
  · exact a.elim
end
end SL
set_option maxRecDepth 100000
set_option maxHeartbeats 2000000
/-! Layer S: instances of own classes. -/
namespace SL
open PySem PySem.Spec PyProof.Rows L2

/-- an instance of the class c: its attributes -/
def insOf (st : Store) (c : Nat) (d : D) : Option (List D) := match d with
  | .obj k fs => if k = c then some fs else none
  | .ref n => match st[n]? with
    | some (.ins k fs) => if k = c then some fs else none
    | _ => none
  | _ => none
section
variable {g : Gx} {μ : List Addr} {H : Hp} {st : Store} {d : D} {v : V}
theorem insOf_ok (S : Sto g μ H st) (h : DV g μ H v d) {c : Nat} {fs : List D} (e : insOf st c d = some fs) : ∃ a dx fvs, v = .ref a ∧ H a = some (.ins (g.T.ca c) dx fvs) ∧ fvs.map (·.1) = (g.T.fl c).take fs.length ∧ DVs g μ H (fvs.map (·.2)) fs := by
  cases h with
  | obj h1 n h2 h3 =>
    rename_i a k dx fvs fs0
    unfold insOf at e
    dsimp only at e
    by_cases q : k = c
    · subst q
      rw [if_pos rfl] at e
      cases e
      exact ⟨_, _, _, rfl, h1, h2, h3⟩
    · rw [if_neg q] at e; cases e
  | ref h1 =>
    rename_i i a
    unfold insOf at e
    dsimp only at e
    cases q : st[i]? with
    | none => rw [q] at e; cases e
    | some o =>
      rw [q] at e
      cases o with
      | ins k fs0 =>
        dsimp only at e
        by_cases q2 : k = c
        · subst q2
          rw [if_pos rfl] at e
          cases e
          cases S.ref q h1 with
          | ins h2 h3 h4 => exact ⟨_, _, _, rfl, h2, h3, h4⟩
        · rw [if_neg q2] at e; cases e
      | _ => cases e
  | _ => simp [insOf] at e
theorem look_at {α β : Type} [BEq α] [LawfulBEq α] : ∀ {l : List (α × β)} {ks : List α} {j : Nat} {f : α} {y : β}, l.map (·.1) = ks → ks.Nodup → ks[j]? = some f → (l.map (·.2))[j]? = some y → l.lookup f = some y
  | [], _, _, _, _, e, _, _, h => by simp at h
  | (a, b) :: l, ks, 0, f, y, e, n, h1, h2 => by
    subst e
    simp at h1 h2
    subst h1 h2
    simp [List.lookup]
  | (a, b) :: l, ks, j + 1, f, y, e, n, h1, h2 => by
    subst e
    rw [List.map_cons, List.nodup_cons] at n
    have h1' : (l.map (·.1))[j]? = some f := by simpa using h1
    have h2' : (l.map (·.2))[j]? = some y := by simpa using h2
    have hne : (f == a) = false := by
      rw [beq_eq_false_iff_ne]
      intro z
      subst z
      exact n.1 (List.mem_of_getElem? h1')
    rw [List.lookup_cons, hne]
    exact look_at rfl n.2 h1' h2'
theorem putF_new (f : Str) (y : V) : ∀ {l : List (Str × V)}, f ∉ l.map (·.1) → putF f y l = l ++ [(f, y)]
  | [], _ => rfl
  | (k, x) :: l, h => by
    rw [show putF f y ((k, x) :: l) = (if k = f then (k, y) :: l else (k, x) :: putF f y l) from rfl, if_neg (fun z => h (by simp [z]))]
    rw [putF_new f y (fun z => h (by simp at z ⊢; exact .inr z))]
    rfl
theorem putF_at (f : Str) (y : V) : ∀ {l : List (Str × V)} {j : Nat}, (l.map (·.1)).Nodup → (l.map (·.1))[j]? = some f → (putF f y l).map (·.1) = l.map (·.1) ∧ (putF f y l).map (·.2) = (l.map (·.2)).set j y
  | [], _, _, h => by simp at h
  | (k, x) :: l, 0, n, h => by
    simp at h
    subst h
    rw [show putF k y ((k, x) :: l) = (if k = k then (k, y) :: l else (k, x) :: putF k y l) from rfl, if_pos rfl]
    simp
  | (k, x) :: l, j + 1, n, h => by
    rw [List.map_cons, List.nodup_cons] at n
    have h' : (l.map (·.1))[j]? = some f := by simpa using h
    have hne : ¬ k = f := fun z => n.1 (by
      have e : k = f := z
      show k ∈ l.map (·.1)
      rw [e]
      exact List.mem_of_getElem? h')
    obtain ⟨e1, e2⟩ := putF_at f y n.2 h'
    rw [show putF f y ((k, x) :: l) = (if k = f then (k, y) :: l else (k, x) :: putF f y l) from rfl, if_neg hne]
    simp [e1, e2]
theorem DVs.set {g : Gx} {μ : List Addr} {H : Hp} : ∀ {ds : List D} {vs : List V} (j : Nat) {v : V} {d : D}, DVs g μ H vs ds → DV g μ H v d → DVs g μ H (vs.set j v) (ds.set j d)
  | [], _, j, _, _, h, _ => by cases h; simpa using DVs.nil
  | _ :: _, _, 0, _, _, h, r => by cases h with | cons h1 h2 => simpa using DVs.cons r h2
  | _ :: _, _, j + 1, _, _, h, r => by cases h with | cons h1 h2 => simpa using DVs.cons h1 (DVs.set j h2 r)
end
section
variable {X : Cx} {T : Tab} {E : XK} {e o value : Expr} {es : List Expr} {me mo mv : EM} {am : AM} {p pos apos : Pos} {x f : Str} {c j k : Nat} {fa : Addr} {fd : FuncData} {ps : List Str} {n : Nat} {F : List D → Store → Res D} {ds : List Value} {dvs : List V} {dds : List D}
/-! ### attributes -/
def opFld (c j : Nat) : D → Store → Res D := fun d st => match insOf st c d with
  | some fs => match fs[j]? with
    | some y => .ok y st
    | none => .bad
  | none => .bad
theorem se_fld (c j : Nat) (he : SE X T E e me) (C : Cls X.K (T.ca c)) (na : NoAttr X.K (T.ca c) f) (hf : (T.fl c)[j]? = some f) (hn : (T.fl c).Nodup) (hb : attributeBase e f X.env (eval e X.env) = eval e X.env := by rfl) :
    SE X T E (.Attribute e f pos) (mUn (opFld c j) me) := by
  refine PE.imp (pe_fld he hb) fun σ H Q h => ?_
  refine tG_mono (tG_bind (Rl := fun μ H => DV (gx X T) μ H) (k := fun ρ d st1 => opFld c j d st1) h) fun x H1 q => ?_
  obtain ⟨d, ρ, st1, μ1, r1, s1, q1, a1⟩ := q
  unfold opFld at a1
  cases e1 : insOf st1 c d with
  | none => rw [e1] at a1; exact a1.elim
  | some fs =>
    simp only [e1] at a1
    cases e2 : fs[j]? with
    | none => rw [e2] at a1; exact a1.elim
    | some y =>
      simp only [e2] at a1
      obtain ⟨a, dx, fvs, rfl, h1, h2, h3⟩ := insOf_ok s1 q1 e1
      obtain ⟨w, hw, dw⟩ := h3.get e2
      have hj : j < fs.length := (List.getElem?_eq_some_iff.mp e2).1
      exact ⟨a, _, dx, fvs, w, rfl, h1, C, na, look_at h2 (hn.sublist (List.take_sublist _ _)) (by rw [List.getElem?_take_of_lt hj]; exact hf) hw, AfterG.now a1 s1 dw⟩
def sFldD (c j : Nat) (mv mo : EM) : SM := fun ρ st => (mv ρ st).bind fun y st1 => (mo ρ st1).bind fun d st2 => match d with
  | .ref n => match st2[n]? with
    | some (.ins k fs) => if k = c then (if j = fs.length then .ok (.nx, ρ) (st2.set n (.ins c (fs ++ [y]))) else if j < fs.length then .ok (.nx, ρ) (st2.set n (.ins c (fs.set j y))) else .bad) else .bad
    | _ => .bad
  | _ => .bad
theorem ss_fld (c j : Nat) (hv : SE X T E value mv) (ho : SE X T E o mo) (C : Cls X.K (T.ca c)) (na : NoAttr X.K (T.ca c) f) (hf : (T.fl c)[j]? = some f) (hn : (T.fl c).Nodup) (hl : (T.fl c).length < 1000)
    (hs : swapsWith value (some (.Attribute o f apos)) pos.line X.env = pure false := by rfl) : SS X T E (.Assign [.Attribute o f apos] value pos) (sFldD c j mv mo) := by
  refine PS.imp (ps_fld ho hv hs) fun Dn σ H h => ?_
  refine tG_mono (tG_bindS (Rl := fun μ H => DV (gx X T) μ H) (k := fun ρ y st1 => (mo ρ st1).bind fun d st2 => match d with
  | .ref n => match st2[n]? with
    | some (.ins k fs) => if k = c then (if j = fs.length then .ok (.nx, ρ) (st2.set n (.ins c (fs ++ [y]))) else if j < fs.length then .ok (.nx, ρ) (st2.set n (.ins c (fs.set j y))) else .bad) else .bad
    | _ => .bad
  | _ => .bad) h) fun y H1 q => ?_
  obtain ⟨yd, ρ, st1, μ1, r1, s1, q1, a1⟩ := q
  refine ⟨ρ, st1, μ1, r1, s1, ?_⟩
  refine (AfterG.bindS (Rl := fun μ H => DV (gx X T) μ H) a1).mono fun x H2 q => ?_
  obtain ⟨d, st2, μ2, e2, s2, q2, a2⟩ := q
  have q1' := q1.ext e2
  have r2 := r1.ext e2
  cases d with
  | ref n =>
    dsimp only at a2
    cases hs2 : st2[n]? with
    | none => rw [hs2] at a2; exact (show False from a2).elim
    | some o2 =>
      rw [hs2] at a2
      cases o2 with
      | ins k fs =>
        dsimp only at a2
        by_cases hk : k = c
        · subst hk
          rw [if_pos rfl] at a2
          cases q2 with
          | ref hμ =>
            rename_i a
            cases s2.ref hs2 hμ with
            | ins h1 h2 h3 =>
              rename_i dx fvs
              have hm : a ∈ μ2 := List.mem_of_getElem? hμ
              have hlen : fvs.length = fs.length := by
                have := h3.length
                simpa using this
              have hle : fs.length ≤ (T.fl k).length := by
                have : (fvs.map (·.1)).length = ((T.fl k).take fs.length).length := by rw [h2]
                rw [List.length_map, List.length_take] at this
                omega
              refine ⟨a, _, dx, fvs, rfl, h1, C, na, by omega, ?_⟩
              have ex : Ext μ2 H2 μ2 (upd H2 a (.ins (T.ca k) dx (putF f y fvs))) := Ext.write hm
              have nd : (fvs.map (·.1)).Nodup := by rw [h2]; exact hn.sublist (List.take_sublist _ _)
              by_cases hj : j = fs.length
              · rw [if_pos hj] at a2
                have hnm : f ∉ fvs.map (·.1) := by
                  rw [h2]
                  intro z
                  obtain ⟨i, hi, ei⟩ := List.getElem_of_mem z
                  rw [List.getElem_take] at ei
                  have hi2 : i < fs.length := by simp at hi; omega
                  have e1 : (T.fl k)[i]? = some f := by
                    rw [← ei]
                    exact List.getElem?_eq_getElem (by simp at hi; omega)
                  have := (List.getElem?_inj (List.getElem?_eq_some_iff.mp e1).1 hn).mp (e1.trans hf.symm)
                  omega
                rw [putF_new f y hnm] at ex ⊢
                refine a2 σ μ2 _ ex (s2.put hμ (.ins upd_same ?_ ?_)) (r2.ext ex)
                · rw [List.map_append, h2, List.length_append, List.length_singleton]
                  have hj2 : fs.length < (T.fl k).length := by
                    rw [← hj]; exact (List.getElem?_eq_some_iff.mp hf).1
                  rw [List.take_succ, ← hj, hf]
                  rfl
                · rw [List.map_append]
                  exact (h3.append (.cons q1' .nil)).ext ex
              · rw [if_neg hj] at a2
                by_cases hj2 : j < fs.length
                · rw [if_pos hj2] at a2
                  obtain ⟨p1, p2⟩ := putF_at f y nd (j := j) (by rw [h2, List.getElem?_take_of_lt hj2]; exact hf)
                  refine a2 σ μ2 _ ex (s2.put hμ (.ins upd_same ?_ ?_)) (r2.ext ex)
                  · rw [p1, h2, List.length_set]
                  · rw [p2]
                    exact (h3.set j q1').ext ex
                · rw [if_neg hj2] at a2; exact (show False from a2).elim
        · rw [if_neg hk] at a2; exact (show False from a2).elim
      | _ => exact (show False from a2).elim
  | _ => exact (show False from a2).elim
/-! ### methods, properties, new instances -/
def mMethO (c : Nat) (F : List D → Store → Res D) (dds : List D) (mo : EM) (ma : AM) : EM := fun ρ st => (mo ρ st).bind fun d st1 => match insOf st1 c d with
  | some _ => (ma ρ st1).bind fun ds st2 => F (d :: (ds ++ dds)) st2
  | none => .bad
theorem tE_methO {g : Gx} {m : Str} {σ : L2.St} {H : Hp} {Q : VK} (hd : ∀ μ H, DVs g μ H dvs dds) (hm : m ∉ g.T.fl c) (h : tE g E (mMethO c (arity n F) dds mo am) σ H Q) : tMeth (g.T.ca c) m (spF g n F) dvs E (tE g E mo) (tA g E am) σ H Q := by
  refine tG_mono (tG_bind (Rl := fun μ H => DV g μ H) (k := fun ρ d st1 => match insOf st1 c d with
    | some _ => (am ρ st1).bind fun ds st2 => arity n F (d :: (ds ++ dds)) st2
    | none => .bad) h) fun x H1 q => ?_
  obtain ⟨d, ρ, st1, μ1, r1, s1, q1, a1⟩ := q
  cases e1 : insOf st1 c d with
  | none => simp only [e1] at a1; exact a1.elim
  | some fs =>
    simp only [e1] at a1
    obtain ⟨a, dx, fvs, rfl, h1, h2, h3⟩ := insOf_ok s1 q1 e1
    refine ⟨a, dx, fvs, rfl, h1, ?_, ρ, st1, μ1, r1, s1, ?_⟩
    · cases hl : fvs.lookup m with
      | none => rfl
      | some y =>
        exfalso
        have : m ∈ fvs.map (·.1) := by
          have : ∀ {l : List (Str × V)}, l.lookup m = some y → m ∈ l.map (·.1) := by
            intro l
            induction l with
            | nil => intro z; cases z
            | cons p l ih =>
              intro z
              rw [List.lookup_cons] at z
              by_cases q : m = p.1
              · simp [q]
              · rw [beq_eq_false_iff_ne.mpr q] at z
                rw [List.map_cons]
                exact List.mem_cons_of_mem _ (ih z)
          exact this hl
        rw [h2] at this
        exact hm (List.mem_of_mem_take this)
    · refine (AfterG.bind (Rl := fun μ H => DVs g μ H) a1).mono fun xs H2 q => ?_
      obtain ⟨ds, st2, μ2, e2, s2, q2, a2⟩ := q
      refine spF_arity ⟨d :: (ds ++ dds), st2, μ2, s2, .cons (q1.ext e2) (q2.append (hd _ _)), ?_, ?_⟩
      · by_cases hl : (d :: (ds ++ dds)).length = n
        · exact hl
        · rw [arity_bad hl] at a2; exact a2.elim
      · by_cases hl : (d :: (ds ++ dds)).length = n
        · simp only [arity, if_pos hl] at a2 ⊢; exact a2
        · rw [arity_bad hl] at a2; exact a2.elim
theorem se_methO {m : Str} {pl : Sem Bool} (c : Nat) (he : SE X T E o mo) (C : Cls X.K (T.ca c)) (hm : Meth X.K (T.ca c) m fa) (hfl : m ∉ T.fl c) (Fn : FnOk X.prog X.w X.K X.mg X.base (CX X.prog X.w) k fa fd ps (spF (gx X T) n F)) (hr : Room k X.A) (tk : TkE X E) (hb : Binds X.K fd ps ds) (hd : Vals dvs ds)
    (hdd : ∀ μ H, DVs (gx X T) μ H dvs dds) (ha : SA X T E (e :: es) am)
    (hst : starEach (e :: es) X.env = (false, eval e X.env) :: starEach es X.env := by rfl) (hpl : (backTo pos (starEach es X.env)).any (·.1) = false := by rfl)
    (ht : eval (.Call (.Attribute o m apos) (e :: es) [] pos) X.env = (do
      let ov ← eval o X.env
      standAt apos.atName
      let (f, first) ← holding [ov] (getMethod ov m pl)
      callWith pos f first (backTo pos (starEach (e :: es) X.env)) (backToKw pos (keywordEach [] X.env))) := by rfl) :
    SE X T E (.Call (.Attribute o m apos) (e :: es) [] pos) (mMethO c (arity n F) dds mo am) :=
  PE.imp (pe_meth he C hm Fn hr hb hd (tk_pass tk) ha hst hpl ht) fun _ _ _ h => tE_methO hdd hfl h
theorem se_methO0 {m : Str} {pl : Sem Bool} (c : Nat) (he : SE X T E o mo) (C : Cls X.K (T.ca c)) (hm : Meth X.K (T.ca c) m fa) (hfl : m ∉ T.fl c) (Fn : FnOk X.prog X.w X.K X.mg X.base (CX X.prog X.w) k fa fd ps (spF (gx X T) n F)) (hr : Room k X.A) (tk : TkE X E) (hb : Binds X.K fd ps ds) (hd : Vals dvs ds)
    (hdd : ∀ μ H, DVs (gx X T) μ H dvs dds)
    (ht : eval (.Call (.Attribute o m apos) [] [] pos) X.env = (do
      let ov ← eval o X.env
      standAt apos.atName
      let (f, first) ← holding [ov] (getMethod ov m pl)
      callWith pos f first (backTo pos (starEach [] X.env)) (backToKw pos (keywordEach [] X.env))) := by rfl) :
    SE X T E (.Call (.Attribute o m apos) [] [] pos) (mMethO c (arity n F) dds mo aNil) :=
  PE.imp (pe_meth0 he C hm Fn hr hb hd (tk_pass tk) ht) fun σ H Q h => by
    have h1 := tE_methO (m := m) hdd hfl h
    refine (show tE (gx X T) E mo σ H _ from tG_mono h1 fun x H1 q => ?_)
    obtain ⟨a, dx, fs, e1, e2, e3, ρ, st, μ, r1, s1, q1⟩ := q
    exact ⟨a, dx, fs, e1, e2, e3, AfterG.now (d := []) q1 s1 .nil⟩
/-- a property -/
def mProp (c : Nat) (F : List D → Store → Res D) (me : EM) : EM := fun ρ st => (me ρ st).bind fun d st1 => match insOf st1 c d with
  | some _ => noExn (F [d] st1)
  | none => .bad
theorem AfterG.noExn {g : Gx} {μ : List Addr} {H : Hp} {Q : VK} {E E' : XK} {r : Res D} (h : After g μ H Q E (SL.noExn r)) : After g μ H Q E' r := by
  cases r with
  | ok d st => exact h
  | exn _ _ _ => exact h.elim
  | bad => exact h
theorem se_prop {pa : Addr} (c : Nat) (he : SE X T E e me) (C : Cls X.K (T.ca c)) (hp : PropOf X.K (T.ca c) f pa fa) (Fn : FnOk X.prog X.w X.K X.mg X.base (CX X.prog X.w) k fa fd ps (spF (gx X T) 1 F)) (hr : Room (k + 1) X.A) (hb : Binds X.K fd ps [])
    (hab : attributeBase e f X.env (eval e X.env) = eval e X.env := by rfl) : SE X T E (.Attribute e f pos) (mProp c F me) := by
  refine PE.imp (pe_prop (E := fun _ _ _ => False) he C hp Fn hr hb .nil (tk_pass (X := X.nox) tkNo) hab) fun σ H Q h => ?_
  refine tG_mono (tG_bind (Rl := fun μ H => DV (gx X T) μ H) (k := fun ρ d st1 => match insOf st1 c d with
    | some _ => noExn (F [d] st1)
    | none => .bad) h) fun x H1 q => ?_
  obtain ⟨d, ρ, st1, μ1, r1, s1, q1, a1⟩ := q
  cases e1 : insOf st1 c d with
  | none => simp only [e1] at a1; exact a1.elim
  | some fs =>
    simp only [e1] at a1
    obtain ⟨a, dx, fvs, rfl, h1, h2, h3⟩ := insOf_ok s1 q1 e1
    exact ⟨a, dx, fvs, rfl, h1, [d], st1, μ1, s1, .cons q1 .nil, rfl, AfterG.noExn a1⟩
def opMk (i : Nat) : D → Store → Res D := fun r st2 => match r with
  | .non => .ok (.ref i) st2
  | _ => .bad
def mMake (c : Nat) (F : List D → Store → Res D) (dds : List D) (ma : AM) : EM := fun ρ st => (ma ρ st).bind fun ds st1 => (F (D.ref st1.length :: (ds ++ dds)) (st1 ++ [MO.ins c []])).bind (opMk st1.length)
theorem tE_make {g : Gx} {σ : L2.St} {H : Hp} {Q : VK} (hd : ∀ μ H, DVs g μ H dvs dds) (h : tE g E (mMake c (arity n F) dds am) σ H Q) : tMake (g.T.ca c) (spF g n F) dvs E (tA g E am) σ H Q := by
  refine tG_mono (tG_bind (Rl := fun μ H => DVs g μ H) (k := fun ρ ds st1 => (arity n F (D.ref st1.length :: (ds ++ dds)) (st1 ++ [MO.ins c []])).bind (opMk st1.length)) h) fun xs H1 q => ?_
  obtain ⟨ds, ρ, st1, μ1, r1, s1, q1, a1⟩ := q
  intro x dx hx hdx hne
  have h1 : (upd H1 dx (.own x)) x = none := by rw [upd_ne (Ne.symm hne)]; exact hx
  have s2 : Sto g μ1 (upd H1 dx (.own x)) st1 := s1.same (SameH.new hdx)
  have e2 : Ext μ1 H1 μ1 (upd H1 dx (.own x)) := Ext.new hdx
  have e3 : Ext μ1 (upd H1 dx (.own x)) (μ1 ++ [x]) (upd (upd H1 dx (.own x)) x (.ins (g.T.ca c) dx [])) := Ext.newRef h1
  have s3 : Sto g (μ1 ++ [x]) (upd (upd H1 dx (.own x)) x (.ins (g.T.ca c) dx [])) (st1 ++ [.ins c []]) := s2.push h1 (.ins upd_same rfl .nil)
  have hx1 : (μ1 ++ [x])[st1.length]? = some x := by rw [s1.len]; simp
  have a2 : After g _ _ Q E _ := AfterG.ext (e2.trans e3) a1
  have hl : (D.ref st1.length :: (ds ++ dds)).length = n := by
    by_cases hl : (D.ref st1.length :: (ds ++ dds)).length = n
    · exact hl
    · rw [arity_bad hl] at a2; exact a2.elim
  simp only [arity, if_pos hl] at a2
  refine ⟨_, _, _, s3, .cons (.ref hx1) ((q1.ext (e2.trans e3)).append (hd _ _)), hl, ?_⟩
  refine (AfterG.bind (Rl := fun μ H => DV g μ H) a2).mono fun v H2 q => ?_
  obtain ⟨d, st4, μ4, e4, s4, q4, a4⟩ := q
  cases d with
  | non =>
    cases q4
    exact ⟨rfl, AfterG.now a4 s4 (.ref (e4.get hx1))⟩
  | _ => exact a4.elim
theorem se_make (c : Nat) (M : Mk X.K (T.ca c) fa) (Fn : FnOk X.prog X.w X.K X.mg X.base (CX X.prog X.w) k fa fd ps (spF (gx X T) n F)) (hr : Room (k + 1) X.A) (tk : TkE X E) (hm : X.mg x = some (.ref (T.ca c))) (hb : Binds X.K fd ps ds) (hd : Vals dvs ds) (hdd : ∀ μ H, DVs (gx X T) μ H dvs dds)
    (ha : SA X T E (e :: es) am) (hg : Gl X x := by rfl) (hdb : (x == ("__debug__" : Str)) = false := by decide) (he : starEach (e :: es) X.env = (false, eval e X.env) :: starEach es X.env := by rfl) (hpl : (backTo pos (starEach es X.env)).any (·.1) = false := by rfl) :
    SE X T E (.Call (.Name x p) (e :: es) [] pos) (mMake c (arity n F) dds am) :=
  PE.imp (pe_make M Fn hr hg hm hb hd (tk_pass tk) ha hdb he hpl) fun _ _ _ h => tE_make hdd h
end
end SL
set_option maxRecDepth 100000
set_option maxHeartbeats 2000000
/-! Layer S: subscripts stored; ranges, enumerate, zip, walked. -/
namespace SL
open PySem PySem.Spec PyProof.Rows L2

/-- o[i] = y -/
def setD (o i y : D) (st : Store) : Option Store := match o with
  | .ref n => match st[n]? with
    | some (.dic t kvs) => match dKey t i with
      | some k => if kvs.length < sizeLine then some (st.set n (.dic t (dSet kvs i k y))) else none
      | none => none
    | some (.lst xs) => match i with
      | .int j => match ixN xs.length j with
        | some k => some (st.set n (.lst (xs.set k y)))
        | none => none
      | _ => none
    | _ => none
  | _ => none
def gmSub (mo mi : EM) : GM := fun y ρ st => (mo ρ st).bind fun o st1 => (mi ρ st1).bind fun i st2 => match setD o i y st2 with
  | some st3 => .ok ρ st3
  | none => .bad
def rSet (g : Gx) : V → V → V → Hp → (Hp → Prop) → Prop := fun o i v H Q => ∃ od ik vd st μ, Sto g μ H st ∧ DV g μ H o od ∧ DV g μ H i ik ∧ DV g μ H v vd ∧ ∃ st', setD od ik vd st = some st' ∧ ∀ H', Ext μ H μ H' → Sto g μ H' st' → Q H'
section
variable {X : Cx} {T : Tab} {E : XK} {e o i : Expr} {me mo mi : EM} {pos p : Pos}
theorem set_D (hu : X.A.units + 65 < cLine) : PSet X (rSet (gx X T)) := by
  intro pins s σ H o i v ov iv u Q I ro ri rv h
  obtain ⟨od, ik, vd, st, μ, S, d1, d2, d3, st', e, q⟩ := h
  unfold setD at e
  split at e
  · rename_i n
    split at e
    · rename_i t kvs hs
      cases ek : dKey t ik with
      | none => simp only [ek] at e; cases e
      | some k =>
        simp only [ek] at e
        by_cases c : kvs.length < sizeLine
        · rw [if_pos c] at e
          cases e
          cases d1 with
          | ref hμ =>
            cases ro
            exact dic_set hu I S hs hμ ek d2 ri rv d3 c fun H' s' I' ex S' => ⟨H', I', q H' ex S'⟩
        · rw [if_neg c] at e; cases e
    · rename_i xs hs
      split at e
      · rename_i j
        cases ek : ixN xs.length j with
        | none => simp only [ek] at e; cases e
        | some k =>
          simp only [ek] at e
          cases e
          obtain ⟨a, vs, rfl, hμ, hH, hv⟩ := ref_lst S d1 hs
          cases d2
          have ex : Ext μ H μ (upd H a (.lst (vs.set k v))) := Ext.write (List.mem_of_getElem? hμ)
          refine set_list pins s σ H _ _ v ov iv u Q I ro ri rv ⟨a, vs, j, k, rfl, rfl, hH, by rw [hv.length]; exact ek, q _ ex (S.put hμ (.lst upd_same ((hv.set k d3).ext ex)))⟩
      · cases e
    · cases e
  · cases e
theorem sg_sub (hu : X.A.units + 65 < cLine) (ho : SE X T E o mo) (hi : SE X T E i mi)
    (ha : ∀ v, assign (.Subscript o i pos) X.env v = (do
      let ov ← holding [v] (eval o X.env)
      let iv ← holding [v, ov] (eval i X.env)
      standAt pos
      holding [v, ov, iv] (setItem ov iv v)
      release [v, ov, iv] []) := by intro _; rfl) : SG X T E (.Subscript o i pos) (gmSub mo mi) := by
  refine PG.imp (pg_sub ho hi (set_D (T := T) hu) ha) fun v σ H Q h => ?_
  obtain ⟨y, ρ, st, μ, dy, r, S, a⟩ := h
  refine ⟨ρ, st, μ, r, S, ?_⟩
  refine (AfterG.bind (Rl := fun μ H => DV (gx X T) μ H) a).mono fun x H1 q => ?_
  obtain ⟨d, st1, μ1, e1, s1, q1, a1⟩ := q
  refine ⟨ρ, st1, μ1, r.ext e1, s1, ?_⟩
  refine (AfterG.bind (Rl := fun μ H => DV (gx X T) μ H) a1).mono fun x H2 q => ?_
  obtain ⟨ik, st2, μ2, e2, s2, q2, a2⟩ := q
  cases es : setD d ik y st2 with
  | none => simp only [es] at a2; exact a2.elim
  | some st3 =>
    simp only [es] at a2
    exact ⟨d, ik, y, st2, μ2, s2, q1.ext e2, q2, (dy.ext e1).ext e2, st3, es, fun H' ex S' => a2 σ μ2 H' ex S' (((r.ext e1).ext e2).ext ex)⟩
/-! ### ranges -/
def rngS (lo : Int) (n : Nat) : Src := fun k _ => some (if k < n then some (.int (lo + k)) else none)
theorem walk_rng {g : Gx} {lo : Int} {n : Nat} {μ : List Addr} {H : Hp} : WalkOk g (rngS lo n) (Itr lo n) μ H := by
  intro k μ' H' st' e s
  refine ⟨fun d q => ?_, fun q => ?_⟩
  · unfold rngS at q
    by_cases c : k < n
    · rw [if_pos c] at q
      cases q
      refine ⟨c, fun x H2 y => ?_⟩
      obtain ⟨rfl, rfl⟩ := y
      exact ⟨fun _ _ h => h, .int _⟩
    · rw [if_neg c] at q; cases q
  · unfold rngS at q
    by_cases c : k < n
    · rw [if_pos c] at q; cases q
    · exact Nat.le_of_not_lt c
def okR (i : Int) : Bool := decide (-(2 ^ 62) ≤ i) && decide (i < 2 ^ 62)
def mRng1 (m : EM) : IM := fun ρ st => (m ρ st).bind fun d st1 => match d with
  | .int j => if okR j = true then .ok (rngS 0 j.toNat, j.toNat + 1) st1 else .bad
  | _ => .bad
def mRng2 (m k : EM) : IM := fun ρ st => (m ρ st).bind fun d st1 => (k ρ st1).bind fun c st2 => match d, c with
  | .int i, .int j => if okR i = true ∧ okR j = true then .ok (rngS i (j - i).toNat, (j - i).toNat + 1) st2 else .bad
  | _, _ => .bad
abbrev RW_ (g : Gx) : List Addr → Hp → It → Src × Nat → Prop := fun μ H J p => WalkOk g p.1 J μ H
theorem okR_ok {i : Int} (h : okR i = true) : -(2 ^ 62) ≤ i ∧ i < 2 ^ 62 := by
  simp only [okR, Bool.and_eq_true, decide_eq_true_eq] at h
  exact h
variable {tg : Expr}
theorem si_rng1 (ha : SE X T E e me) (hm : X.mg "range" = none) (hg : Gl X "range" := by rfl) (hs : starEach [e] X.env = [(false, eval e X.env)] := by rfl) : SI X T E tg (.Call (.Name "range" p) [e] [] pos) (mRng1 me) := by
  refine PI.imp (pi_range1 hg hm (pa_cons ha pa_nil hs) hs) fun σ H R h => ?_
  refine tG_mono (tG_bind (Rl := fun μ H => DV (gx X T) μ H) (Rm := RW_ (gx X T)) (k := fun _ d st1 => match d with
    | .int j => if okR j = true then Res.ok (rngS 0 j.toNat, j.toNat + 1) st1 else .bad
    | _ => .bad) h) fun x H1 q => ?_
  obtain ⟨d, ρ, st1, μ1, r1, s1, q1, a1⟩ := q
  cases d with
  | int j =>
    dsimp only at a1
    by_cases c : okR j = true
    · rw [if_pos c] at a1
      cases q1
      exact ⟨j, rfl, (okR_ok c).1, (okR_ok c).2, AfterG.now a1 s1 walk_rng⟩
    · rw [if_neg c] at a1; exact a1.elim
  | _ => exact a1.elim
theorem si_rng2 {e2 : Expr} {mf : EM} (ha : SE X T E e me) (hb : SE X T E e2 mf) (hm : X.mg "range" = none) (hg : Gl X "range" := by rfl) (hs : starEach [e, e2] X.env = [(false, eval e X.env), (false, eval e2 X.env)] := by rfl) (hs2 : starEach [e2] X.env = [(false, eval e2 X.env)] := by rfl) : SI X T E tg (.Call (.Name "range" p) [e, e2] [] pos) (mRng2 me mf) := by
  refine PI.imp (pi_range2 hg hm (pa_cons ha (pa_cons hb pa_nil hs2) (by rw [hs, hs2])) hs hs2) fun σ H R h => ?_
  refine tG_mono (tG_bind (Rl := fun μ H => DV (gx X T) μ H) (Rm := RW_ (gx X T)) (k := fun ρ d st1 => (mf ρ st1).bind fun c st2 => match d, c with
    | .int i, .int j => if okR i = true ∧ okR j = true then Res.ok (rngS i (j - i).toNat, (j - i).toNat + 1) st2 else .bad
    | _, _ => .bad) h) fun x H1 q => ?_
  obtain ⟨d, ρ, st1, μ1, r1, s1, q1, a1⟩ := q
  refine ⟨ρ, st1, μ1, r1, s1, ?_⟩
  refine (AfterG.bind (Rl := fun μ H => DV (gx X T) μ H) a1).mono fun y H2 q => ?_
  obtain ⟨c, st2, μ2, e2, s2, q2, a2⟩ := q
  cases d with
  | int i =>
    cases c with
    | int j =>
      dsimp only at a2
      by_cases c : okR i = true ∧ okR j = true
      · rw [if_pos c] at a2
        cases q1
        cases q2
        exact ⟨i, j, rfl, ⟨(okR_ok c.1).1, (okR_ok c.1).2, (okR_ok c.2).1, (okR_ok c.2).2⟩, AfterG.now a2 s2 walk_rng⟩
      · rw [if_neg c] at a2; exact a2.elim
    | _ => exact a2.elim
  | _ => exact a2.elim
end
end SL
set_option maxRecDepth 100000
set_option maxHeartbeats 2000000
/-! Layer S: enumerate and zip of lists and tuples. -/
namespace SL
open PySem PySem.Spec PyProof.Rows L2

/-- a tuple (t), a list -/
def SqK (t : Bool) (K : PySem.W.Frag) (H : Hp) (a : Addr) (xs : List V) : Prop := match t with
  | true => SqT K H a xs
  | false => SqL K H a xs
def ItOf (t : Bool) (h : Heap) (it a : Addr) (i : Nat) : Prop := match t with
  | true => h.IsTupleIter it a i
  | false => h.IsListIter it a i
def IsOf (t : Bool) (h : Heap) (a : Addr) (its : Array Value) : Prop := match t with
  | true => h.IsTuple a its
  | false => h.IsList a its
def itObj (t : Bool) (a : Addr) : Obj := match t with
  | true => { cls := .type "tuple_iterator", data := .fields #[.ref a, .int 0 0] }
  | false => { cls := .type "list_iterator", data := .fields #[.ref a, .int 0 0] }
theorem draws_of (t : Bool) {prog : Program} {w : World} {A : Around} (hh : A.handled = none) (it a : Addr) (hne : a ≠ it) (items : Array Value) :
    Draws prog w A it [it, a] items.size (fun i v => items[i]? = some v) (fun i h => ItOf t h it a i ∧ IsOf t h a items) := by
  cases t
  · exact Draws.list hh it a hne items
  · exact Draws.tuple hh it a hne items
theorem begins_of (t : Bool) (a : Addr) (items : Array Value) : Begins (.ref a) (itObj t a) fun h => IsOf t h a items := by
  cases t
  · exact begins_list a items
  · exact begins_tuple a items
theorem ItOf.new {t : Bool} {h : Heap} {it a : Addr} (e : h.get? it = some (itObj t a)) : ItOf t h it a 0 := by
  cases t
  · exact ⟨_, e, rfl, rfl⟩
  · exact ⟨_, e, rfl, rfl⟩
theorem ItOf.at_ {t : Bool} {h h' : Heap} {it a : Addr} {i : Nat} (x : ItOf t h it a i) (k : ∀ o, h.get? it = some o → h'.get? it = some o) : ItOf t h' it a i := by
  cases t
  · exact Heap.IsListIter.at x k
  · exact Heap.IsTupleIter.at x k
theorem ItOf.obj {t : Bool} {h : Heap} {it a : Addr} {i : Nat} (x : ItOf t h it a i) : ∃ o, h.get? it = some o ∧ ∀ v, o.data ≠ .cell v := by
  cases t
  · obtain ⟨o, e, _, d⟩ := x
    exact ⟨o, e, fun v q => by rw [d] at q; cases q⟩
  · obtain ⟨o, e, _, d⟩ := x
    exact ⟨o, e, fun v q => by rw [d] at q; cases q⟩
section
variable {X : Cx} {pins : List (Addr × Obj)} {σ : L2.St} {H : Hp} {s : Shared}
theorem sqk_is (I : Inv X pins σ H s) {t : Bool} {a : Addr} {xs : List V} (h : SqK t X.K H a xs) : ∃ its, Vals xs its ∧ IsOf t s.heap a its.toArray := by
  cases t
  · obtain ⟨its, r, p, _⟩ := I.list h
    exact ⟨its, r, p.isList⟩
  · obtain ⟨its, r, p, _⟩ := I.tuple h
    exact ⟨its, r, p⟩
theorem sqk_inj (I : Inv X pins σ H s) {t : Bool} {a : Addr} {xs ys : List V} (h : SqK t X.K H a xs) (h' : SqK t X.K H a ys) : xs = ys := by
  cases t
  · exact I.list_inj h h'
  · exact I.tuple_inj h h'
theorem IsOf.lt {t : Bool} {h : Heap} {a : Addr} {its : Array Value} (x : IsOf t h a its) : a < h.objs.size := by
  cases t
  · obtain ⟨_, e, _⟩ := x; exact Heap.lt_size e
  · obtain ⟨_, e, _⟩ := x; exact Heap.lt_size e
end
/-! ### enumerate -/
def IteK (t : Bool) (K : PySem.W.Frag) (a : Addr) : It :=
  ⟨fun i H => ∃ (xs : List V) (x : V), SqK t K H a xs ∧ xs[i]? = some x, fun i H v H' => ∃ T x, v = .ref T ∧ H T = none ∧ H' = upd H T (.tup [.int (i : Nat), x]) ∧ ∀ xs, SqK t K H a xs → xs[i]? = some x, fun i H => ∃ xs : List V, SqK t K H a xs ∧ xs.length = i⟩
theorem turn_enumK {P : Program} {w : World} {K : PySem.W.Frag} {elts : List Expr} {kk : Nat} {tpos : Pos} (t : Bool) (a e it : Addr) (he0 : e ∉ [it, a]) (hia : a ≠ it) :
    Turn P w K (.Tuple elts kk tpos) (IteK t K a) [e, it] e (fun i h => (∃ old, IsEnum h e it ((i : Nat) : Int) old) ∧ ItOf t h it a i) where
  mem := by simp
  obj := fun i h st b hb => by
    obtain ⟨⟨old, he⟩, ho⟩ := st
    have e' : b = e ∨ b = it := by simpa using hb
    rcases e' with z | z
    · rw [z]; exact ⟨_, he, fun v q => nomatch q⟩
    · rw [z]; exact ho.obj
  keep := fun i h h' st k => let ⟨⟨old, he⟩, hi⟩ := st; ⟨⟨old, k e (by simp) _ he⟩, hi.at_ fun o q => k it (by simp) o q⟩
  item := by
    intro X hP hw hK hc i pins s σ H E I hf st hg
    subst hP hw hK
    obtain ⟨⟨old, he⟩, hit⟩ := st
    obtain ⟨xs, x, hq, hx⟩ := hg
    obtain ⟨its, rv, p⟩ := sqk_is I hq
    obtain ⟨u, hu, ru⟩ := rv.get hx
    have hne : e ≠ it := fun z => he0 (by simp [z])
    have hel : e < s.heap.objs.size := Heap.lt_size he
    have hil : it < s.heap.objs.size := by obtain ⟨_, q, _⟩ := hit.obj; exact Heap.lt_size q
    have hlt : i < its.toArray.size := by
      have := (List.getElem?_eq_some_iff.mp hu).1
      simpa using this
    refine wpAny_pyNext_enum_itemD (draws_of t (A := X.A.in1) (I.ok.hd hc) it a hia its.toArray) he ⟨hit, p⟩ hlt hne he0 fun y h' tk hP ho hit' hT hsz hk => ?_
    have ey : y = u := by
      have hu' : its.toArray[i]? = some u := by simpa using hu
      exact Option.some.inj (hP.symm.trans hu')
    subst ey
    refine ⟨_, rfl, wpAny_letOwnedTupleGo_enum (s := { s with heap := h', toks := tk + 1 }) ho fun h'' he' sb => ?_⟩
    have hT2 : h''.get? s.heap.objs.size = some { cls := .type "tuple", data := .seq #[.int i tk, y] } := (sb.2 _ (Nat.ne_of_gt hel)).trans hT
    have new : ObjOk X.prog X.w (upd H s.heap.objs.size (.tup [.int (i : Nat), x])) h'' s.heap.objs.size (.tup [.int (i : Nat), x]) :=
      ⟨by show 2 ≤ sizeLine; decide, [.int i tk, y], .cons ⟨_, rfl⟩ (.cons ru .nil), ⟨_, hT2, rfl, _, rfl⟩⟩
    have I1 : Inv X pins σ (upd H s.heap.objs.size (.tup [.int (i : Nat), x])) { s with heap := h'', toks := tk + 1 } :=
      I.turnedNew (ch := [e, it]) (fun b ob hb q => (sb.2 b (fun z => hb (by simp [z]))).trans (hk b ob (fun z => hb (by simp [z])) (fun z => hb (by simp [z])) q)) hf (Nat.le_refl _) new
    refine ⟨.ref s.heap.objs.size, _, I1, rfl, ⟨_, x, rfl, I.hok.fresh (Nat.le_refl _), rfl, fun ys hy => by rw [sqk_inj I hy hq]; exact hx⟩, ⟨⟨y, ?_⟩, hit'.1.at_ fun o q => (sb.2 it (Ne.symm hne)).trans q⟩, fun b hb => ?_⟩
    · have e1 : ((i + 1 : Nat) : Int) = (i : Int) + 1 := by omega
      rw [e1]; exact he'
    · have hb' : b < s.heap.objs.size := by
        have e' : b = e ∨ b = it := by simpa using hb
        rcases e' with z | z
        · rw [z]; exact hel
        · rw [z]; exact hil
      rw [upd_ne (Nat.ne_of_lt hb')]
      exact (hf b hb).1
  done := by
    intro X hP hw hK hc i pins s σ H E I hf st hg
    subst hP hw hK
    obtain ⟨⟨old, he⟩, hit⟩ := st
    obtain ⟨xs, hq, hx⟩ := hg
    obtain ⟨its, rv, p⟩ := sqk_is I hq
    obtain ⟨f0, f1, f2, f3, f4, f5⟩ := hf it (by simp)
    have hl := rv.length
    have ei : i = its.toArray.size := by simp; omega
    subst ei
    exact wpAny_pyNext_enum_endD (draws_of t (A := X.A.in1) (I.ok.hd hc) it a hia its.toArray) he ⟨hit, p⟩ fun h' eb => ⟨rfl, I.turned (t' := s.toks) (fun b o hb q => eb b o hb q) f0 f1 f3 f4 f5⟩
  self := fun A i s Q E st h => let ⟨⟨_, he⟩, _⟩ := st; wpAny_pyIter_enum he h
theorem meets_enum1 {v : Value} {o : Obj} {H : Heap → Prop} (B : Begins v o H) :
    Meets (Builtin.«enumerate.__new__» ⟨[.type "enumerate", v], []⟩) (fun _ R s => H s.heap ∧
      R (.ok (.ret (.ref (s.heap.push o).objs.size))) { s with heap := (s.heap.push o).push { cls := .type "enumerate", data := .fields #[.none, .bool false, .ref s.heap.objs.size, rawInt 0, .none, .none] } }) :=
  .of_wp fun prog w A R s h => by
    obtain ⟨hp, g, d, tk, os⟩ := s; obtain ⟨h1, h⟩ := h
    have hsub := sub_enumerate
    have q1 : ∀ {A' : Around} {E : Value → Shared → Prop} {Q : Value → Shared → Prop}, Q (.ref hp.objs.size) ⟨hp.push o, g, d, tk, os⟩ → wpAny (model prog w) A' (pyIter v) Q E ⟨hp, g, d, tk, os⟩ :=
      fun q => B.iter prog w _ _ ⟨hp, g, d, tk, os⟩ _ h1 q
    wp_walk using q1
    refine wpAny_stack_any fun st => wpAny_pure ?_
    split
    · rename_i c _ _ _ _ _
      cases (c == Value.type "enumerate")
      · wp_walk using q1
        exact ⟨_, rfl, h⟩
      · wp_walk using q1
        exact ⟨_, rfl, h⟩
    · wp_walk using q1
      exact ⟨_, rfl, h⟩
section
variable {prog : Program} {w : World} {A : Around} {E : Value → Shared → Prop} {s : Shared}
theorem call_enum1 {v : Value} {o : Obj} {H : Heap → Prop} {Q : Value → Shared → Prop} (B : Begins v o H) (h1 : H s.heap)
    (h : ∀ h', IsEnum h' (s.heap.objs.size + 1) s.heap.objs.size 0 .none → h'.get? s.heap.objs.size = some o → h'.objs.size = s.heap.objs.size + 2 →
      (∀ b o, s.heap.get? b = some o → h'.get? b = some o) → Q (.ref (s.heap.objs.size + 1)) { s with heap := h' }) :
    wpAny (model prog w) A (call (.type "enumerate") [v]) Q E s := by
  refine callType_new F.called_enumerate (by decide) (F.typeCall_enumerate_1 _) (F.newCall_enumerate_1 _) (fun obj => F.args_object_init_2 obj _) F.entry_enumerate_new
    (meets_enum1 B) ⟨h1, ?_⟩
  have hz : (s.heap.push o).objs.size = s.heap.objs.size + 1 := Heap.size_push ..
  show _ ∧ _
  rw [hz]
  have he : IsEnum ((s.heap.push o).push { cls := .type "enumerate", data := .fields #[.none, .bool false, .ref s.heap.objs.size, rawInt 0, .none, .none] }) (s.heap.objs.size + 1) s.heap.objs.size 0 .none := by
    have := Heap.get?_push_size (s.heap.push o) (o := { cls := .type "enumerate", data := .fields #[.none, .bool false, .ref s.heap.objs.size, rawInt 0, .none, .none] }) rfl
    rw [hz] at this; exact this
  exact ⟨⟨_, he, rfl⟩, h _ he (Heap.get?_push_of_some _ (Heap.get?_push_size _ B.free)) (by rw [Heap.size_push, hz]) fun b o x => Heap.get?_push_of_some _ (Heap.get?_push_of_some _ x)⟩
end
/-- the items of a list or a tuple, by the store -/
abbrev Lsrc := Store → Option (List D)
def SeqAt_ (g : Gx) (μ : List Addr) (H : Hp) (t : Bool) (a : Addr) (L : Lsrc) : Prop := ∀ μ' H' st' ds, Ext μ H μ' H' → Sto g μ' H' st' → L st' = some ds → ∃ xs, SqK t g.K H' a xs ∧ DVs g μ' H' xs ds
def srcL (d : D) : Lsrc := match d with
  | .lst ds => fun _ => some ds
  | .tup ds => fun _ => some ds
  | .ref n => fun st => match st[n]? with
    | some (.lst ds) => some ds
    | _ => none
  | _ => fun _ => none
theorem srcL_eq (d : D) (st : Store) : srcL d st = seqOf st d := by
  cases d <;> rfl
theorem srcL_ok {g : Gx} {μ : List Addr} {H : Hp} {st : Store} {d : D} {v : V} {ds : List D} (S : Sto g μ H st) (h : DV g μ H v d) (e : srcL d st = some ds) : ∃ t a, v = .ref a ∧ SeqAt_ g μ H t a (srcL d) ∧ ∃ xs, SqK t g.K H a xs ∧ DVs g μ H xs ds := by
  cases d with
  | tup xs =>
    cases h with
    | tup h1 h2 =>
      simp only [srcL, Option.some.injEq] at e
      subst e
      refine ⟨true, _, rfl, fun μ' H' st' ds ex S' e => ?_, _, h1.sq, h2⟩
      simp only [srcL, Option.some.injEq] at e
      subst e
      exact ⟨_, (h1.ext ex).sq, h2.ext ex⟩
  | lst xs =>
    cases h with
    | lst h1 n h2 =>
      simp only [srcL, Option.some.injEq] at e
      subst e
      refine ⟨false, _, rfl, fun μ' H' st' ds ex S' e => ?_, _, .inl h1, h2⟩
      simp only [srcL, Option.some.injEq] at e
      subst e
      exact ⟨_, .inl (ex.rd h1 n).1, h2.ext ex⟩
  | ref n =>
    cases h with
    | ref h1 =>
      have key : ∀ μ' H' st' ds, Ext μ H μ' H' → Sto g μ' H' st' → srcL (.ref n) st' = some ds → ∃ xs, SqK false g.K H' _ xs ∧ DVs g μ' H' xs ds := fun μ' H' st' ds ex S' e => by
        have hh := ex.get h1
        unfold srcL at e
        dsimp only at e
        cases q : st'[n]? with
        | none => rw [q] at e; cases e
        | some o =>
          rw [q] at e
          cases o with
          | lst ys =>
            simp at e; subst e
            cases S'.ref q hh with
            | lst h2 h3 => exact ⟨_, .inl (.inl h2), h3⟩
          | _ => cases e
      exact ⟨false, _, rfl, key, key μ H st ds .refl S e⟩
  | _ => simp [srcL] at e
theorem notin_none {g : Gx} {μ : List Addr} {H : Hp} {st : Store} {p : Addr} (S : Sto g μ H st) (hp : H p = none) : p ∉ μ := fun hm => by
  obtain ⟨i, hi, e⟩ := List.getElem_of_mem hm
  have hi2 : i < st.length := by rw [S.len]; exact hi
  have e1 := List.getElem?_eq_getElem hi2
  generalize st[i] = o1 at e1
  obtain ⟨b, e2, m2⟩ := S.at_ i o1 e1
  rw [List.getElem?_eq_getElem hi, e] at e2
  cases e2
  cases m2 with
  | lst h1 _ => rw [hp] at h1; cases h1
  | dic h1 => rw [hp] at h1; cases h1
  | ins h1 => rw [hp] at h1; cases h1
def enumS (L : Lsrc) : Src := fun k st => match L st with
  | some ds => match ds[k]? with
    | some d => some (some (.tup [.int k, d]))
    | none => if ds.length = k then some none else none
  | none => none
theorem walk_enum {g : Gx} {t : Bool} {a : Addr} {L : Lsrc} {μ : List Addr} {H : Hp} (h : SeqAt_ g μ H t a L) : WalkOk g (enumS L) (IteK t g.K a) μ H := by
  intro k μ' H' st' ex S
  unfold enumS
  cases e : L st' with
  | none => simp
  | some ds =>
    obtain ⟨xs, h1, h2⟩ := h μ' H' st' ds ex S e
    cases ek : ds[k]? with
    | none =>
      refine ⟨fun d q => ?_, fun q => ?_⟩
      · simp only [ek] at q
        by_cases c : ds.length = k <;> simp [c] at q
      · simp only [ek] at q
        by_cases c : ds.length = k
        · exact ⟨xs, h1, by rw [h2.length]; exact c⟩
        · simp [c] at q
    | some d0 =>
      obtain ⟨x0, hx, dx⟩ := h2.get ek
      refine ⟨fun d q => ?_, fun q => ?_⟩
      · simp only [ek, Option.some.injEq] at q
        subst q
        refine ⟨⟨xs, x0, h1, hx⟩, fun x H2 y => ?_⟩
        obtain ⟨p, x', rfl, hp, rfl, hy⟩ := y
        have e2 : x' = x0 := by
          have := hy xs h1
          rw [hx] at this
          exact (Option.some.inj this).symm
        subst e2
        have sm := SameH.new (o := .tup [.int (k : Nat), x']) hp
        exact ⟨sm, .tup (.inl ⟨.inl upd_same, notin_none S hp⟩) (.cons (.int _) (.cons (dx.ext (sm.ext _)) .nil))⟩
      · simp [ek] at q
section
variable {X : Cx} {T : Tab} {E : XK} {e e2 : Expr} {me mf : EM} {pos p tpos : Pos} {elts : List Expr} {kk : Nat}
/-- enumerate(x): at most so many turns -/
def fEnum (fuel : Nat) : D → Store → Res (Src × Nat) := fun d st1 => match srcL d st1 with
  | some ds => .ok (enumS (srcL d), ds.length + 1 + fuel) st1
  | none => .bad
theorem enum_run {pins : List (Addr × Obj)} {s : Shared} {σ : L2.St} {H : Hp} {x : V} {u : Value} {R : It → Hp → Prop} (fuel : Nat) (I : Inv X pins σ H s) (r : RelV x u) (q : rIt (gx X T) E (fEnum fuel) x H R) :
    wpAny (model X.prog X.w) X.A (call (.type "enumerate") [u]) (fun v s1 => wpAny (model X.prog X.w) X.A (pyIter v) (PIE X pins σ (.Tuple elts kk tpos) R) X.xe s1) X.xe s := by
  obtain ⟨d, st1, μ1, S, dv, a⟩ := q
  unfold fEnum at a
  cases es : srcL d st1 with
  | none => simp only [es] at a; exact a.elim
  | some ds =>
    simp only [es] at a
    obtain ⟨t, b, rfl, sq, xs, h2, h3⟩ := srcL_ok S dv es
    cases r
    obtain ⟨its, rv, p'⟩ := sqk_is I h2
    have hb := p'.lt
    refine call_enum1 (begins_of t b its.toArray) p' fun h' he hit hsz hk => wpAny_pyIter_enum he ?_
    have I2 : Inv X pins σ H { s with heap := h' } := I.kept (t' := s.toks) hk
    refine ⟨s.heap.objs.size + 1, [s.heap.objs.size + 1, s.heap.objs.size], _, _, H, rfl, I2, turn_enumK t b (s.heap.objs.size + 1) s.heap.objs.size ?_ (Nat.ne_of_lt hb), ⟨⟨.none, he⟩, ItOf.new hit⟩, fun c hc => ?_, AfterG.now a S (walk_enum sq)⟩
    · intro z
      have e' : s.heap.objs.size + 1 = s.heap.objs.size ∨ s.heap.objs.size + 1 = b := by simpa using z
      rcases e' with z | z
      · exact absurd z (Nat.succ_ne_self _)
      · rw [← z] at hb; exact absurd hb (Nat.not_lt.mpr (Nat.le_succ _))
    · have e' : c = s.heap.objs.size + 1 ∨ c = s.heap.objs.size := by simpa using hc
      have hle : s.heap.objs.size ≤ c := by
        rcases e' with z | z
        · rw [z]; exact Nat.le_add_right _ _
        · rw [z]; exact Nat.le_refl _
      exact I.fpOk hle (I.hok.fresh hle)
theorem si_enum (fuel : Nat) (ha : SE X T E e me) (hm : X.mg "enumerate" = none) (hg : Gl X "enumerate" := by rfl) (hs : starEach [e] X.env = [(false, eval e X.env)] := by rfl) : SI X T E (.Tuple elts kk tpos) (.Call (.Name "enumerate" p) [e] [] pos) (mIt (fEnum fuel) me) := by
  refine ⟨fun pins s σ H R I h => ?_⟩
  have h1 : tCons (tE (gx X T) E me) tNil σ H (fun vs H1 => ∃ x, vs = [x] ∧ rIt (gx X T) E (fEnum fuel) x H1 R) := by
    refine tG_mono (tG_bind (Rl := fun μ H => DV (gx X T) μ H) (Rm := RW_ (gx X T)) (k := fun _ d st1 => fEnum fuel d st1) h) fun x H1 q => ?_
    obtain ⟨d, ρ, st1, μ1, r1, s1, q1, a1⟩ := q
    exact ⟨x, rfl, d, st1, μ1, s1, q1, a1⟩
  refine Call_ (ld_blt I hg hm boot_enumerate (PyProof.Rows.callWith_type1 (thn ((pa_cons ha pa_nil hs).run pos pins s σ H _ I h1) fun us s1 ⟨vs, H1, I1, r1, q1⟩ => ?_) hs rfl))
  obtain ⟨x, rfl, q⟩ := q1
  obtain ⟨u, rfl, ru⟩ := vals1 r1
  exact enum_run fuel I1 ru q
/-! ### zip -/
def ItzK (t1 t2 : Bool) (K : PySem.W.Frag) (a b : Addr) : It :=
  ⟨fun i H => ∃ (xs ys : List V) (x y : V), SqK t1 K H a xs ∧ SqK t2 K H b ys ∧ xs[i]? = some x ∧ ys[i]? = some y,
    fun i H v H' => ∃ T x y, v = .ref T ∧ H T = none ∧ H' = upd H T (.tup [x, y]) ∧ (∀ xs, SqK t1 K H a xs → xs[i]? = some x) ∧ ∀ ys, SqK t2 K H b ys → ys[i]? = some y,
    fun i H => ∃ xs ys : List V, SqK t1 K H a xs ∧ SqK t2 K H b ys ∧ i ≤ xs.length ∧ i ≤ ys.length ∧ (i = xs.length ∨ i = ys.length)⟩
theorem turn_zipK {P : Program} {w : World} {K : PySem.W.Frag} {elts : List Expr} {kk : Nat} {tpos : Pos} (t1 t2 : Bool) {a b z TI TO i1 i2 : Addr} (S : ZipSep2 z TI TO i1 i2 [i1, a] [i2, b]) (n1 : a ≠ i1) (n2 : b ≠ i2) :
    Turn P w K (.Tuple elts kk tpos) (ItzK t1 t2 K a b) [z, TI, TO, i1, i2] z (fun i h => IsZip h z TI TO .none ∧ IsTupOf2 h TI (.ref i1) (.ref i2) ∧ (∃ x y, IsTupOf2 h TO x y) ∧ ItOf t1 h i1 a i ∧ ItOf t2 h i2 b i) where
  mem := by simp
  obj := fun i h st c hc => by
    obtain ⟨hz, hTI, ⟨x, y, hTO⟩, h1, h2⟩ := st
    have e' : c = z ∨ c = TI ∨ c = TO ∨ c = i1 ∨ c = i2 := by simpa using hc
    rcases e' with q | q | q | q | q
    · rw [q]; exact ⟨_, hz, fun v q => nomatch q⟩
    · rw [q]; exact ⟨_, hTI, fun v q => nomatch q⟩
    · rw [q]; exact ⟨_, hTO, fun v q => nomatch q⟩
    · rw [q]; exact h1.obj
    · rw [q]; exact h2.obj
  keep := fun i h h' st k => by
    obtain ⟨hz, hTI, ⟨x, y, hTO⟩, h1, h2⟩ := st
    exact ⟨k z (by simp) _ hz, k TI (by simp) _ hTI, ⟨x, y, k TO (by simp) _ hTO⟩, h1.at_ fun o q => k i1 (by simp) o q, h2.at_ fun o q => k i2 (by simp) o q⟩
  item := by
    intro X hP hw hK hc i pins s σ H E I hf st hg
    subst hP hw hK
    obtain ⟨hz, hTI, ⟨x0, y0, hTO⟩, h1, h2⟩ := st
    obtain ⟨xs, ys, x, y, hqx, hqy, hx, hy⟩ := hg
    obtain ⟨its, rv, p⟩ := sqk_is I hqx
    obtain ⟨its2, rv2, p2⟩ := sqk_is I hqy
    obtain ⟨u, hu, ru⟩ := rv.get hx
    obtain ⟨u2, hu2, ru2⟩ := rv2.get hy
    have hzl : z < s.heap.objs.size := Heap.lt_size hz
    have l1 : i < its.toArray.size := by
      have := (List.getElem?_eq_some_iff.mp hu).1
      simpa using this
    have l2 : i < its2.toArray.size := by
      have := (List.getElem?_eq_some_iff.mp hu2).1
      simpa using this
    refine wpAny_pyNext_zipD2_item S (draws_of t1 (A := X.A.in1) (I.ok.hd hc) i1 a n1 its.toArray) (draws_of t2 (A := X.A.in1) (I.ok.hd hc) i2 b n2 its2.toArray) hz hTI hTO ⟨h1, p⟩ ⟨h2, p2⟩ l1 l2 fun v1 v2 h' tk y1 y2 z' TO' h1' h2' hT hsz hk => ?_
    have e1 : v1 = u := Option.some.inj (y1.symm.trans (by simpa using hu))
    have e2 : v2 = u2 := Option.some.inj (y2.symm.trans (by simpa using hu2))
    subst e1 e2
    refine ⟨_, rfl, wpAny_letOwnedTupleGo_zip (s := { s with heap := h', toks := tk }) z' fun h'' z'' sb => ?_⟩
    have hT2 : h''.get? s.heap.objs.size = some { cls := .type "tuple", data := .seq #[v1, v2] } := (sb.2 _ (Nat.ne_of_gt hzl)).trans hT
    have new : ObjOk X.prog X.w (upd H s.heap.objs.size (.tup [x, y])) h'' s.heap.objs.size (.tup [x, y]) :=
      ⟨by show 2 ≤ sizeLine; decide, [v1, v2], .cons ru (.cons ru2 .nil), ⟨_, hT2, rfl, _, rfl⟩⟩
    have I1 : Inv X pins σ (upd H s.heap.objs.size (.tup [x, y])) { s with heap := h'', toks := tk } :=
      I.turnedNew (t' := tk) (ch := [z, TI, TO, i1, i2]) (fun c o hb q => (sb.2 c (fun q' => hb (by simp [q']))).trans (hk c o (fun q' => hb (by simp [q'])) (fun q' => hb (by simp [q'])) (fun q' => hb (by simp [q'])) (fun q' => hb (by simp [q'])) q)) hf (Nat.le_refl _) new
    refine ⟨.ref s.heap.objs.size, _, I1, rfl, ⟨_, x, y, rfl, I.hok.fresh (Nat.le_refl _), rfl, fun l hl => by rw [sqk_inj I hl hqx]; exact hx, fun l hl => by rw [sqk_inj I hl hqy]; exact hy⟩, ⟨z'', ?_, ⟨v1, v2, ?_⟩, ?_, ?_⟩, fun c hcm => ?_⟩
    · exact (sb.2 _ S.TIz).trans (hk _ _ S.TIz S.TITO S.TIi1 S.TIi2 hTI)
    · exact (sb.2 _ S.TOz).trans TO'
    · exact h1'.1.at_ fun o q => (sb.2 _ (Ne.symm S.zi1)).trans q
    · exact h2'.1.at_ fun o q => (sb.2 _ (Ne.symm S.zi2)).trans q
    · have hlt : c < s.heap.objs.size := by
        have e' : c = z ∨ c = TI ∨ c = TO ∨ c = i1 ∨ c = i2 := by simpa using hcm
        rcases e' with q | q | q | q | q
        · rw [q]; exact hzl
        · rw [q]; exact Heap.lt_size hTI
        · rw [q]; exact Heap.lt_size hTO
        · rw [q]; obtain ⟨_, e1, _⟩ := h1.obj; exact Heap.lt_size e1
        · rw [q]; obtain ⟨_, e1, _⟩ := h2.obj; exact Heap.lt_size e1
      rw [upd_ne (Nat.ne_of_lt hlt)]
      exact (hf c hcm).1
  done := by
    intro X hP hw hK hc i pins s σ H E I hf st hg
    subst hP hw hK
    obtain ⟨hz, hTI, ⟨x0, y0, hTO⟩, h1, h2⟩ := st
    obtain ⟨xs, ys, hqx, hqy, c1, c2, hend⟩ := hg
    obtain ⟨its, rv, p⟩ := sqk_is I hqx
    obtain ⟨its2, rv2, p2⟩ := sqk_is I hqy
    have l1 := rv.length
    have l2 := rv2.length
    exact wpAny_pyNext_zipD2_end S (draws_of t1 (A := X.A.in1) (I.ok.hd hc) i1 a n1 its.toArray) (draws_of t2 (A := X.A.in1) (I.ok.hd hc) i2 b n2 its2.toArray) hz hTI hTO ⟨h1, p⟩ ⟨h2, p2⟩ (by simp; omega) (by simp; omega) (by simp; omega)
      fun h' tk hk => ⟨rfl, I.turnedL (t' := tk) (ch := [z, TI, TO, i1, i2]) (fun c o hb q =>
      hk c o (fun q' => hb (by simp [q'])) (fun q' => hb (by simp [q'])) (fun q' => hb (by simp [q'])) (fun q' => hb (by simp [q'])) q) hf⟩
  self := fun A i s Q E st h => wpAny_pyIter_zip st.1 h
def zipS (L M : Lsrc) : Src := fun k st => match L st, M st with
  | some ds, some es => match ds[k]?, es[k]? with
    | some x, some y => some (some (.tup [x, y]))
    | _, _ => if k ≤ ds.length ∧ k ≤ es.length then some none else none
  | _, _ => none
theorem walk_zip {g : Gx} {t1 t2 : Bool} {a b : Addr} {L M : Lsrc} {μ : List Addr} {H : Hp} (h : SeqAt_ g μ H t1 a L) (h' : SeqAt_ g μ H t2 b M) : WalkOk g (zipS L M) (ItzK t1 t2 g.K a b) μ H := by
  intro k μ' H' st' ex S
  unfold zipS
  cases e : L st' with
  | none => simp
  | some ds =>
    cases e2 : M st' with
    | none => simp
    | some es =>
      obtain ⟨xs, h1, h2⟩ := h μ' H' st' ds ex S e
      obtain ⟨ys, h3, h4⟩ := h' μ' H' st' es ex S e2
      have stop : (ds[k]? = none ∨ es[k]? = none) → k ≤ ds.length ∧ k ≤ es.length → (ItzK t1 t2 g.K a b).stop k H' := fun hn hc => by
        refine ⟨xs, ys, h1, h3, by rw [h2.length]; exact hc.1, by rw [h4.length]; exact hc.2, ?_⟩
        rw [h2.length, h4.length]
        rcases hn with hn | hn
        · have := List.getElem?_eq_none_iff.mp hn
          omega
        · have := List.getElem?_eq_none_iff.mp hn
          omega
      cases ek : ds[k]? with
      | none =>
        refine ⟨fun d q => ?_, fun q => ?_⟩
        · simp only [ek] at q
          by_cases c : k ≤ ds.length ∧ k ≤ es.length <;> simp [c] at q
        · simp only [ek] at q
          by_cases c : k ≤ ds.length ∧ k ≤ es.length
          · exact stop (.inl ek) c
          · simp [c] at q
      | some d0 =>
        cases ek2 : es[k]? with
        | none =>
          refine ⟨fun d q => ?_, fun q => ?_⟩
          · simp only [ek, ek2] at q
            by_cases c : k ≤ ds.length ∧ k ≤ es.length <;> simp [c] at q
          · simp only [ek, ek2] at q
            by_cases c : k ≤ ds.length ∧ k ≤ es.length
            · exact stop (.inr ek2) c
            · simp [c] at q
        | some d1 =>
          obtain ⟨x0, hx, dx⟩ := h2.get ek
          obtain ⟨y0, hy, dy⟩ := h4.get ek2
          refine ⟨fun d q => ?_, fun q => ?_⟩
          · simp only [ek, ek2, Option.some.injEq] at q
            subst q
            refine ⟨⟨xs, ys, x0, y0, h1, h3, hx, hy⟩, fun x H2 y => ?_⟩
            obtain ⟨p, x', y', rfl, hp, rfl, hx', hy'⟩ := y
            have c1 : x' = x0 := by
              have := hx' xs h1
              rw [hx] at this
              exact (Option.some.inj this).symm
            have c2 : y' = y0 := by
              have := hy' ys h3
              rw [hy] at this
              exact (Option.some.inj this).symm
            subst c1 c2
            have sm := SameH.new (o := .tup [x', y']) hp
            exact ⟨sm, .tup (.inl ⟨.inl upd_same, notin_none S hp⟩) (.cons (dx.ext (sm.ext _)) (.cons (dy.ext (sm.ext _)) .nil))⟩
          · simp [ek, ek2] at q
def mZip (fuel : Nat) (ma mb : EM) : IM := fun ρ st => (ma ρ st).bind fun x st1 => (mb ρ st1).bind fun y st2 => match srcL x st2, srcL y st2 with
  | some ds, some _ => .ok (zipS (srcL x) (srcL y), ds.length + 1 + fuel) st2
  | _, _ => .bad
theorem si_zip (fuel : Nat) (ha : SE X T E e me) (hb : SE X T E e2 mf) (hm : X.mg "zip" = none) (hg : Gl X "zip" := by rfl)
    (hs : starEach [e, e2] X.env = (false, eval e X.env) :: starEach [e2] X.env := by rfl) (hs2 : starEach [e2] X.env = (false, eval e2 X.env) :: starEach [] X.env := by rfl) (hpl : (backTo pos (starEach [e2] X.env)).any (·.1) = false := by rfl) : SI X T E (.Tuple elts kk tpos) (.Call (.Name "zip" p) [e, e2] [] pos) (mZip fuel me mf) := by
  refine ⟨fun pins s σ H R I h => ?_⟩
  have h1 : tCons (tE (gx X T) E me) (tCons (tE (gx X T) E mf) tNil) σ H (fun vs H1 => ∃ x y, vs = [x, y] ∧ ∃ d c st μ, Sto (gx X T) μ H1 st ∧ DV (gx X T) μ H1 x d ∧ DV (gx X T) μ H1 y c ∧ AfterG (RW_ (gx X T)) (gx X T) μ H1 R E (match srcL d st, srcL c st with
      | some ds, some _ => .ok (zipS (srcL d) (srcL c), ds.length + 1 + fuel) st
      | _, _ => .bad)) := by
    refine tG_mono (tG_bind (Rl := fun μ H => DV (gx X T) μ H) (Rm := RW_ (gx X T)) (k := fun ρ x st1 => (mf ρ st1).bind fun y st2 => match srcL x st2, srcL y st2 with
      | some ds, some _ => .ok (zipS (srcL x) (srcL y), ds.length + 1 + fuel) st2
      | _, _ => .bad) h) fun x H1 q => ?_
    obtain ⟨d, ρ, st1, μ1, r1, s1, q1, a1⟩ := q
    refine ⟨ρ, st1, μ1, r1, s1, ?_⟩
    refine (AfterG.bind (Rl := fun μ H => DV (gx X T) μ H) a1).mono fun y H2 q => ?_
    obtain ⟨c, st2, μ2, e2, s2, q2, a2⟩ := q
    exact ⟨x, y, rfl, d, c, st2, μ2, s2, q1.ext e2, q2, a2⟩
  refine Call_ (ld_blt I hg hm PyProof.Rows.boot_zip (PyProof.Rows.callWith_type1 (thn ((pa_cons ha (pa_cons hb pa_nil hs2) hs).run pos pins s σ H _ I h1) fun us s1 ⟨vs, H1, I1, r1, q1⟩ => ?_) hs hpl))
  obtain ⟨x, y, rfl, d, c, st, μ, S, dx, dy, a⟩ := q1
  obtain ⟨u, u2, rfl, ru, ru2⟩ := vals2 r1
  cases es : srcL d st with
  | none => simp only [es] at a; exact a.elim
  | some ds =>
    cases es2 : srcL c st with
    | none => simp only [es, es2] at a; exact a.elim
    | some cs =>
      simp only [es, es2] at a
      obtain ⟨t1, b1, rfl, sq1, xs, hx1, hx2⟩ := srcL_ok S dx es
      obtain ⟨t2, b2, rfl, sq2, ys, hy1, hy2⟩ := srcL_ok S dy es2
      cases ru
      cases ru2
      obtain ⟨its, rv, p1⟩ := sqk_is I1 hx1
      obtain ⟨its2, rv2, p2⟩ := sqk_is I1 hy1
      have l1 := p1.lt
      have l2 := p2.lt
      refine zip_begins2 (begins_of t1 b1 its.toArray) (begins_of t2 b2 its2.toArray) p1 p2 fun h' hz hTI hTO g1 g2 hsz hk => wpAny_pyIter_zip hz ?_
      have I2 : Inv X pins σ H1 { s1 with heap := h' } := I1.kept (t' := s1.toks) hk
      have S0 := zip_sep2 (N := s1.heap.objs.size) (fp1 := [b1]) (fp2 := [b2]) (fun b hb => by rw [List.mem_singleton.mp hb]; exact l1) (fun b hb => by rw [List.mem_singleton.mp hb]; exact l2)
      refine ⟨s1.heap.objs.size + 4, [s1.heap.objs.size + 4, s1.heap.objs.size + 2, s1.heap.objs.size + 3, s1.heap.objs.size, s1.heap.objs.size + 1], _, _, H1, rfl, I2, turn_zipK t1 t2 S0 (Nat.ne_of_lt l1) (Nat.ne_of_lt (Nat.lt_succ_of_lt l2)), ⟨hz, hTI, ⟨_, _, hTO⟩, ItOf.new g1, ItOf.new g2⟩, fun c hcm => ?_, AfterG.now a S (walk_zip sq1 sq2)⟩
      have e' : c = s1.heap.objs.size + 4 ∨ c = s1.heap.objs.size + 2 ∨ c = s1.heap.objs.size + 3 ∨ c = s1.heap.objs.size ∨ c = s1.heap.objs.size + 1 := by simpa using hcm
      have hle : s1.heap.objs.size ≤ c := by
        rcases e' with z | z | z | z | z
        · rw [z]; exact Nat.le_add_right _ _
        · rw [z]; exact Nat.le_add_right _ _
        · rw [z]; exact Nat.le_add_right _ _
        · rw [z]; exact Nat.le_refl _
        · rw [z]; exact Nat.le_add_right _ _
      exact I1.fpOk hle (I1.hok.fresh hle)
end
end SL
set_option maxRecDepth 100000
set_option maxHeartbeats 2000000
/-! Layer S: dict displays, dict comprehensions. -/
namespace SL
open PySem PySem.Spec PyProof.Rows L2
section
variable {X : Cx} {T : Tab} {pins : List (Addr × Obj)} {σ : L2.St} {H : Hp} {s : Shared} {μ : List Addr} {a : Addr} {t : Bool} {kvs : List (D × D)} {kd : D} {k : NestedKey} {v : V} {u : Value} {A : Around} {E : Value → Shared → Prop}
/-- an entry stored by a display, a comprehension -/
theorem dic_dset (hu : A.units + 65 < cLine) (I : Inv X pins σ H s) {n : Nat} {st : Store} (S : Sto (gx X T) μ H st) (hs : st[n]? = some (.dic t kvs)) (ha : μ[n]? = some a) (hk : dKey t kd = some k) (h : DV (gx X T) μ H v kd) (r : RelV v u) {vv : V} {vd : D} {vu : Value} (rv : RelV vv vu)
    (hv : DV (gx X T) μ H vv vd) (hl : kvs.length < sizeLine) {Q : Unit → Shared → Prop} (q : ∀ H' s', Inv X pins σ H' s' → Ext μ H μ H' → Sto (gx X T) μ H' (st.set n (.dic t (dSet kvs kd k vd))) → Q () s') :
    wpAny (model X.prog X.w) A (dictSet a u vu) Q E s := by
  have m := S.ref hs ha
  have hm : a ∈ μ := List.mem_of_getElem? ha
  have hlen : (dSet kvs kd k vd).length ≤ sizeLine := by have := length_dSet kvs kd k vd; omega
  obtain ⟨k1, k2, k3⟩ := dKey_ok hk
  cases m with
  | dic e1 e2 e3 e4 e5 =>
    rename_i o es ep
    have ho := dO_at I e1
    have fin : ∀ (h' : Heap) (tk : Nat) (o' : Obj) (es' : Array DictEntry) (ep' : Nat), h'.get? a = some o' → o'.ExactDict → o'.data = .dict es' ep' → Heap.SameBut a s.heap h' → (Ents (gx X T) μ (upd H a (dO a o')) t es'.toList (dSet kvs kd k vd)) → Q () { s with heap := h', toks := tk } := by
      intro h' tk o' es' ep' ho' x1 x2 sb x3
      have J : Inv X pins σ (upd H a (dO a o')) { s with heap := h', toks := tk } := I.write (x := a) (e := a) (by rw [e1]; exact trivial) (.inl rfl) (fun b q hb z => (sb.2 b hb).trans z) ⟨o', ho'⟩ ⟨ho', ⟨o', ho'⟩, fun h1 h2 z kk => kk _ z⟩
      exact q _ _ J (Ext.write hm) (S.put ha (.dic upd_same x1 x2 e4 x3))
    cases t with
    | true =>
      obtain ⟨xs, x1, x2, x3, x4⟩ := ents_T I e5
      obtain ⟨b, rfl, rfl, kb⟩ := dk_ref h k1 r k2 k3 I
      have dd : s.heap.DictOfH (nestedKind X.prog X.w) a xs := ⟨o, es, ep, ho, e2, e3, x1, x2, x4⟩
      have rm : (nestedKind X.prog X.w).room A := by
        show A.units + 8 < cLine
        omega
      refine wpAny_dictSet_heap (hsz := by rw [x3.length]; omega) rm kb dd fun h' dd' sb => ?_
      obtain ⟨o', es', ep', ho', y1, y2, y3, _, y4⟩ := dd'
      refine fin h' _ o' es' ep' ho' y1 y2 sb ?_
      have ex : Ext μ H μ (upd H a (dO a o')) := Ext.write hm
      have er := (x3.set k2 k3 (by simpa [keyKind] using k1) h rv hv).ext ex
      rw [y3]
      exact ents_ofT (g := gx X T) er y4 hlen
    | false =>
      obtain ⟨ks, x1, x2, x3, x4⟩ := ents_K (P := X.prog) e5
      obtain ⟨kk, rfl⟩ := leaf_key (show isLeaf kd = true by simpa [keyKind] using k1)
      have ev := dv_ofK h
      subst ev
      rw [keyOf_ofK] at k2; cases k2
      have dd : s.heap.DictOf (mixKind X.prog X.w) a ks := ⟨o, es, ep, ho, e2, e3, fun e he => x1 e (by simpa using he), x2, x4⟩
      refine wpAny_dictSet_pairs (hsz := by rw [x3.length]; omega) (kV_is r) dd fun h' dd' sb => ?_
      obtain ⟨o', es', ep', ho', y1, y2, y3, y4, y5⟩ := dd'
      refine fin h' _ o' es' ep' ho' y1 y2 sb ?_
      have ex : Ext μ H μ (upd H a (dO a o')) := Ext.write hm
      exact ents_ofK (P := X.prog) (fun e he => y3 e (by simpa using he)) y4 ((x3.set rv hv).ext ex) y5 hlen
end
/-- d[k] = y, d the dict at n -/
def setDic (n : Nat) (i y : D) (st : Store) : Option Store := match st[n]? with
  | some (.dic t kvs) => match dKey t i with
    | some k => if kvs.length < sizeLine then some (st.set n (.dic t (dSet kvs i k y))) else none
    | none => none
  | _ => none
def stAll (n : Nat) : List (D × D) → Store → Option Store
  | [], st => some st
  | (k, y) :: r, st => (setDic n k y st).bind (stAll n r)
abbrev PM := Env → Store → Res (List (D × D))
def pNil : PM := fun _ st => .ok [] st
def pCons (mk mv : EM) (r : PM) : PM := fun ρ st => (mk ρ st).bind fun k st1 => (mv ρ st1).bind fun v st2 => (r ρ st2).bind fun kvs st3 => .ok ((k, v) :: kvs) st3
/-- pairs of values -/
inductive V2 : List (V × V) → List (Value × Value) → Prop
  | nil : V2 [] []
  | cons {x y u v xs us} : RelV x u → RelV y v → V2 xs us → V2 ((x, y) :: xs) ((u, v) :: us)
inductive D2 (g : Gx) (μ : List Addr) (H : Hp) : List (V × V) → List (D × D) → Prop
  | nil : D2 g μ H [] []
  | cons {x y k v xs ds} : DV g μ H x k → DV g μ H y v → D2 g μ H xs ds → D2 g μ H ((x, y) :: xs) ((k, v) :: ds)
theorem D2.ext {g : Gx} {μ μ' : List Addr} {H H' : Hp} (e : Ext μ H μ' H') {xs : List (V × V)} {ds : List (D × D)} (h : D2 g μ H xs ds) : D2 g μ' H' xs ds := by
  induction h with
  | nil => exact .nil
  | cons h1 h2 _ ih => exact .cons (h1.ext e) (h2.ext e) ih
def tP (g : Gx) (E : XK) (m : PM) : L2.St → Hp → (List (V × V) → Hp → Prop) → Prop := tG (fun μ H => D2 g μ H) g E m
def SP (X : Cx) (T : Tab) (E : XK) (ks : List (Option Expr)) (vs : List Expr) (m : PM) : Prop := ∀ (pos : Pos) (pins : List (Addr × Obj)) (s : Shared) (σ : L2.St) (H : Hp) (Q : List (V × V) → Hp → Prop), Inv X pins σ H s → tP (gx X T) E m σ H Q →
  wpAny (model X.prog X.w) X.A (evalPairs (pairTrees ks vs X.env pos)) (fun us s' => ∃ xs H', Inv X pins σ H' s' ∧ V2 xs us ∧ Q xs H') X.xe s
section
variable {X : Cx} {T : Tab} {E : XK} {k v : Expr} {ks : List (Option Expr)} {vs : List Expr} {mk mv : EM} {m : PM} {pos : Pos}
theorem sp_nil : SP X T E [] [] pNil := by
  intro pos pins s σ H Q I h
  obtain ⟨ρ, st, μ, r, S, a⟩ := h
  exact pairTrees_nil_walk ⟨[], H, I, .nil, AfterG.now a S .nil⟩
theorem sp_cons (hk : SE X T E k mk) (hv : SE X T E v mv) (hr : SP X T E ks vs m) : SP X T E (some k :: ks) (v :: vs) (pCons mk mv m) := by
  intro pos pins s σ H Q I h
  have h1 := tG_bind (Rl := fun μ H => DV (gx X T) μ H) (Rm := fun μ H => D2 (gx X T) μ H) (k := fun ρ k st1 => (mv ρ st1).bind fun v st2 => (m ρ st2).bind fun kvs st3 => .ok ((k, v) :: kvs) st3) h
  refine pairTrees_cons_walk (thn (hk.run pins s σ H _ I h1) fun u s1 ⟨x, H1, I1, r1, d, ρ, st1, μ1, er, S1, d1, a1⟩ => ?_)
  refine thn (hv.run pins s1 σ H1 _ I1 ⟨ρ, st1, μ1, er, S1, AfterG.bind (Rl := fun μ H => DV (gx X T) μ H) a1⟩) fun u2 s2 ⟨y, H2, I2, r2, c, st2, μ2, e2, S2, d2, a2⟩ => ?_
  refine thn (hr pos pins s2 σ H2 _ I2 ⟨ρ, st2, μ2, er.ext e2, S2, AfterG.bind (Rl := fun μ H => D2 (gx X T) μ H) a2⟩) fun us s3 ⟨xs, H3, I3, r3, kvs, st3, μ3, e3, S3, d3, a3⟩ => ?_
  exact ⟨(x, y) :: xs, H3, I3, .cons r1 r2 r3, AfterG.now a3 S3 (.cons ((d1.ext e2).ext e3) (d2.ext e3) d3)⟩
theorem store_all {A : Around} {E' : Value → Shared → Prop} (hu : A.units + 65 < cLine) {n : Nat} {a : Addr} : ∀ {us : List (Value × Value)} {xs : List (V × V)} {kvs : List (D × D)} {pins : List (Addr × Obj)} {s : Shared} {σ : L2.St} {H : Hp} {μ : List Addr} {st st' : Store} {Q : PUnit → Shared → Prop},
    Inv X pins σ H s → Sto (gx X T) μ H st → μ[n]? = some a → V2 xs us → D2 (gx X T) μ H xs kvs → stAll n kvs st = some st' → (∀ H' s', Inv X pins σ H' s' → Ext μ H μ H' → Sto (gx X T) μ H' st' → Q PUnit.unit s') →
    wpAny (model X.prog X.w) A (storeAll a us) Q E' s := by
  intro us
  induction us with
  | nil =>
    intro xs kvs pins s σ H μ st st' Q I S hn r d e q
    cases r
    cases d
    simp only [stAll, Option.some.injEq] at e
    subst e
    unfold storeAll
    rw [List.forIn_nil]
    exact wpAny_pure (q H s I .refl S)
  | cons p us ih =>
    intro xs kvs pins s σ H μ st st' Q I S hn r d e q
    cases r with
    | cons r1 r2 r3 =>
      cases d with
      | cons d1 d2 d3 =>
        rename_i kd vd ds
        unfold stAll setDic at e
        cases hs : st[n]? with
        | none => simp [hs] at e
        | some o =>
          cases o with
          | dic t old =>
            simp only [hs] at e
            cases ek : dKey t kd with
            | none => simp [ek] at e
            | some k =>
              simp only [ek] at e
              by_cases c : old.length < sizeLine
              · simp only [if_pos c, Option.bind_some] at e
                unfold storeAll
                rw [List.forIn_cons]
                refine wpAny_bind (wpAny_bind (dic_dset hu I S hs hn ek d1 r1 r2 d2 c fun H' s' I' ex S' => wpAny_pure ?_))
                exact ih I' S' hn r3 (d3.ext ex) e fun H2 s2 I2 ex2 S2 => q H2 s2 I2 (ex.trans ex2) S2
              · simp [if_neg c] at e
          | _ => simp [hs] at e
/-- {k: v, ..}: a dict of kind t, in the store -/
def mDict (t : Bool) (m : PM) : EM := fun ρ st => (m ρ (st ++ [.dic t []])).bind fun kvs st2 => match stAll st.length kvs st2 with
  | some st3 => .ok (.ref st.length) st3
  | none => .bad
theorem dO_new {pins : List (Addr × Obj)} {σ : L2.St} {H : Hp} {s : Shared} (I : Inv X pins σ H s) : Inv X pins σ (upd H s.heap.objs.size (dO s.heap.objs.size { cls := .type "dict", data := .dict #[] })) { s with heap := s.heap.push { cls := .type "dict", data := .dict #[] } } :=
  I.laid (t' := s.toks) (fun b o q => Heap.get?_push_of_some _ q) (Nat.le_refl _) ⟨Heap.get?_push_size _ rfl, ⟨_, Heap.get?_push_size _ rfl⟩, fun h1 h2 z k => k _ z⟩
theorem sys_ne {pins : List (Addr × Obj)} {σ : L2.St} {H : Hp} {s : Shared} (I : Inv X pins σ H s) : (s.heap.objs.size == sysModules) = false := by
  have := I.big
  simp only [beq_eq_false_iff_ne, ne_eq]
  intro z
  rw [z] at this
  exact Nat.lt_irrefl _ this
theorem dic0_new {g : Gx} {μ : List Addr} {H : Hp} {t : Bool} {a : Addr} (hs : (a == sysModules) = false) : MOk g μ (upd H a (dO a { cls := .type "dict", data := .dict #[] })) a (.dic t []) := .dic upd_same ⟨rfl, rfl, rfl⟩ rfl hs .nil
theorem se_dict (t : Bool) (hu : X.A.units + 65 < cLine) (h : SP X T E ks vs m) (hall : ks.all (·.isSome) = true := by rfl) (hl : ks.length = vs.length := by rfl) (h0 : ks ≠ [] := by intro z; cases z) (hlen : ks.length ≤ 15 := by decide) : SE X T E (.Dict ks vs pos) (mDict t m) := by
  refine ⟨fun pins s σ H Q I q => ?_⟩
  obtain ⟨ρ, st, μ, r, S, a⟩ := q
  have hf := I.hok.fresh (Nat.le_refl s.heap.objs.size)
  have J := dO_new I
  have ex : Ext μ H (μ ++ [s.heap.objs.size]) (upd H s.heap.objs.size (dO s.heap.objs.size { cls := .type "dict", data := .dict #[] })) := Ext.newRef hf
  have S2 := S.push (o := .dic t []) hf (dic0_new (sys_ne I))
  have hn : (μ ++ [s.heap.objs.size])[st.length]? = some s.heap.objs.size := by rw [S.len]; simp
  refine wpAny_Dict_any hall hl h0 hlen (thn (h pos pins _ σ _ _ J ⟨ρ, _, _, r.ext ex, S2, AfterG.bind (Rl := fun μ H => D2 (gx X T) μ H) (AfterG.ext ex a)⟩) fun us s1 ⟨xs, H1, I1, r1, kvs, st1, μ1, e1, S1, d1, a1⟩ => ?_)
  cases es : stAll st.length kvs st1 with
  | none => simp only [es] at a1; exact a1.elim
  | some st2 =>
    simp only [es] at a1
    have hn1 := e1.get hn
    exact store_all hu I1 S1 hn1 r1 d1 es fun H' s' I' ex' S' => ⟨.ref s.heap.objs.size, H', I', rfl, a1 _ _ _ ex' S' (.ref hn1)⟩
end
end SL
set_option maxRecDepth 100000
set_option maxHeartbeats 2000000
/-! Layer S: dict comprehensions. -/
namespace SL
open PySem PySem.Spec PyProof.Rows L2

abbrev oD0 : Obj := { cls := .type "dict", data := .dict #[] }
/-- what a dict comprehension must do; D the new dict, put what storing means -/
def tDcx (put : Addr → V → V → Hp → (Hp → Prop) → Prop) (wi : TI) (g : TG) (tt : TT) (tk tv : TE) (vs : List Nat) : TE := fun σ H Q => wi σ H fun J H1 => ∀ D, H1 D = none → (D == sysModules) = false → ∃ W : Nat → Nat → Hp → Prop, (∃ m, W 0 m (upd H1 D (dO D oD0))) ∧ ∀ i m H, W i m H →
  (J.stop i H ∧ Q (.ref D) H) ∨ (J.go i H ∧ ∃ Nx : Hp → Prop, (∀ H', Nx H' → ∃ m', m' < m ∧ W (i + 1) m' H') ∧ ∀ x H', J.yld i H x H' → g x (wipe σ vs) H' fun σ2 H2 => wipe σ2 vs = wipe σ vs ∧ tt σ2 H2 fun b H3 =>
    if b = true then tk σ2 H3 fun y H4 => tv σ2 H4 fun z H5 => put D y z H5 Nx else Nx H3)
def PutOk (X : Cx) (put : Addr → V → V → Hp → (Hp → Prop) → Prop) : Prop := ∀ (D : Addr) (s0 : Shared) (H0 : Hp) (scope : Scope) (ce : PySem.Env) (fp : List Addr) (pins : List (Addr × Obj)) (σ : L2.St) (H : Hp) (s : Shared) (y z : V) (u r : Value) (Q : Hp → Prop) (E : Value → Shared → Prop),
  Inv (X.blk s0 H0 scope ce fp) pins σ H s → RelV y u → RelV z r → put D y z H Q → wpAny (model X.prog X.w) X.A (dictSet D u r) (fun _ s' => ∃ H', Inv (X.blk s0 H0 scope ce fp) pins σ H' s' ∧ Q H') E s
section
variable {X : Cx}
theorem dcx_core {pins : List (Addr × Obj)} {s : Shared} {σ : L2.St} {H : Hp} {Q : VK} {kx vx tg iter : Expr} {ifs : List Expr} {scope : Scope} {own : List (Str × Nat)} {pos pos' : Pos} {wi : TI} {g : TG} {tt : TT} {tk tv : TE} {use : Option (Value → Sem Unit)} {Qf : Value → Shared → Prop} {put : Addr → V → V → Hp → (Hp → Prop) → Prop}
    (hput : PutOk X put) (hc : X.calm = true) (hN : X.N.Nodup) (I : Inv X pins σ H s) (hi : PI X tg iter wi) (ok : BlkOk X.N X.env.scope scope own)
    (hg : ∀ (s : Shared) (H : Hp) (C : Addr) (cl : List (Str × Addr)) (fp : List Addr), PG (X.blk s H scope (compEnvC scope cl C X.env) fp) tg g) (ht : ∀ (s : Shared) (H : Hp) (C : Addr) (cl : List (Str × Addr)) (fp : List Addr), PTs (X.blk s H scope (compEnvC scope cl C X.env) fp) ifs tt)
    (hk : ∀ (s : Shared) (H : Hp) (C : Addr) (cl : List (Str × Addr)) (fp : List Addr), PE (X.blk s H scope (compEnvC scope cl C X.env) fp) kx tk)
    (he : ∀ (s : Shared) (H : Hp) (C : Addr) (cl : List (Str × Addr)) (fp : List Addr), PE (X.blk s H scope (compEnvC scope cl C X.env) fp) vx tv) (hs : ∀ x, foldedSetIterable iter X.env x = pure x)
    (h : tDcx put wi g tt tk tv (own.map (·.2)) σ H Q)
    (hRR : ∀ D C s' m H', Inv X pins σ H' s' → Q (.ref D) H' → s'.heap.Ns C m → FpOk X pins H' C → compPost (model X.prog X.w) X.A X.xe use Qf (.ref D) C (.ok .next) s') :
    wpAny (model X.prog X.w) X.A (comprehension (.DictComp kx vx [⟨tg, iter, ifs, 0⟩] scope pos) scope X.env pos' newDict false (eval iter X.env) use) Qf X.xe s := by
  have hfree : ∀ y ∈ scope.names, y.2 = .free → ∃ c, X.env.cells.lookup y.1 = some c := fun y hy e => by
    rcases ok.free y hy e with k | k
    · exact I.ok.has _ (.inl k)
    · exact I.ok.has _ (.inr k)
  refine wpAny_comprehension_free (use := use) rfl hs (closure_ok hfree) ok.kind (fun y hy e => by rw [ok.uniq y hy, e])
    (thn (hi.run pins s σ H _ I h) fun xv s1 hx => thn hx fun itv s2 h2 => ?_)
  obtain ⟨it, fp, tn, J, H2, e, I2, T, st2, f2, q⟩ := h2
  subst e
  refine wpAny_newObj_type (newEnv_comp ?_)
  have hy := sys_ne I2
  generalize hD : s2.heap.objs.size = D at hy
  have hDn : H2 D = none := I2.hok.fresh (Nat.le_of_eq hD)
  obtain ⟨W, ⟨m0, w0⟩, turn⟩ := q D hDn hy
  have I3' := dO_new I2
  generalize hs3 : ({ s2 with heap := s2.heap.push { cls := .type "dict", data := .dict #[] } } : Shared) = s3 at I3' ⊢
  have I3 : Inv X pins σ (upd H2 D (dO D oD0)) s3 := by rw [← hD]; exact I3'
  have h3 : s3.heap = s2.heap.push { cls := .type "dict", data := .dict #[] } := by rw [← hs3]
  have sz : ∀ b ∈ fp, b < s2.heap.objs.size := fun b hb => by
    obtain ⟨o, e, _⟩ := T.obj _ _ st2 b hb
    exact Heap.lt_size e
  have f3 : ∀ b ∈ fp, FpOk X pins (upd H2 D (dO D oD0)) b ∧ b < s3.heap.objs.size := fun b hb => by
    have hlt := sz b hb
    refine ⟨⟨?_, (f2 b hb).2⟩, by rw [h3, Heap.size_push]; exact Nat.lt_succ_of_lt hlt⟩
    rw [upd_ne (by rw [← hD]; exact Nat.ne_of_lt hlt)]
    exact (f2 b hb).1
  have st3 : tn 0 s3.heap := T.keep _ _ _ st2 fun b _ o e => by rw [h3]; exact Heap.get?_push_of_some _ e
  have I4 := block_start I3 ok hN f3
  have pg := hg s3 (upd H2 D (dO D oD0)) s3.heap.objs.size (cellsFrom (s3.heap.objs.size + 1) scope.names (cloFrom X.env.cells scope.names [])) fp
  have pt := ht s3 (upd H2 D (dO D oD0)) s3.heap.objs.size (cellsFrom (s3.heap.objs.size + 1) scope.names (cloFrom X.env.cells scope.names [])) fp
  have pk := hk s3 (upd H2 D (dO D oD0)) s3.heap.objs.size (cellsFrom (s3.heap.objs.size + 1) scope.names (cloFrom X.env.cells scope.names [])) fp
  have pe := he s3 (upd H2 D (dO D oD0)) s3.heap.objs.size (cellsFrom (s3.heap.objs.size + 1) scope.names (cloFrom X.env.cells scope.names [])) fp
  show codeAny _ _ (.compStart (.DictComp kx vx [⟨tg, iter, ifs, 0⟩] scope pos) 0 (.ref it) (.ref D) (compEnvC scope (cellsFrom (s3.heap.objs.size + 1) scope.names (cloFrom X.env.cells scope.names [])) s3.heap.objs.size X.env)) (compPost (model X.prog X.w) X.A X.xe use Qf (.ref D) s3.heap.objs.size) { s3 with heap := pushCells (s3.heap.push { cls := .type "dict", data := .dict #[] }) scope.names }
  have nfp : ∀ b ∈ fp, (upd H2 D (dO D oD0)) b = none := fun b hb => (f3 b hb).1.1
  have hput' := fun ce => hput D s3 (upd H2 D (dO D oD0)) scope ce fp
  generalize hce : compEnvC scope (cellsFrom (s3.heap.objs.size + 1) scope.names (cloFrom X.env.cells scope.names [])) s3.heap.objs.size X.env = ce at I4 pg pt pk pe ⊢
  have hput2 := hput' ce
  have cL : ce.locals = s3.heap.objs.size := by subst hce; rfl
  generalize hH3 : upd H2 D (dO D oD0) = H3 at I3 I4 pg pt pk pe w0 nfp f3 hput2
  generalize hs4 : ({ s3 with heap := pushCells (s3.heap.push { cls := .type "dict", data := .dict #[] }) scope.names } : Shared) = s4 at I4 ⊢
  have st4 : tn 0 s4.heap := T.keep _ _ _ st3 fun b _ o e => by rw [← hs4]; exact pushCells_keeps _ _ _ _ (Heap.get?_push_of_some _ e)
  have stat : ∀ {σ' : L2.St} {H' : Hp} {s' : Shared}, Inv (X.blk s3 H3 scope ce fp) [] σ' H' s' → (∀ b ∈ fp, H' b = none) → ∀ b ∈ fp, FpOk (X.blk s3 H3 scope ce fp) [] H' b := fun {σ' H' s'} I' hn b hb =>
    ⟨hn b hb, (I'.ok.exf b hb).1, I'.ok.exfs b hb, .inl hb, fun x c e => (I'.ok.exf b hb).2 x c e, fun p hp => absurd (show p ∈ ([] : List (Addr × Obj)) ++ [] from hp) (by simp)⟩
  have loop : codeAny (model X.prog X.w) X.A (.compLoop (.DictComp kx vx [⟨tg, iter, ifs, 0⟩] scope pos) 0 (.ref it) (.ref D) ce) (compPost (model X.prog X.w) X.A X.xe use Qf (.ref D) s3.heap.objs.size) s4 := by
    refine compLoop_anyD (fun n s' => ∃ i H', Inv (X.blk s3 H3 scope ce fp) [] (wipe σ (own.map (·.2))) H' s' ∧ tn i s'.heap ∧ (∀ b ∈ fp, H' b = none) ∧ W i n H') ?_ m0 ⟨0, H3, I4, st4, nfp, w0⟩
    rintro n s5 ⟨i, H5, I5, st5, n5, w5⟩
    rcases turn i n H5 w5 with ⟨stop, qq⟩ | ⟨go, Nx, hNx, step⟩
    · refine thnF (T.done (X.blk s3 H3 scope ce fp) rfl rfl rfl hc i [] s5 _ H5 (fun _ _ => False) I5 (stat I5 n5) st5 stop) fun r s6 ⟨hr, I6⟩ => ?_
      subst hr
      have I7 : Inv X pins σ H5 s6 := I3.call' (ch := fp) I6.os I6.base I6.hok I6.bare fun b hb => ⟨(f3 b hb).1.2.2.2.1, (f3 b hb).1.2.1, (f3 b hb).1.2.2.2.2.1, (f3 b hb).1.2.2.2.2.2⟩
      have nC : H5 s3.heap.objs.size = none := by
        have z : H5 ce.locals = none := I6.free
        rw [cL] at z
        exact z
      obtain ⟨m, hn, _⟩ := I6.loc
      have hn : s6.heap.Ns ce.locals m := hn
      rw [cL] at hn
      exact hRR D s3.heap.objs.size s6 m H5 I7 qq hn (I3.fpOk (Nat.le_refl _) nC)
    · refine thnF (T.item (X.blk s3 H3 scope ce fp) rfl rfl rfl hc i [] s5 _ H5 (fun _ _ => False) I5 (stat I5 n5) st5 go) fun r s6 ⟨u, hr, h6⟩ => ?_
      subst hr
      refine thnF h6 fun _ s7 ⟨x, H7, I7, r7, y7, st7, n7⟩ => ?_
      refine thnF (pg.run _ s7 _ H7 x u _ (I7.pinned (stat I7 n7) (T.obj _ _ st7)) r7 (step x H7 y7)) fun _ s8 ⟨σ8, H8, I8, hw8, q8⟩ => ?_
      refine thnF (pt.run _ s8 σ8 H8 _ I8 q8) fun b s9 ⟨H9, I9, q9⟩ => ?_
      have fin : ∀ {s' : Shared} {H' : Hp}, Inv (X.blk s3 H3 scope ce fp) ([] ++ pinsAt fp s7.heap) σ8 H' s' → Nx H' → ∃ m, m < n ∧ ∃ i H', Inv (X.blk s3 H3 scope ce fp) [] (wipe σ (own.map (·.2))) H' s' ∧ tn i s'.heap ∧ (∀ b ∈ fp, H' b = none) ∧ W i m H' := fun {s' H'} I' nx => by
        obtain ⟨m', hm, w'⟩ := hNx H' nx
        have pin' : ∀ b ∈ fp, ∀ o, s7.heap.get? b = some o → s'.heap.get? b = some o ∧ H' b = none := fun b hb o e =>
          let z := I'.pin (b, o) (List.mem_append_right _ (List.mem_append_right _ (mem_pinsAt hb e)))
          ⟨z.1, z.2.1⟩
        have hl : (wipe σ (own.map (·.2))).length = σ8.length := by rw [← hw8, wipe_length]
        refine ⟨m', hm, i + 1, H', (I'.unpinned (pins := [])).weak hl (fun j v e => ?_), T.keep _ _ _ st7 fun b hb o e => (pin' b hb o e).1, fun b hb => ?_, w'⟩
        · rw [← hw8] at e
          exact (wipe_some e).1
        · obtain ⟨o, e, _⟩ := T.obj _ _ st7 b hb
          exact (pin' b hb o e).2
      cases b with
      | false =>
        simp only [Bool.false_eq_true, if_false] at q9 ⊢
        exact fin I9 q9
      | true =>
        simp only [if_true] at q9 ⊢
        refine thnF (pk.run _ s9 σ8 H9 _ I9 q9) fun z s10 ⟨yk, H10, I10, r10, q10⟩ => ?_
        refine thnF (pe.run _ s10 σ8 H10 _ I10 q10) fun z2 s11 ⟨yv, H11, I11, r11, q11⟩ => ?_
        exact wpAny_mono (hput2 _ σ8 H11 s11 yk yv z z2 Nx _ I11 r10 r11 q11) (fun _ s12 ⟨H12, I12, nx⟩ => fin I12 nx) fun _ _ h' => h'
  exact codeAny_compStart_dict loop (T.self X.A 0 _ _ _ st4 loop)
theorem pe_dcx {kx vx tg iter : Expr} {ifs : List Expr} {scope : Scope} {own : List (Str × Nat)} {pos : Pos} {wi : TI} {g : TG} {tt : TT} {tk tv : TE} {put : Addr → V → V → Hp → (Hp → Prop) → Prop} (hput : PutOk X put) (hc : X.calm = true) (hN : X.N.Nodup) (hi : PI X tg iter wi) (ok : BlkOk X.N X.env.scope scope own)
    (hg : ∀ (s : Shared) (H : Hp) (C : Addr) (cl : List (Str × Addr)) (fp : List Addr), PG (X.blk s H scope (compEnvC scope cl C X.env) fp) tg g) (ht : ∀ (s : Shared) (H : Hp) (C : Addr) (cl : List (Str × Addr)) (fp : List Addr), PTs (X.blk s H scope (compEnvC scope cl C X.env) fp) ifs tt)
    (hk : ∀ (s : Shared) (H : Hp) (C : Addr) (cl : List (Str × Addr)) (fp : List Addr), PE (X.blk s H scope (compEnvC scope cl C X.env) fp) kx tk)
    (he : ∀ (s : Shared) (H : Hp) (C : Addr) (cl : List (Str × Addr)) (fp : List Addr), PE (X.blk s H scope (compEnvC scope cl C X.env) fp) vx tv) (hs : ∀ x, foldedSetIterable iter X.env x = pure x := by intro _; rfl) :
    PE X (.DictComp kx vx [⟨tg, iter, ifs, 0⟩] scope pos) (tDcx put wi g tt tk tv (own.map (·.2))) := by
  refine ⟨fun pins s σ H Q I h => ?_⟩
  rw [arm_eval_DictComp]
  refine dcx_core hput hc hN I hi ok hg ht hk he hs h fun D C s' m H' I' q hn f => ⟨m, hn, fun h'' sb => ?_⟩
  obtain ⟨f0, f1, f2, f3, f4, f5⟩ := f
  exact ⟨.ref D, H', I'.turned (t' := s'.toks) (fun b o hb e => (sb.2 b hb).trans e) f0 f1 f3 f4 f5, rfl, q⟩
end
/-! ### by the mirror -/
def dcompGo (n : Nat) (src : Src) (tg : TgM) (c : TM) (mk mv : EM) (ρ0 : Env) : Nat → Nat → Store → Res Unit
  | 0, _, _ => .bad
  | f + 1, k, st => match src k st with
    | none => .bad
    | some none => .ok () st
    | some (some d) => match tg d ρ0 with
      | none => .bad
      | some ρ1 => (c ρ1 st).bind fun b st1 => if b = true then (mk ρ1 st1).bind fun y st2 => (mv ρ1 st2).bind fun z st3 => match setDic n y z st3 with
          | some st4 => dcompGo n src tg c mk mv ρ0 f (k + 1) st4
          | none => .bad
        else dcompGo n src tg c mk mv ρ0 f (k + 1) st1
/-- {k: v for tg in .. if c}: a dict of kind t, new in the store -/
def mDComp (t : Bool) (mi : IM) (tg : TgM) (c : TM) (mk mv : EM) (vs : List Nat) : EM := fun ρ st => (mi ρ st).bind fun p st1 => (noExn (dcompGo st1.length p.1 tg c mk mv (wipeE ρ vs) p.2 0 (st1 ++ [.dic t []]))).bind fun _ st2 => .ok (.ref st1.length) st2
/-- storing, said of the values -/
def putS (g : Gx) (D : Addr) (y z : V) (H : Hp) (Q : Hp → Prop) : Prop := ∃ n yd zd st μ st', Sto g μ H st ∧ μ[n]? = some D ∧ DV g μ H y yd ∧ DV g μ H z zd ∧ setDic n yd zd st = some st' ∧ ∀ H', Ext μ H μ H' → Sto g μ H' st' → Q H'
theorem put_ok {X : Cx} {T : Tab} (hu : X.A.units + 65 < cLine) : PutOk X (putS (gx X T)) := by
  intro D s0 H0 scope ce fp pins σ H s y z u r Q E I ry rz h
  obtain ⟨n, yd, zd, st, μ, st', S, hn, dy, dz, e, q⟩ := h
  unfold setDic at e
  cases hs : st[n]? with
  | none => simp [hs] at e
  | some o =>
    cases o with
    | dic t old =>
      simp only [hs] at e
      cases ek : dKey t yd with
      | none => simp [ek] at e
      | some k =>
        simp only [ek] at e
        by_cases c : old.length < sizeLine
        · simp only [if_pos c, Option.some.injEq] at e
          subst e
          exact dic_dset (X := X.blk s0 H0 scope ce fp) (T := T) hu I S hs hn ek dy ry rz dz c fun H' s' I' ex S' => ⟨H', I', q H' ex S'⟩
        · simp [if_neg c] at e
    | _ => simp [hs] at e
section
variable {X : Cx} {T : Tab} {E : XK} {kx vx tg iter : Expr} {ifs : List Expr} {mk mv : EM} {mt : TM} {pos : Pos}
theorem tE_dcomp {t : Bool} {mi : IM} {tgm : TgM} {vs : List Nat} {g : TG} {σ : L2.St} {H : Hp} {Q : VK} (gok : TgOk g X.K tgm vs) (h : tE (gx X T) E (mDComp t mi tgm mt mk mv vs) σ H Q) : tDcx (putS (gx X T)) (tIt (gx X T) E mi) g (tT (gx X T) noE mt) (tE (gx X T) noE mk) (tE (gx X T) noE mv) vs σ H Q := by
  obtain ⟨ρ, st, μ, r1, s1, a⟩ := h
  refine ⟨ρ, st, μ, r1, s1, ?_⟩
  refine (AfterG.bind (Rl := fun μ H (J : It) (p : Src × Nat) => WalkOk (gx X T) p.1 J μ H) a).mono fun J H1 q => ?_
  obtain ⟨p, st1, μ1, e1, s1, w1, a1⟩ := q
  obtain ⟨src, fuel⟩ := p
  dsimp only at a1 w1
  intro Dl hD hy
  have s2 : Sto (gx X T) (μ1 ++ [Dl]) (upd H1 Dl (dO Dl oD0)) (st1 ++ [.dic t []]) := s1.push hD (dic0_new hy)
  have e2 : Ext μ1 H1 (μ1 ++ [Dl]) (upd H1 Dl (dO Dl oD0)) := Ext.newRef hD
  have hat : (μ1 ++ [Dl])[st1.length]? = some Dl := by rw [s1.len]; simp
  refine ⟨fun i m H' => ∃ st' μ', Ext (μ1 ++ [Dl]) (upd H1 Dl (dO Dl oD0)) μ' H' ∧ Sto (gx X T) μ' H' st' ∧ After (gx X T) μ' H' Q E ((noExn (dcompGo st1.length src tgm mt mk mv (wipeE ρ vs) m i st')).bind fun _ st2 => .ok (.ref st1.length) st2), ⟨fuel, st1 ++ [.dic t []], μ1 ++ [Dl], .refl, s2, AfterG.ext e2 a1⟩, ?_⟩
  rintro i m H' ⟨st', μ', e', s', a'⟩
  cases m with
  | zero => exact (show False from a').elim
  | succ m =>
    obtain ⟨wg, ws⟩ := w1 i μ' H' st' (e2.trans e') s'
    unfold dcompGo at a'
    cases q : src i st' with
    | none => simp only [q] at a'; exact (show False from a').elim
    | some o =>
      cases o with
      | none =>
        simp only [q] at a'
        exact .inl ⟨ws q, a' (.ref Dl) μ' H' .refl s' (.ref (e'.get hat))⟩
      | some d =>
        simp only [q] at a'
        obtain ⟨go, yl⟩ := wg d q
        refine .inr ⟨go, fun H2 => ∃ st2 μ2, Ext (μ1 ++ [Dl]) (upd H1 Dl (dO Dl oD0)) μ2 H2 ∧ Sto (gx X T) μ2 H2 st2 ∧ After (gx X T) μ2 H2 Q E ((noExn (dcompGo st1.length src tgm mt mk mv (wipeE ρ vs) m (i + 1) st2)).bind fun _ st3 => .ok (.ref st1.length) st3), fun H2 w2 => ⟨m, Nat.lt_succ_self _, w2⟩, fun x H2 y => ?_⟩
        obtain ⟨sm, dv⟩ := yl x H2 y
        have e3 := sm.ext μ'
        have r2 : EnvR (gx X T) μ' H2 (L2.wipe σ vs) (wipeE ρ vs) := (((r1.ext e1).ext e2).ext e' |>.ext e3).wipe vs
        cases qt : tgm d (wipeE ρ vs) with
        | none => simp only [qt] at a'; exact (show False from a').elim
        | some ρ1 =>
          simp only [qt] at a'
          refine gok (gx X T) rfl μ' H2 x d _ _ ρ1 _ dv r2 qt fun σ3 r3 w3 => ⟨?_, ?_⟩
          · rw [w3, wipe_wipe]
          · refine ⟨ρ1, st', μ', r3, s'.same sm, ?_⟩
            have a2 : After (gx X T) μ' H2 Q E _ := AfterG.ext e3 a'
            cases hc : mt ρ1 st' with
            | bad => rw [hc] at a2; exact (show False from a2).elim
            | exn cc fs st4 => rw [hc] at a2; exact (show False from a2).elim
            | ok b st4 =>
              rw [hc] at a2
              intro b' μ4 H4 e4 s4 rb
              have eb : b' = b := rb
              subst eb
              have eA : Ext (μ1 ++ [Dl]) (upd H1 Dl (dO Dl oD0)) μ4 H4 := (e'.trans e3).trans e4
              have a3 : After (gx X T) μ4 H4 Q E _ := AfterG.ext e4 a2
              simp only [Res.bind] at a3
              cases b' with
              | false =>
                simp only [Bool.false_eq_true, if_false] at a3 ⊢
                exact ⟨st4, μ4, eA, s4, a3⟩
              | true =>
                simp only [if_true] at a3 ⊢
                refine ⟨ρ1, st4, μ4, r3.ext e4, s4, ?_⟩
                cases hk : mk ρ1 st4 with
                | bad => rw [hk] at a3; exact (show False from a3).elim
                | exn cc fs st5 => rw [hk] at a3; exact (show False from a3).elim
                | ok y5 st5 =>
                  rw [hk] at a3
                  intro yv μ5 H5 e5 s5 ry
                  have a4 : After (gx X T) μ5 H5 Q E _ := AfterG.ext e5 a3
                  simp only at a4
                  refine ⟨ρ1, st5, μ5, (r3.ext e4).ext e5, s5, ?_⟩
                  cases hv : mv ρ1 st5 with
                  | bad => rw [hv] at a4; exact (show False from a4).elim
                  | exn cc fs st6 => rw [hv] at a4; exact (show False from a4).elim
                  | ok z6 st6 =>
                    rw [hv] at a4
                    intro zv μ6 H6 e6 s6 rz
                    have a5 : After (gx X T) μ6 H6 Q E _ := AfterG.ext e6 a4
                    simp only at a5
                    have eB := (eA.trans e5).trans e6
                    have hat6 := eB.get hat
                    cases hs : setDic st1.length y5 z6 st6 with
                    | none => simp only [hs] at a5; exact (show False from a5).elim
                    | some st7 =>
                      simp only [hs] at a5
                      exact ⟨st1.length, y5, z6, st6, μ6, st7, s6, hat6, ry.ext e6, rz, hs, fun H7 ex S7 => ⟨st7, μ6, eB.trans ex, S7, AfterG.ext ex a5⟩⟩
/-- {k: v for tg in iter if c} -/
theorem se_dcomp (t : Bool) {scope : Scope} {own : List (Str × Nat)} {mi : IM} {tgm : TgM} {g : TG} (hu : X.A.units + 65 < cLine) (hc : X.calm = true) (hN : X.N.Nodup) (ok : BlkOk X.N X.env.scope scope own) (gok : TgOk g X.K tgm (own.map (·.2))) (hi : SI X T E tg iter mi)
    (hg : ∀ (s : Shared) (H : Hp) (C : Addr) (cl : List (Str × Addr)) (fp : List Addr), PG (X.blk s H scope (compEnvC scope cl C X.env) fp) tg g)
    (ht : ∀ (s : Shared) (H : Hp) (C : Addr) (cl : List (Str × Addr)) (fp : List Addr), STs (X.blk s H scope (compEnvC scope cl C X.env) fp) T noE ifs mt)
    (hk : ∀ (s : Shared) (H : Hp) (C : Addr) (cl : List (Str × Addr)) (fp : List Addr), SE (X.blk s H scope (compEnvC scope cl C X.env) fp) T noE kx mk)
    (he : ∀ (s : Shared) (H : Hp) (C : Addr) (cl : List (Str × Addr)) (fp : List Addr), SE (X.blk s H scope (compEnvC scope cl C X.env) fp) T noE vx mv) (hs : ∀ x, foldedSetIterable iter X.env x = pure x := by intro _; rfl) :
    SE X T E (.DictComp kx vx [⟨tg, iter, ifs, 0⟩] scope pos) (mDComp t mi tgm mt mk mv (own.map (·.2))) :=
  PE.imp (pe_dcx (tt := tT (gx X T) noE mt) (tk := tE (gx X T) noE mk) (tv := tE (gx X T) noE mv) (put_ok (T := T) hu) hc hN hi ok hg ht hk he hs) fun _ _ _ h => tE_dcomp gok h
end
end SL
set_option maxRecDepth 100000
set_option maxHeartbeats 2000000
/-! Layer S: what is collected; sorted. -/
namespace SL
open PySem PySem.Spec PyProof.Rows L2 PySem.W

/-- the items of an iterable -/
def itsOf (st : Store) (d : D) : Option (List D) := match seqOf st d with
  | some ds => some ds
  | none => match dicOf st d with
    | some (_, kvs) => some (kvs.map (·.1))
    | none => none
section
variable {g : Gx} {μ : List Addr} {H : Hp}
theorem ents_keys : ∀ {t : Bool} {es : List DictEntry} {kvs : List (D × D)}, Ents g μ H t es kvs → ∃ vs, Vals vs (es.map (·.key)) ∧ DVs g μ H vs (kvs.map (·.1))
  | _, _, [], h => by cases h; exact ⟨[], .nil, .nil⟩
  | _, _, _ :: kvs, h => by
    cases h with
    | cons h1 h2 _ _ _ _ _ _ _ _ h11 =>
      obtain ⟨vs, r, d⟩ := ents_keys h11
      exact ⟨_ :: vs, .cons h1 r, .cons h2 d⟩
theorem ents_vals : ∀ {t : Bool} {es : List DictEntry} {kvs : List (D × D)}, Ents g μ H t es kvs → ∃ vs, Vals vs (es.map (·.val)) ∧ DVs g μ H vs (kvs.map (·.2))
  | _, _, [], h => by cases h; exact ⟨[], .nil, .nil⟩
  | _, _, _ :: kvs, h => by
    cases h with
    | cons _ _ _ _ _ _ h7 h8 _ _ h11 =>
      obtain ⟨vs, r, d⟩ := ents_vals h11
      exact ⟨_ :: vs, .cons h7 r, .cons h8 d⟩
end
section
variable {X : Cx} {T : Tab} {pins : List (Addr × Obj)} {σ : L2.St} {H : Hp} {s : Shared} {μ : List Addr} {st : Store} {A : Around} {E : Value → Shared → Prop}
theorem collect_D (hh : A.handled = none) (I : Inv X pins σ H s) (S : Sto (gx X T) μ H st) {d : D} {v : V} {u : Value} (h : DV (gx X T) μ H v d) (r : RelV v u) {ds : List D} (e : itsOf st d = some ds) {R : List Value → Shared → Prop}
    (q : ∀ (h' : Heap) (tk : Nat) (us : List Value) (vs : List V), (∀ b o, s.heap.get? b = some o → h'.get? b = some o) → Vals vs us → DVs (gx X T) μ H vs ds → ds.length ≤ sizeLine → R us { s with heap := h', toks := tk }) :
    wpAny (model X.prog X.w) A (collect u) R E s := by
  unfold itsOf at e
  cases es : seqOf st d with
  | some xs =>
    simp only [es, Option.some.injEq] at e
    subst e
    obtain ⟨b, vs, rfl, hb, hv⟩ := seqOf_ok S h es
    cases r
    rcases hb with hb | hb
    · obtain ⟨its, rv, p, hz⟩ := I.list (.inl hb)
      obtain ⟨o, ho, hc, n, hd⟩ := p.isList
      have hl := rv.length
      refine wpAny_collect_seq b (.inl rfl) ho hc hd (fun h' hk => ?_) (by simp only [List.size_toArray]; omega)
      exact q h' s.toks its.toArray.toList vs hk (by simpa using rv) hv (by rw [← hv.length]; exact hz)
    · obtain ⟨its, rv, p, hz⟩ := I.tuple hb
      obtain ⟨o, ho, hc, n, hd⟩ := p
      have hl := rv.length
      refine wpAny_collect_seq b (.inr rfl) ho hc hd (fun h' hk => ?_) (by simp only [List.size_toArray]; omega)
      exact q h' s.toks its.toArray.toList vs hk (by simpa using rv) hv (by rw [← hv.length]; exact hz)
  | none =>
    simp only [es] at e
    cases ed : dicOf st d with
    | none => simp [ed] at e
    | some p =>
      obtain ⟨t, kvs⟩ := p
      simp only [ed, Option.some.injEq] at e
      subst e
      obtain ⟨b, rfl, o, es, ep, e1, e2, e3, e4, e5⟩ := dicOf_ok S h ed
      cases r
      have ho := dO_at I e1
      obtain ⟨l1, l2⟩ := ents_len e5
      obtain ⟨vs, rv, dv⟩ := ents_keys e5
      have hn : es.size = kvs.length := by rw [← l1]; exact Array.length_toList.symm
      refine PySem.W.kdu_collect (kdl_raw (o := o) e4 e2 e3) hh ho (by rw [hn]; exact l2) fun h' tk acc hk hacc => ?_
      have ea : acc.toList = es.toList.map (·.key) := by
        refine List.ext_getElem? fun i => ?_
        rw [List.getElem?_map]
        by_cases c : i < acc.size
        · have h1 : acc.toList[i]? = some acc[i] := by rw [Array.getElem?_toList]; exact Array.getElem?_eq_getElem c
          obtain ⟨en, he, hv⟩ := hacc.2 i acc[i] (Array.getElem?_eq_getElem c)
          rw [h1, Array.getElem?_toList, he, hv]
          rfl
        · have h1 : acc.toList[i]? = none := by rw [Array.getElem?_toList]; exact Array.getElem?_eq_none (by omega)
          have h2 : es.toList[i]? = none := by rw [Array.getElem?_toList]; exact Array.getElem?_eq_none (by rw [← hacc.1]; omega)
          rw [h1, h2]
          rfl
      rw [ea]
      exact q h' tk _ vs hk rv dv (by rw [List.length_map]; exact l2)
end
/-! ### sorted -/
def encS (st : Store) (d : D) : PyData := (pyD st d).getD .none
def isTc : PyData → Bool
  | .tuple (_ :: _) => true
  | _ => false
def isOt : PyData → Bool
  | .none => false
  | .tuple _ => false
  | _ => true
/-- they can be sorted -/
def okSort (st : Store) (xs : List D) : Bool := (xs.all fun d => (pyD st d).isSome && SeqAt.shaped (encS st d)) && ((xs.all fun a => xs.all fun b => alike (encS st a) (encS st b)) && ((xs.all fun d => isTc (encS st d)) || xs.all fun d => isOt (encS st d)))
def sortD (st : Store) (xs : List D) : List D := xs.mergeSort (dataLe false (encS st))
theorem each_back {g : Gx} {μ : List Addr} {H : Hp} : ∀ {us : List Value} {ds : List D}, EachIs (fun u d => ∃ x, RelV x u ∧ DV g μ H x d) us ds → ∃ vs, Vals vs us ∧ DVs g μ H vs ds
  | _, _, .nil => ⟨[], .nil, .nil⟩
  | _, _, .cons ⟨x, r, d⟩ t => let ⟨vs, rv, dv⟩ := each_back t; ⟨x :: vs, .cons r rv, .cons d dv⟩
theorem each_of {g : Gx} {μ : List Addr} {H : Hp} : ∀ {us : List Value} {vs : List V} {ds : List D}, Vals vs us → DVs g μ H vs ds → EachIs (fun u d => ∃ x, RelV x u ∧ DV g μ H x d) us ds
  | _, _, [], r, h => by cases h; cases r; exact .nil
  | _, _, _ :: _, r, h => by
    cases h with
    | cons h1 h2 => cases r with | cons r1 r2 => exact .cons ⟨_, r1, h1⟩ (each_of r2 h2)
section
variable {X : Cx} {T : Tab} {E : XK}
theorem sort_run {pins : List (Addr × Obj)} {σ : L2.St} {H : Hp} {s : Shared} {μ : List Addr} {st : Store} {E' : Value → Shared → Prop} (hcalm : X.calm = true) (hu : X.A.units + 70 < cLine) (I : Inv X pins σ H s) (S : Sto (gx X T) μ H st) {d : D} {v : V} {u : Value} (h : DV (gx X T) μ H v d) (r : RelV v u) {ds : List D} (e : itsOf st d = some ds)
    (ok : okSort st ds = true) {Q : VK} (q : ∀ p vs, H p = none → DVs (gx X T) μ H vs (sortD st ds) → Q (.ref p) (upd H p (.lst vs))) : wpAny (model X.prog X.w) X.A (call (.builtin "sorted") [u]) (EP X pins σ Q) E' s := by
  simp only [okSort, Bool.and_eq_true, List.all_eq_true, Bool.or_eq_true] at ok
  obtain ⟨ok1, ok2, ok3⟩ := ok
  refine Calls.call_function_entry PyProof.Rows.kind_sorted PyProof.Rows.plain_sorted PyProof.Rows.entry_sorted (PyProof.Rows.args_sorted1 _) ?_
  unfold Builtin.«sorted»
  refine wpAny_bind (m := checkCount "sorted" 1 1 _) (wpAny_pure ?_)
  refine wpAny_bind (collect_D (A := X.A.in1) (I.ok.hd hcalm) I S h r e fun h' tk us vs hk rv dv hz => ?_)
  have hlu : us.length = ds.length := by rw [← rv.length, dv.length]
  have I1 : Inv X pins σ H { s with heap := h', toks := tk } := I.kept hk
  refine wpAny_bind (wpAny_newList ?_ (by rw [hlu]; exact hz))
  have hoL : (h'.push (seqObj "list" us.toArray 0)).get? h'.objs.size = some (seqObj "list" us.toArray 0) := Heap.get?_push_size _ rfl
  show wpAny _ _ _ _ _ { s with heap := h'.push (seqObj "list" us.toArray 0), toks := tk }
  have I2 : Inv X pins σ H { s with heap := h'.push (seqObj "list" us.toArray 0), toks := tk } := I1.kept (t' := tk) fun b o q => Heap.get?_push_of_some _ q
  have ee := each_of rv dv
  have ee2 : EachIs (fun u d => d ∈ ds ∧ ∃ x, RelV x u ∧ DV (gx X T) μ H x d) us ds := (each_mem ee).mono fun _ _ ⟨a, b⟩ => ⟨b, a⟩
  have er : EachIs (fun v b => ∃ as, Reads (sortingHeap (h'.push (seqObj "list" us.toArray 0)) h'.objs.size us) v (encS st b) as) us ds := ee2.mono fun u d ⟨hm, x, rx, dx⟩ => by
    have h1 := (ok1 d hm).1
    cases ep : pyD st d with
    | none => rw [ep] at h1; cases h1
    | some p =>
      obtain ⟨as, rd⟩ := Dp.reads I1 _ x u (pyD_ok S dx ep) rx
      refine ⟨as, ?_⟩
      have e1 : encS st d = p := by unfold encS; rw [ep]; rfl
      rw [e1]
      exact PyProof.Rows.Reads.keeps (fun b o q => sortingHeap_old (Nat.ne_of_lt (Heap.lt_size q)) (Heap.get?_push_of_some _ q)) rd
  have hal : AllAlike (ds.map (encS st)) := fun a ha b hb => by
    obtain ⟨x, hx, rfl⟩ := List.mem_map.mp ha
    obtain ⟨y, hy, rfl⟩ := List.mem_map.mp hb
    exact ok2 x hx y hy
  have hk2 : Sortable (ds.map (encS st)) := by
    rcases ok3 with o | o
    · refine .inl fun a ha => ?_
      obtain ⟨x, hx, rfl⟩ := List.mem_map.mp ha
      have := o x hx
      cases hh : encS st x with
      | tuple l =>
        cases l with
        | nil => rw [hh] at this; cases this
        | cons y r => exact ⟨y, r, rfl⟩
      | _ => rw [hh] at this; cases this
    · refine .inr fun a ha => ?_
      obtain ⟨x, hx, rfl⟩ := List.mem_map.mp ha
      have := o x hx
      refine ⟨fun z => ?_, fun l z => ?_⟩
      · rw [z] at this; cases this
      · rw [z] at this; cases this
  have hbd : ∀ b, b ∈ ds → X.A.in1.in1.units + (encS st b).depth < cLine := fun b hb => by
    have h1 := SeqAt.depth_of_shaped (ok1 b hb).2
    show X.A.units + 1 + 1 + _ < cLine
    omega
  refine wpAny_bind (wpAny_holding (wpAny_call_entry PyProof.Rows.slot_list_sort ⟨_, hoL, rfl⟩ PyProof.Rows.entry_list_sort
    (list_sort_vals (κ := dataKind (sortingHeap (h'.push (seqObj "list" us.toArray 0)) h'.objs.size us) (ds.map (encS st))) (s := { s with heap := h'.push (seqObj "list" us.toArray 0), toks := tk }) hoL
      (SortsAt.data (s := { s with heap := sortingHeap (h'.push (seqObj "list" us.toArray 0)) h'.objs.size us, toks := tk }) (each_map (R := fun v d => ∃ as, Reads (sortingHeap (h'.push (seqObj "list" us.toArray 0)) h'.objs.size us) v d as) (encS st) er) hal hk2 (bound_map hbd))
      (by rw [hlu]; exact hz) ⟨_, rfl, ?_⟩)
    (PyProof.Rows.args_list_sort _)))
  have eo := sortVals_data false ee er hal
  obtain ⟨ws, rw1, dw⟩ := each_back eo
  have hlo : ws.length ≤ sizeLine := by
    rw [dw.length, List.length_mergeSort]; exact hz
  obtain ⟨e', he'⟩ := PyProof.Rows.sortedHeap_at (vs := us) (out := (sortVals (dataKind (sortingHeap (h'.push (seqObj "list" us.toArray 0)) h'.objs.size us) (ds.map (encS st))) false us us).toArray) hoL
  refine wpAny_pure ⟨_, rfl, .ref h'.objs.size, upd H h'.objs.size (.lst ws), I1.laid (t' := tk) (fun b o q => ?_) (Nat.le_refl _) (show ObjOk X.prog X.w _ _ _ (.lst ws) from ⟨hlo, _, e', rw1, he'⟩), rfl, q _ ws (I1.hok.fresh (Nat.le_refl _)) dw⟩
  have hb : b < h'.objs.size := Heap.lt_size q
  rw [PyProof.Rows.sortedHeap_old (Nat.ne_of_lt hb) (by rw [size_push']; exact Nat.lt_succ_of_lt hb)]
  exact Heap.get?_push_of_some _ q
/-- sorted(x), kept as data -/
def bSortedF : CF := fun ds st => match ds with
  | [d] => match itsOf st d with
    | some xs => if okSort st xs = true then .ok (.lst (sortD st xs)) st else .bad
    | none => .bad
  | _ => .bad
/-- sorted(x), in the store -/
def bSorted : CF := fun ds st => match ds with
  | [d] => match itsOf st d with
    | some xs => if okSort st xs = true then .ok (.ref st.length) (st ++ [.lst (sortD st xs)]) else .bad
    | none => .bad
  | _ => .bad
theorem cr_sortedF (hcalm : X.calm = true) (hu : X.A.units + 70 < cLine) : CallR X (.builtin "sorted") (rDs (gx X T) E bSortedF) := by
  intro pins s σ H xs us Q I r h
  obtain ⟨ds, st, μ, S, dv, a⟩ := h
  unfold bSortedF at a
  split at a
  · obtain ⟨v, rfl, d1⟩ := dv.one
    obtain ⟨u, rfl, ru⟩ := vals1 r
    split at a
    · rename_i xs e
      by_cases c : okSort st xs = true
      · rw [if_pos c] at a
        exact sort_run hcalm hu I S d1 ru e c fun p vs hp dw => lst_now S a dw hp
      · rw [if_neg c] at a; exact a.elim
    · exact a.elim
  · exact a.elim
theorem cr_sortedD (hcalm : X.calm = true) (hu : X.A.units + 70 < cLine) : CallR X (.builtin "sorted") (rDs (gx X T) E bSorted) := by
  intro pins s σ H xs us Q I r h
  obtain ⟨ds, st, μ, S, dv, a⟩ := h
  unfold bSorted at a
  split at a
  · obtain ⟨v, rfl, d1⟩ := dv.one
    obtain ⟨u, rfl, ru⟩ := vals1 r
    split at a
    · rename_i xs e
      by_cases c : okSort st xs = true
      · rw [if_pos c] at a
        exact sort_run hcalm hu I S d1 ru e c fun p vs hp dw => ref_now S a hp (.lst upd_same (dw.ext (Ext.newRef hp)))
      · rw [if_neg c] at a; exact a.elim
    · exact a.elim
  · exact a.elim
end
end SL
set_option maxRecDepth 100000
set_option maxHeartbeats 2000000
/-! Layer S: an exception caught and kept; a lambda handed to the def that catches. -/
namespace SL
open PySem PySem.Spec PyProof.Rows L2

section
variable {X : Cx} {pins : List (Addr × Obj)} {σ : L2.St} {H : Hp} {s : Shared} {a : Addr} {o : HO}
/-- an object that lies there, new since the entry, is tracked from now on -/
theorem track (I : Inv X pins σ H s) (h0 : X.s_0.heap.get? a = none) (hn : H a = none) (nL : a ≠ X.env.locals) (hc : ∀ x c, X.env.cells.lookup x = some c → c ≠ a) (hp : ∀ p ∈ X.pn ++ pins, p.1 ≠ a) (new : ObjOk X.prog X.w (upd H a o) s.heap a o) : Inv X pins σ (upd H a o) s := by
  have ne : ∀ b u, H b = some u → b ≠ a := fun b u e => ne_of_none e hn
  have n0 : ∀ b u, X.s_0.heap.get? b = some u → b ≠ a := fun b u e z => by rw [z, h0] at e; cases e
  refine ⟨I.ok, I.os, I.bare, ⟨I.base.keep, I.base.slot, fun b u e n hx => ?_, I.base.there, fun b xs e => ?_, fun b u v e => ?_, fun b ps e => ?_⟩, I.loc, I.cell, ?_, fun x c e => ?_, fun p hq => ?_, HOk.laidN I.hok (fun _ _ z => z) hn new, I.len⟩
  · rw [upd_ne (n0 b u e)]; exact I.base.free b u e n hx
  · have z := I.base.tups b xs e
    rw [upd_ne (ne b _ z)]; exact z
  · have z := I.base.frzs b u v e
    rw [upd_ne (ne b _ z)]; exact z
  · obtain ⟨more, z⟩ := I.base.tbls b ps e
    exact ⟨more, by rw [upd_ne (ne b _ z)]; exact z⟩
  · rw [upd_ne (Ne.symm nL)]; exact I.free
  · rw [upd_ne (hc x c e)]; exact I.freeC x c e
  · obtain ⟨e1, e2, e3, e4, e5⟩ := I.pin p hq
    exact ⟨e1, by rw [upd_ne (hp p hq)]; exact e2, e3, e4, e5⟩
end
/-- what 'except x as n: suite' wishes, the exception tracked behind it -/
def wKeep (K : PySem.W.Frag) (len : Nat) (c : Value) (i : Nat) (ts : Addr → Value → Option Addr → TS) (Wout : WX) (D : Ends) : WX := fun cls d σ H =>
  ∃ b, PySem.W.exmOne K cls c = some b ∧ (b = true → σ.length = len → ∀ a, H a = none → ts a cls d { nx := fun σ' H' => H' a = none → D.nx (σ'.set i none) (upd H' a (xO cls d a)), rt := fun _ _ => False, bk := fun _ _ => False, ct := fun _ _ => False } (σ.set i (some (.ref a))) H) ∧
    (b = false → Wout cls d σ H)
section
variable {X : Cx} {x n : Str} {c : Value} {i : Nat} {body suite : List Stmt} {b₀ : Stmt} {np pos pos' : Pos} {tb : WX → TS} {ts : Addr → Value → Option Addr → TS} {Wout : WX}
theorem ps_try_keep (hs : X.stack = X.env :: X.outer) (hf : X.env.frame = some X.env.locals) (hex : X.ex = []) (hN : X.N.Nodup) (hi : X.N[i]? = some n) (hln : X.env.kindOf n = some .local) (hc : Names X x c) (tk : Takes X Wout)
    (hb : ∀ (W : WX) (pn : List (Addr × Obj)) (xe : Value → Shared → Prop), Takes (X.tr pn xe) W → PassesOwn (model X.prog X.w) X.A X.env xe → PSs (X.tr pn xe) body (tb W))
    (hsu : ∀ (a : Addr) (oe : Obj) (cls : Value) (d : Option Addr) (pn : List (Addr × Obj)), Zc cls d oe → (∃ vs, oe.data = .fields vs) → PSs (X.suite a ((a, oe) :: pn)) (b₀ :: suite) (ts a cls d)) :
    PS X (.Try body [.ExceptHandler (some (.Name x np)) (some n) (b₀ :: suite) pos'] [] [] pos) (fun D σ H => tb (wKeep X.K X.N.length c i ts Wout D) D σ H) := by
  refine ⟨fun pins s σ H D I h => ?_⟩
  have ok := I.ok
  have hfr : X.A.frames = some (X.env :: X.outer) := by rw [ok.frames, hs]
  refine wpAny_Try_except ?_
  refine wpAny_mono ((hb (wKeep X.K X.N.length c i ts Wout D) (X.pn ++ pins) (fun e s₁ => wpAny (model X.prog X.w) X.A (noteFrame e X.env) (fun _ s₂ => wpAny (model X.prog X.w) X.A (setFlight e none) (fun _ s₃ =>
    wpAny (model X.prog X.w) X.A (handleBy e X.env [.ExceptHandler (some (.Name x np)) (some n) (b₀ :: suite) pos']) (L2.SP X pins D) X.xe s₃) X.xe s₂) X.xe s₁) (fun u s' xx => ?_) PassesOwn.looking).run [] s σ H D (I.toTry _) h) (fun f s1 hsp => ?_) (fun e s1 he => he)
  · obtain ⟨a, B, sI, pins', σ', H', cls, d, rfl, J', nb, up, sky, na, os, ag, b, hb1, hyes, hno⟩ := xx
    have J : Inv X pins σ' H' sI := J'.ofTry ok
    have sky' : Sky B (X.env :: X.outer) a (Zc cls d) X.env.locals s'.heap := by rw [← hs]; exact sky
    show wpAny (model X.prog X.w) X.A (noteFrame (.ref a) X.env) _ _ _
    refine Sky.land Zc.steady hfr hf sky' fun h3 fl3 up3 => ?_
    have J3 : Inv X pins σ' H' { s' with heap := h3 } := J.landed nb fl3.1 (up.trans up3) os ag
    obtain ⟨oe3, vs3, he3, hz3, hd3⟩ := fl3.there
    have nfr : a ∉ frs (X.env :: X.outer) := fun hm => by
      obtain ⟨_, o', e', hnf⟩ := fl3.2.2.1.mem hm
      rw [he3] at e'; cases e'
      exact hnf _ hd3
    have nL : a ≠ X.env.locals := fun z => nfr (List.mem_filterMap.mpr ⟨X.env, List.mem_cons_self, by rw [hf, z]⟩)
    have nF : a ∉ X.fs := fun hm => by
      obtain ⟨e, he, q⟩ := List.mem_filterMap.mp hm
      exact nfr (List.mem_filterMap.mpr ⟨e, List.mem_cons_of_mem _ he, q⟩)
    have newI : sI.heap.get? a = none := by
      cases q : sI.heap.get? a with
      | none => rfl
      | some o =>
        have z := nb a o q (by rw [hs]; exact nfr)
        rw [fl3.2.1] at z; cases z
    have h0 : X.s_0.heap.get? a = none := by
      cases q : X.s_0.heap.get? a with
      | none => rfl
      | some o =>
        obtain ⟨o', z⟩ := J.base.there a o q (by rw [hex]; simp)
        rw [newI] at z; cases z
    have hcell : ∀ y c, X.env.cells.lookup y = some c → c ≠ a := fun y c e z => by
      obtain ⟨v, oc, q, _⟩ := J.cell y c e
      rw [z, newI] at q; cases q
    have hpin : ∀ p ∈ X.pn ++ pins, p.1 ≠ a := fun p hp z => by
      have q := (J.pin p hp).1
      rw [z, newI] at q; cases q
    have S3 := J3.suite he3 hd3 na nL nF
    refine wpAny_handleBy_cons (codeAny_handlers_test ?_) (by intro q; cases q)
    have LT : PySem.W.Looks (model X.prog X.w) h3 (typeOf (.ref a)) cls := fun A Q E s k q => wpAny_typeOf_ref (k _ _ he3) (by rw [hz3.1]; exact q)
    have LM := PySem.W.exm_one (M := model X.prog X.w) (J3.kIn) LT hb1
    have test : ∀ {Q : Value → Shared → Prop} {E : Value → Shared → Prop}, Q c { s' with heap := h3 } → wpAny (model X.prog X.w) (X.A.mark (some (.ref a))) (eval (.Name x np) X.env) Q E { s' with heap := h3 } := fun {Q E} q => by
      obtain ⟨hg, hdbg, hm | ⟨hm, hv, hnn⟩⟩ := hc
      · exact ld_glob (X := X.suite a ((a, oe3) :: (X.pn ++ pins))) S3 hg hm q hdbg
      · exact ld_blt (X := X.suite a ((a, oe3) :: (X.pn ++ pins))) S3 hg hm hv q hnn hdbg
    refine test (LM.here ?_)
    cases b with
    | true =>
      refine codeAny_handlers_suite_as ?_
      refine HandSPX.lands_againZ fl3 fun h4 fl4 up4 => ?_
      have J4 : Inv X pins σ' H' { s' with heap := h4 } := J.landed nb fl4.1 ((up.trans up3).trans up4) os ag
      obtain ⟨oe4, vs4, he4, hz4, hd4⟩ := fl4.there
      have S4 := J4.suite he4 hd4 na nL nF
      refine store_ok (X := X.suite a ((a, oe4) :: (X.pn ++ pins))) (v := .ref a) S4 hN hi (.inl hln) rfl (fun s5 S5 => ?_) (.inr hln)
      refine wpAny_mono ((hsu a oe4 cls d (X.pn ++ pins) hz4 ⟨_, hd4⟩).run [] s5 _ H' _ S5 (hyes rfl J.len a na)) (fun f s6 hsp => ?_) (fun _ _ z => False.elim z)
      cases f with
      | next =>
        obtain ⟨σ6, H6, S6, q6⟩ := hsp
        obtain ⟨he6, hn6, _⟩ := S6.pin (a, oe4) (List.mem_append.mpr (.inl List.mem_cons_self))
        have new6 : ObjOk X.prog X.w (upd H6 a (xO cls d a)) s6.heap a (xO cls d a) := ⟨⟨oe4, vs4, he6, hz4, hd4⟩, ⟨_, he6⟩, fun h1 h2 ⟨oe, vs, z1, z2, z3⟩ k => ⟨oe, vs, k _ z1, z2, z3⟩⟩
        exact gone_ok (track (S6.unsuite ok) h0 hn6 nL hcell hpin new6) hN hi hln fun s7 J7 => ⟨_, _, J7, q6 hn6⟩
      | brk =>
        obtain ⟨σ6, H6, S6, q6⟩ := hsp
        exact q6.elim
      | cont =>
        obtain ⟨σ6, H6, S6, q6⟩ := hsp
        exact q6.elim
      | ret u =>
        obtain ⟨v6, σ6, H6, S6, r6, q6⟩ := hsp
        exact q6.elim
    | false =>
      show wpAny _ X.A (handleBy (.ref a) X.env []) _ _ _
      refine wpAny_handleBy_nil ?_
      obtain ⟨k1, k2, k3, oe, vs, T, oT, ts', he, hz, hd, h1, hr⟩ := id fl3
      unfold PySem.passOn
      refine wpAny_bind (wpAny_field he hd h1 ?_)
      rw [if_neg (show ¬ ((Value.ref T == Value.none) = true) from by simp)]
      have fin : wpAny (model X.prog X.w) X.A (setFlight (.ref a) X.env.frame) (fun _ s4 => wpAny (model X.prog X.w) X.A (throw (.ref a) : Sem Flow) (L2.SP X pins D) X.xe s4) X.xe { s' with heap := h3 } := by
        rw [hf]
        refine HandSPX.setFlight_upZ fl3 fun h4 hh4 up4 => wpAny_throw (tk _ _ ?_)
        exact ⟨a, B, sI, pins, σ', H', cls, d, rfl, J, nb, (up.trans up3).trans up4, .inr (.inr (by rw [hs]; exact hh4)), na, os, ag, hno rfl⟩
      first
        | exact wpAny_bind (wpAny_pure (wpAny_bind fin))
        | exact wpAny_bind fin
  · cases f with
    | next =>
      obtain ⟨σ', H', J', q⟩ := hsp
      exact wpAny_execs_nil ⟨σ', H', J'.ofTry ok, q⟩
    | brk =>
      obtain ⟨σ', H', J', q⟩ := hsp
      exact ⟨σ', H', J'.ofTry ok, q⟩
    | cont =>
      obtain ⟨σ', H', J', q⟩ := hsp
      exact ⟨σ', H', J'.ofTry ok, q⟩
    | ret u =>
      obtain ⟨v, σ', H', J', r, q⟩ := hsp
      exact ⟨v, σ', H', J'.ofTry ok, r, q⟩
end
/-! ### the def that catches -/
/-- caught(lambda: ..): None, or the exception -/
def TTc (K : PySem.W.Frag) (CS : Addr) : (XK → Hp → VK → Prop) → Hp → VK → Prop := fun tl H Q =>
  tl (fun cls d H' => ∃ b, PySem.W.exmOne K cls (.ref CS) = some b ∧ (b = true → ∀ a, H' a = none → Q (.ref a) (upd H' a (xO cls d a))) ∧ (b = false → False)) H fun _ H' => Q .non H'
section
variable {X : Cx}
theorem caught_gives {Ng : List Str} {x a e q n y : Str} {sg : Scope} {g CS : Addr} {cdg : Value} {i j : Nat} {jc : Str} {p1 p2 p3 p4 p5 p6 p7 p8 p9 p10 p11 p12 p13 p14 : Pos} (hge : sg.names.lookup e = some .globalImplicit) (hme : X.mg e = some (.ref CS)) (hde : (e == ("__debug__" : Str)) = false)
    (hN : Ng.Nodup) (hi : Ng[i]? = some n) (hj : Ng[j]? = some y) (hln : sg.names.lookup n = some .local) (hly : sg.names.lookup y = some .local) (hij : i ≠ j) (hj0 : j ≠ 0) (hlen : 0 < Ng.length)
    (dn : (n == ("__debug__" : Str)) = false) (dn2 : (n == ("__classdict__" : Str)) = false) (dy : (y == ("__debug__" : Str)) = false) (dy2 : (y == ("__classdict__" : Str)) = false) :
    LamX.GivesTo X Ng x sg g cdg [.Assign [.Name y p9] (.Constant .none 0 p10) p11, .Try [.Expr (.Call (.Name a p1) [] [] p2) p3] [.ExceptHandler (some (.Name e p4)) (some n) [.Assign [.Name y p5] (.Name n p6) p12] p7] [] [] p8, .Return (some (.Name y p13)) p14] a q (TTc X.K CS) := by
  intro f c' s H Q tl act hc h
  have hgl : Gl (cxOf C8.CX0 X.prog X.w X.K X.mg X.base Ng x sg g cdg X.A X.stack s H C8.E0).nox e := hge
  have hjl : j < Ng.length := (List.getElem?_eq_some_iff.mp hj).1
  have hlen2 : (L2.start Ng [V.ref f]).length = Ng.length := by simp [L2.start]; omega
  refine ⟨_, pss_cons (ps_asg pe_non (pg_name (i := j) hN hj (.inl hly) (.inr hly))) (pss_cons (ps_try_keep (X := (cxOf C8.CX0 X.prog X.w X.K X.mg X.base Ng x sg g cdg X.A X.stack s H C8.E0).nox) (c := .ref CS) (i := i) (Wout := fun _ _ _ _ => False)
      (tb := fun W D σ H => ∃ Ech : XK, (∀ cls d σ' H', Ech cls d H' → W cls d σ' H') ∧ σ[0]? = some (some (.ref f)) ∧ H c' = some (LamX.CodeO c' q) ∧ tl Ech H (fun _ H' => D.nx σ H'))
      rfl rfl rfl hN hi hln ⟨hgl, hde, .inl hme⟩ LamX.takes0 (fun W pn xe tk _ => ?_) (fun a oe cls d pn _ _ => pss_one (ps_asg (pe_var (i := i) hi (.inl hln) dn dn2) (pg_name (i := j) hN hj (.inl hly) (.inr hly))))) (pss_one (ps_ret (pe_var (i := j) hj (.inl hly) dy dy2)))), ?_⟩
  · refine ⟨fun pins s' σ H' D I h' => ?_⟩
    obtain ⟨Ech, hW, h1, h2, h3⟩ := h'
    have hp := act W pn xe Ech p1 p2 tk hW
    exact (pss_one (ps_expr (pos := p3) hp)).run pins s' σ H' D I ⟨h1, h2, h3⟩
  · refine ⟨fun cls d H' => ∃ b, PySem.W.exmOne X.K cls (.ref CS) = some b ∧ (b = true → ∀ a, H' a = none → Q (.ref a) (upd H' a (xO cls d a))) ∧ (b = false → False), fun cls d σ' H' ⟨b, e1, e2, e3⟩ => ⟨b, e1, fun hb hl a na => ?_, fun hb => e3 hb⟩, ?_, hc, ?_⟩
    · have hl' : σ'.length = Ng.length := hl
      have hil : i < Ng.length := (List.getElem?_eq_some_iff.mp hi).1
      refine ⟨.ref a, by rw [List.getElem?_set_self (by omega)], fun _ => ?_⟩
      refine ⟨.ref a, ?_, e2 hb a na⟩
      rw [List.getElem?_set_ne hij, List.getElem?_set_self (by rw [List.length_set]; omega)]
    · rw [List.getElem?_set_ne hj0]
      simp [L2.start]
    · have hs : ((L2.start Ng [V.ref f]).set j (some V.non))[j]? = some (some V.non) := by rw [List.getElem?_set_self (by omega)]
      refine Eq.mp (congrArg (fun z => tl (fun cls d H' => ∃ b, PySem.W.exmOne X.K cls (.ref CS) = some b ∧ (b = true → ∀ a, H' a = none → Q (.ref a) (upd H' a (xO cls d a))) ∧ (b = false → False)) H z) ?_) h
      funext v H'
      refine propext ⟨fun z => ⟨.non, hs, z⟩, fun ⟨w, z1, z2⟩ => ?_⟩
      have z1' : ((L2.start Ng [V.ref f]).set j (some V.non))[j]? = some (some w) := z1
      rw [hs] at z1'
      cases z1'
      exact z2
end
end SL
set_option maxRecDepth 100000
set_option maxHeartbeats 4000000
/-! Layer S: an own exception class whose __init__ asks super().__init__(text) and keeps one value. -/
namespace SL
open PySem PySem.Spec PyProof.Rows L2 PySem.W

abbrev iniBody (p0 p1 p2 p3 p4 p5 p6 p7 p8 p9 : Pos) (txt sf fld par : Str) : List Stmt :=
  [.Expr (.Call (.Attribute (.Call (.Name "super" p0) [] [] p1) "__init__" p2) [.Constant (.str txt) 0 p3] [] p4) p5, .Assign [.Attribute (.Name sf p6) fld p7] (.Name par p8) p9]
structure IniD (P : Program) (K : Frag) (qual : Str) (params : Arguments) (body : List Stmt) (scope : Scope) (fI D : Addr) (fd : FuncData) : Prop where
  ex : ∃ (oc : Value) (od : Option Addr) (dV kV doc pm : Value) (an : Option Addr) (cda : Addr) (ct : Value) (cc : Addr) (osl : Array (Option Value)) (ccl : Value) (cdd : Option Addr) (vs : Array Value) (ccs : Array (Option Value)) (file : Str) (tf : Tok) (cl : Value) (cld : Option Addr) (csl : Array (Option Value)) (cdD : ClassData),
    fd = ksFn "__init__" qual params body scope dV kV doc pm an (.ref cda) ct cc ∧ K.lookup fI = some ⟨oc, od, .func fd, osl⟩ ∧ codeIn K (.ref cda) qual = true ∧ K.lookup cda = some ⟨ccl, cdd, .fields vs, ccs⟩ ∧ vs[2]? = some (.str file tf) ∧ ((P.main.file : Str) == file) = true ∧
      K.lookup cc = some ⟨cl, cld, .cell (some (.ref D)), csl⟩ ∧ clsIn K D = some cdD
  any_ : nsIn K cStatics "thirdparty.any" = some none
  top : (P.main.scope.names.lookup ("super" : Str)).isSome = false
/-- the class at C, made by the def of the class at D -/
structure IniC (K : Frag) (C D : Addr) (fld : Str) : Prop where
  ox : OexC K C
  mro : mroIn K C (.ref D) = some true
  ve : mroIn K C (.type "ValueError") = some true
  sup : ks_superIn K C D "__init__" = some (some (.builtin "ValueError.__init__"))
  no : findIn K (.ref C) fld = some none
def spIni (K : Frag) (D : Addr) (fld : Str) : Sp := fun vs H Q _ => ∃ a y C, vs = [.ref a, y] ∧ IniC K C D fld ∧ H a = some (exo a C none) ∧ ∀ dx, H dx = none → dx ≠ a → Q .non (upd (upd H dx (exd dx [(fld, y)])) a (exo a C (some dx)))
theorem call_mw {prog : Program} {w : World} {A : Around} {E : Value → Shared → Prop} {K : Frag} {h : Heap} {g : Array GenState} {d : Drawn} {t : Nat} {os : OsState} {u a C t1 : Addr} {rest : List Value} {Q : Value → Shared → Prop} (X : K.In h) (T : OexC K C)
    (ho : h.get? a = some ({ cls := .ref C, dict := none, data := .fields #[.ref t1, .none, .none, .none, .bool false, .none] } : Obj)) (hu : h.get? u = some (kxs_mw "ValueError.__init__" a)) (hz : rest.length ≤ sizeLine)
    (hq : ∀ h' t2, (∀ b o, b ≠ a → h.get? b = some o → h'.get? b = some o) → h'.get? a = some ({ cls := .ref C, dict := none, data := .fields #[.ref t2, .none, .none, .none, .bool false, .none] } : Obj) → Q .none ⟨h', g, d, t, os⟩) :
    wpAny (model prog w) A (call (.ref u) rest) Q E ⟨h, g, d, t, os⟩ := by
  obtain ⟨nm, q, N, bs, bm, sn, sub, ab, col, dd, k0, k1, k2, k3, k5, hC, hbm⟩ := T.cls
  refine wpAny_call (codeAny_of_tree ?_)
  show wpAny _ A.in1 (callAny (.ref u) ⟨rest, []⟩) _ _ _
  simp only [callAny]
  refine wpAny_bind (wpAny_load hu ?_)
  simp only [kxs_mw, show (Value.type "method-wrapper" == Value.type "method" || Value.type "method-wrapper" == Value.type "builtin_function_or_method" || Value.type "method-wrapper" == Value.type "method-wrapper") = true by decide, if_true]
  refine KFB.if_so (by decide) ?_
  refine wpAny_bind (check_bound_init F.excBase_ValueError.toExcCallFacts (X _ _ hC) ho rfl ?_)
  refine wpAny_bind (wpAny_pure (wpAny_pure ?_))
  refine ⟨plainId_quiet F.excBase_ValueError.init.plain _, codeAny_builtin F.excBase_ValueError.initEntry ?_⟩
  exact exc_init_tree (cls := .ref C) (t0 := t1) (dv := none) (c2 := .none) (c3 := .none) (b4 := .bool false) ho hz fun h' k e' t' => hq h' _ k e'
theorem ini_ok {P : Program} {w : World} {K : Frag} {mg : Str → Option Value} {base : Heap} {k : Nat} {qual : Str} {params : Arguments} {scope : Scope} {fI D : Addr} {fd : FuncData} {txt sf fld par : Str} {p0 p1 p2 p3 p4 p5 p6 p7 p8 p9 : Pos}
    (T : IniD P K qual params (iniBody p0 p1 p2 p3 p4 p5 p6 p7 p8 p9 txt sf fld par) scope fI D fd) (hpar : ∃ ar, (params.posonlyargs ++ params.args).head? = some ar ∧ ar.arg = sf) (hms : mg "super" = none)
    (hks : scope.names.lookup ("super" : Str) = some .globalImplicit) (hkc : scope.names.lookup ("__class__" : Str) = some .free) (hsf : scope.names.lookup sf = some .local) (hpr : scope.names.lookup par = some .local) (hne : (sf == par) = false)
    (hcell : ∀ x ∈ scope.names, x.2 ≠ .cell) (hkind : scope.kind = .function) (hco : scope.isCoroutine = false) (hgen : scope.isGenerator = false) (hds : (sf == ("__debug__" : Str)) = false) (hdp : (par == ("__debug__" : Str)) = false)
    {pl : PySem.Env → Sem Bool} (he : ∀ env : PySem.Env, eval (.Call (.Attribute (.Call (.Name "super" p0) [] [] p1) "__init__" p2) [.Constant (.str txt) 0 p3] [] p4) env = (do
      let ov ← attributeBase (.Call (.Name "super" p0) [] [] p1) "__init__" env (eval (.Call (.Name "super" p0) [] [] p1) env)
      standAt p2.atName
      let (f, first) ← holding [ov] (getMethod ov "__init__" (pl env))
      callWith p4 f first (backTo p4 (starEach [.Constant (.str txt) 0 p3] env)) []))
    (hi : ∀ (L f c : Addr) (cd : Value), interactive (ksEnv qual scope L f cd c) = false)
    (hsw : ∀ env : PySem.Env, swapsWith (.Call (.Attribute (.Call (.Name "super" p0) [] [] p1) "__init__" p2) [.Constant (.str txt) 0 p3] [] p4) none p5.line env = pure false)
    (hsw2 : ∀ env : PySem.Env, swapsWith (.Name par p8) (some (.Attribute (.Name sf p6) fld p7)) p9.line env = pure false)
    (hst : ∀ env : PySem.Env, starEach [.Constant (.str txt) 0 p3] env = (false, eval (.Constant (.str txt) 0 p3) env) :: starEach [] env) :
    FnOk P w K mg base (CX P w) (k + 1) fI fd [sf, par] (spIni K D fld) := by
  obtain ⟨oc, od, dV, kV, doc, pm, an, cda, ct, cc, osl, ccl, cdd, vs, ccs, file, tf, cl, cld, csl, cdD, rfl, lk, hcd, hcode, hvs, hfile, hcc, hD⟩ := T.ex
  refine ⟨fun vs H Q E ⟨a, y, C, e, _⟩ => by rw [e]; rfl, ?_⟩
  intro A outer s H args us vs' Q E hr e0 hb rv h
  obtain ⟨a, y, C, rfl, ic, ha, hq⟩ := h
  have KX : K.In s.heap := e0.mod.kin.keeps fun b o e => (e0.bs b o e).1
  have lim : s.heap.NoLimit := e0.mod.nolimit.keeps fun b o e => (e0.bs b o e).1
  obtain ⟨u1, u2, rfl, r1, r2⟩ := vals2 rv
  obtain rfl : u1 = Value.ref a := r1
  obtain ⟨t1, ho⟩ := exo_at e0.hok ha
  obtain ⟨ar, har, hna⟩ := hpar
  subst hna
  have hnp : ar.arg ≠ par := beq_eq_false_iff_ne.mp hne
  obtain ⟨mb, hmb, hbt⟩ := e0.mod.blt
  obtain ⟨oD, hD1, hD2⟩ : ∃ oD, K.lookup D = some oD ∧ oD.data = .cls cdD := by
    unfold clsIn at hD
    split at hD
    · rename_i c d cd' sl ho
      cases hD
      exact ⟨_, ho, rfl⟩
    · cases hD
  refine ks_codeAny_call_defAt hr.depth (KX _ _ lk) rfl lim (codeRec_of KX hcd) rfl hb hcell ?_ ?_ hco hgen hkind
  · intro z hz
    have hz' : z ∈ [(ar.arg, Value.ref a), (par, u2)] := hz
    rcases List.mem_cons.mp hz' with e | e
    · rw [e]; exact hsf
    · rw [List.mem_singleton.mp e]; exact hpr
  intro h₀ hns hk0
  have hns' : h₀.Ns s.heap.objs.size (fun x => [(par, u2), (ar.arg, Value.ref a)].lookup x) := hns
  have K0 : K.In h₀ := KX.keeps hk0
  have glob0 : h₀.Ns mainGlobals mg := (e0.mod.glob.keeps fun b o e => (e0.bs b o e).1).keeps hk0
  have blt0 : h₀.Ns builtinsNs mb := (hmb.keeps fun b o e => (e0.bs b o e).1).keeps hk0
  show _root_.PySem.wpAt _ _ _ (execs (iniBody p0 p1 p2 p3 p4 p5 p6 p7 p8 p9 txt ar.arg fld par) (ksEnv qual scope s.heap.objs.size fI (.ref cda) cc)) _ _ _
  obtain ⟨hp, g, d, t, os⟩ := s
  have ho0 := hk0 _ _ ho
  have I0 : InstAt h₀ a { cls := .ref C, dict := none, data := .fields #[.ref t1, .none, .none, .none, .bool false, .none] } C none := ⟨ho0, rfl, rfl, trivial⟩
  have ls : [(par, u2), (ar.arg, Value.ref a)].lookup ar.arg = some (Value.ref a) := by
    rw [List.lookup_cons, hne, List.lookup_cons, beq_self_eq_true]
  have lp : [(par, u2), (ar.arg, Value.ref a)].lookup par = some u2 := by
    rw [List.lookup_cons, beq_self_eq_true]
  refine ks_wpAt_execs_cons (ks_wpAt_Expr_any (ks_wpAt_MethodCall (pl := pl _) ?_ (he _)) (hi _ _ _ _) (hsw _))
  refine ks_wpAt_super_base (env := ksEnv qual scope hp.objs.size fI (.ref cda) cc) hks hkc (by decide) rfl (K0 _ _ lk) rfl har rfl (K0 _ _ hcode) rfl hvs hfile T.top ?_
  refine ks_loadName_global hkind hks (Calls.loadGlobal_builtin (env := ksEnv qual scope hp.objs.size fI (.ref cda) cc) glob0 hms blt0 ((hbt _ (by decide)).trans (by rfl)) ⟨rfl, ?_⟩)
  refine wpAny_loadName_free hkind hkc rfl ⟨_, K0 _ _ hcc, rfl⟩ ?_
  refine wpAny_loadName_local hkind hsf hns' ls ?_
  refine ks_wpAny_isType_cls (K0 _ _ hD1) hD2 ⟨rfl, ?_⟩
  refine ks_wpAny_call_super (K0 _ _ hD1) hD2 ho0 rfl (fun c e => nomatch e) (looks_mroIn K0 ic.mro) (fun h1 e1 k1 => ?_)
  have K1 : K.In h1 := K0.keeps k1
  have I1 : InstAt h1 a { cls := .ref C, dict := none, data := .fields #[.ref t1, .none, .none, .none, .bool false, .none] } C none := ⟨k1 _ _ ho0, rfl, rfl, trivial⟩
  obtain ⟨cdC, hcC, hal⟩ : ∃ cd, clsIn K C = some cd ∧ alongIn K "__init__" ((cd.mro.dropWhile (· != .ref D)).drop 1) = some (some (.builtin "ValueError.__init__")) := by
    have z := ic.sup
    unfold ks_superIn at z
    cases hc : clsIn K C with
    | none => rw [hc] at z; cases z
    | some cd => rw [hc] at z; exact ⟨cd, rfl, z⟩
  refine kxs_getMethod kxs_ValueError e1 (looks_opaque K1 T.any_) (l₀ := cdC.mro) (fun A Q E s k q => wpAny_bind ((looks_clsIn K1 hcC) A _ E s k (wpAny_pure q))) rfl K1 hal (I1.type.andThen (looks_mroIn K1 ic.ve)) (ks_ne K1 I1 hcC) (by decide) ?_
  have hmw : (h1.push (kxs_mw "ValueError.__init__" a)).get? h1.objs.size = some (kxs_mw "ValueError.__init__" a) := Heap.get?_push_size _ rfl
  show wpAny _ _ (callWith p4 (.ref h1.objs.size) [] (backTo p4 (starEach [.Constant (.str txt) 0 p3] (ksEnv qual scope hp.objs.size fI (.ref cda) cc))) []) _ _ _
  rw [hst]
  refine kxs_callWith (i := "ValueError.__init__") (x := a) (by rfl) (Calls.evalArgs_plain ?_)
  show wpAny _ _ (spliced ((false, eval (.Constant (.str txt) 0 p3) _) :: backTo p4 (starEach [] _))) _ _ _
  refine Calls.spliced_cons (wpAny_Constant_str ?_)
  refine Calls.spliced_nil ⟨hmw, ?_⟩
  have kA : ∀ b o, hp.get? b = some o → (h1.push (kxs_mw "ValueError.__init__" a)).get? b = some o := fun b o e => Heap.get?_push_of_some _ (k1 _ _ (hk0 b o e))
  refine call_mw (KX.keeps kA) ic.ox (kA _ _ ho) hmw (by show 1 ≤ sizeLine; rw [sizeLine_eq]; omega) fun h2 t2 k2 ho2 => ?_
  show _root_.PySem.wpAt _ _ _ (execs [.Assign [.Attribute (.Name ar.arg p6) fld p7] (.Name par p8) p9] (ksEnv qual scope hp.objs.size fI (.ref cda) cc)) _ _ _
  have la : hp.objs.size ≠ a := Nat.ne_of_gt (Heap.lt_size ho)
  have hns2 : h2.Ns hp.objs.size (fun x => [(par, u2), (ar.arg, Value.ref a)].lookup x) := by
    obtain ⟨ob, es, ep, z, r⟩ := hns'
    exact ⟨ob, es, ep, k2 _ _ la (Heap.get?_push_of_some _ (k1 _ _ z)), r⟩
  have KaK : ∀ b o, K.lookup b = some o → b ≠ a := fun b o e z => by
    have n := (e0.bs b o (e0.mod.kin b o e)).2
    rw [z, ha] at n; cases n
  have K2 : K.In h2 := fun b o e => k2 b o (KaK b o e) (KX.keeps kA b o e)
  refine ks_wpAt_execs_cons (ks_wpAt_Assign_Attr (wpAt_of_wpAny ?_) (hsw2 _))
  refine wpAny_Name (wpAny_loadName_local hkind hpr hns2 lp ?_) hdp
  refine wpAny_Name (wpAny_loadName_local hkind hsf hns2 ls ?_) hds
  obtain ⟨nm, q, N, bs, bm, sn, sub, ab, col, dd, k0, kk1, kk2, kk3, k5, hC, hbm⟩ := ic.ox.cls
  have hcl : PySem.W.clsIn K C = some { name := nm, bases := bs, mro := .ref C :: bm, ns := N, qualname := q, hasDict := true, slotNames := sn, subclasses := sub, abstract := ab, collection := col, hasDel := false } := by unfold PySem.W.clsIn; rw [hC] <;> rfl
  refine PySem.W.set_plain K2 (ox := { cls := .ref C, dict := none, data := .fields #[.ref t2, .none, .none, .none, .bool false, .none] }) (od := none) ⟨ho2, rfl, rfl, trivial⟩ ic.ox.sa ?_
  refine PySem.HandSPX.exc_osa K2 ho2 hcl (show PySem.HandSPX.refsVE (.ref C :: bm) = true from hbm) rfl ic.no (fun h3 tk' dx k3 dn dne hx hn => ?_)
  refine wpAt_of_wpAny (wpAny_execs_nil ?_)
  have kF : ∀ b o, b ≠ a → hp.get? b = some o → h3.get? b = some o := fun b o hb e => k3 b o hb (k2 b o hb (kA b o e))
  have sz2 : hp.objs.size ≤ dx := by
    obtain ⟨_, _, _, z, _⟩ := hns2
    exact Nat.le_trans (Nat.le_of_lt (Heap.lt_size z)) dn
  have hnd : H dx = none := e0.hok.fresh sz2
  have nd : ∀ {b : Addr} {o : Obj}, hp.get? b = some o → b ≠ dx := fun {b o} q => Nat.ne_of_lt (Nat.lt_of_lt_of_le (Heap.lt_size q) sz2)
  have na : ∀ {b : Addr}, H b = none → b ≠ a := fun {b} n z => by
    rw [z, ha] at n
    cases n
  refine ⟨.non, _, rfl, e0.bare, ?_, fun b o q => ?_, rfl, hq dx hnd dne⟩
  · exact {
      keep := fun b o q n _ _ => kF b o (na n) q
      slot := fun b o q n _ _ => ⟨o.slots, kF b o (na n) q⟩
      free := fun b o q n _ => by rw [upd_ne (na n), upd_ne (nd q)]; exact n
      there := fun b o q _ => by
        by_cases hb : b = a
        · exact ⟨_, by rw [hb]; exact hx⟩
        · exact ⟨o, kF b o hb q⟩
      tups := fun b xs q => by rw [upd_ne (at_ne ha q exo_tup), upd_ne (ne_of_none q hnd)]; exact q
      frzs := fun b o v q => by rw [upd_ne (at_ne ha q exo_frz), upd_ne (ne_of_none q hnd)]; exact q
      tbls := fun b ps q => ⟨#[], by rw [upd_ne (at_ne ha q exo_tbl), upd_ne (ne_of_none q hnd), q]; simp⟩ }
  · by_cases hb : b = a
    · subst hb
      rw [upd_same] at q
      cases q
      exact exo_ok hx
    · rw [upd_ne hb] at q
      by_cases hd : b = dx
      · subst hd
        rw [upd_same] at q
        cases q
        exact exd_ok hn (relO_put (fs := []) r2 fun g => True.intro)
      · rw [upd_ne hd] at q
        exact (e0.hok b o q).stay (fun c v hc z => kF c v (by
            rcases hc with hc | hc
            · rw [hc]
              exact hb
            · exact at_ne ha hc exo_own) z)
          (fun c hc => by rw [upd_ne (at_ne ha hc exo_own), upd_ne (ne_of_none hc hnd)]; exact hc) (fun c xs hc => by rw [upd_ne (at_ne ha hc exo_tup), upd_ne (ne_of_none hc hnd)]; exact hc)
end SL
set_option maxRecDepth 100000
set_option maxHeartbeats 4000000
/-! Layer S: caught exceptions, raise, isinstance, fields of exceptions. -/
namespace SL
open PySem PySem.Spec PyProof.Rows L2

section
variable {X : Cx} {T : Tab} {E : XK} {e ce o body : Expr} {es : List Expr} {me mb : EM} {am : AM} {p lpos pos : Pos} {x a f : Str}
theorem Ext.lam {μ : List Addr} {H H' : Hp} (e : LamX.ExtN H H') : Ext μ H μ H' := ⟨fun a o h t _ => e a o h t, fun a o h t => ⟨o, e a o h t, t⟩, [], by simp, by simp⟩
theorem MOk.lam {g : Gx} {μ : List Addr} {H H' : Hp} {a : Addr} {o : MO} (e : LamX.ExtN H H') (m : MOk g μ H a o) : MOk g μ H' a o := by
  have ex : Ext μ H μ H' := Ext.lam e
  cases m with
  | lst h1 h2 => exact .lst (e _ _ h1 (by intro _ z; cases z)) (h2.ext ex)
  | dic h1 h2 h3 h4 h5 => exact .dic (e _ _ h1 dO_nt) h2 h3 h4 (h5.ext ex)
  | ins h1 h2 h3 => exact .ins (e _ _ h1 (by intro _ z; cases z)) h2 (h3.ext ex)
theorem Sto.lam {g : Gx} {μ : List Addr} {H H' : Hp} {st : Store} (S : Sto g μ H st) (e : LamX.ExtN H H') (t : LamX.Tabs g.T.tb H') : Sto g μ H' st :=
  ⟨S.len, S.nod, fun i o h => let ⟨a, e1, m⟩ := S.at_ i o h; ⟨a, e1, m.lam e⟩, t⟩
/-- caught(lambda: body) -/
def mCaught (okC : Nat → Bool) (mb : EM) : EM := fun ρ st => match mb ρ st with
  | .ok _ st1 => .ok .non st1
  | .exn c fs st1 => if okC c = true then .ok (.exc c fs) st1 else .bad
  | .bad => .bad
theorem exc_now {g : Gx} {μ : List Addr} {H : Hp} {st : Store} {Q : VK} {c : Nat} {fs : List D} {cls : Value} {dd : Option Addr} {a : Addr} (S : Sto g μ H st) (A : After g μ H Q E (.ok (.exc c fs) st)) (hx : Exn g μ H c fs cls dd) (ha : H a = none) : Q (.ref a) (upd H a (xO cls dd a)) := by
  obtain ⟨rfl, h⟩ := hx
  have ex : Ext μ H μ (upd H a (xO (.ref (g.T.ca c)) dd a)) := Ext.new ha
  have na := notin_none S ha
  refine A _ μ _ ex (S.same (SameH.new ha)) ?_
  rcases h with ⟨rfl, rfl⟩ | ⟨b, fvs, rfl, h1, h2, h3, h4⟩
  · exact .exc0 upd_same na
  · exact .exc upd_same na (by rw [upd_ne (ne_of_none h1 ha)]; exact h1) h2 h3 (h4.ext ex)
theorem se_caught {okC : Nat → Bool} {g c P CS : Addr} {k : Nat} {pg : Arguments} {bg : List Stmt} {sg : Scope} {dV kV doc pm cdv ct oc : Value} {an od : Option Addr} {osl : Array (Option Value)} {Ng : List Str} {params : Arguments} {scope : Scope}
    (hex : ∀ c, okC c = true → PySem.W.exmOne X.K (.ref (T.ca c)) (.ref CS) = some true) (hg : Gl X x) (hm : X.mg x = some (.ref g)) (hk : PySem.W.keepIn X.K (.ref g) = true)
    (lk : X.K.lookup g = some ⟨oc, od, .func (PySem.W.fnOf x x pg bg sg dV kV doc pm an cdv ct), osl⟩) (hcg : PySem.W.codeIn X.K cdv x = true) (hb : L2.Binds X.K (PySem.W.fnOf x x pg bg sg dV kV doc pm an cdv ct) [a] []) (Sg : FnScope Ng [a] sg) (hNg : Ng[0]? = some a) (hva : Vis sg a)
    (hG : LamX.GivesTo X Ng x sg g cdv bg a (X.env.qual ++ "<lambda>") (TTc X.K CS))
    (TB : LamX.TabB X.base X.mg c P) (hcode : X.env.code = .ref c) (hmT : (P, X.env.qual ++ "<lambda>") ∈ T.tb) (hu : ∀ p ∈ T.tb, p.1 = P → p.2 = X.env.qual ++ "<lambda>") (hr : Room (k + 2) X.A) (L : LamX.LamS X.env.scope scope) (hdef : defaultsOf params X.env = ([], []))
    (hbind : ∀ (q : Str) (cl : List (Str × Addr)) (pm cv ctv : Value), bindArgs (PySem.W.kla_fn "<lambda>" q params body scope cl pm cv ctv) ⟨[], []⟩ = pure [])
    (hbody : ∀ (A : Around) (outer : List PySem.Env) (s : Shared) (H : Hp) (E : XK) (f c' : Addr), Room k (A.deeper (LamX.lamEnv X scope s.heap.objs.size f c')) → TkE (LamX.lamCx X A outer s H E scope f c') E → SE (LamX.lamCx X A outer s H E scope f c') T E body mb)
    (hdb : (x == ("__debug__" : Str)) = false := by decide) (hd : (a == ("__debug__" : Str)) = false := by decide) (hcd : (a == ("__classdict__" : Str)) = false := by decide) :
    SE X T E (.Call (.Name x p) [.Lambda params body scope lpos] [] pos) (mCaught okC mb) := by
  refine PE.imp (LamX.pe_lamcall (t := fun E => tE (gx X T) E mb) hg hm hk lk hcg hb Sg hNg hva hG TB hcode hmT hu hr L hdef hbind (fun A outer s H E f c' hr => hbody A outer s H E f c' hr (takes_of rfl rfl rfl rfl)) hdb hd hcd) fun σ H Q h => ?_
  obtain ⟨ρ, st, μ, r1, S, A⟩ := h
  refine ⟨S.tabs, fun H1 eN T1 => ?_⟩
  have ex : Ext μ H μ H1 := Ext.lam eN
  refine ⟨ρ, st, μ, r1.ext ex, S.lam eN T1, ?_⟩
  have A1 : After (gx X T) μ H1 Q E _ := AfterG.ext ex A
  unfold mCaught at A1
  cases q : mb ρ st with
  | ok d st1 =>
    rw [q] at A1
    exact fun v μ' H' e' S' r' => A1 .non μ' H' e' S' .non
  | exn c fs st1 =>
    rw [q] at A1
    by_cases hc : okC c = true
    · simp only [if_pos hc] at A1
      intro cls dd μ' H' e' S' hx
      refine ⟨true, ?_, fun _ a ha => exc_now S' (AfterG.ext e' A1) hx ha, fun z => nomatch z⟩
      rw [hx.1]
      exact hex c hc
    · simp only [if_neg hc] at A1
      exact A1.elim
  | bad => rw [q] at A1; exact A1.elim
/-! ### raise -/
def sRaise0 (c : Nat) : SM := fun _ st => .exn c [] st
theorem ss_raise0 {m : Str} {j : Nat} {p2 : Pos} {B newId initId : String} {bmB : List Value} (c : Nat) (hc : X.calm = true) (tk : TkE X E) (F : ExcBaseFacts B newId initId bmB) (q : PySem.W.excIn X.K (T.ca c) bmB newId = true) (gC : X.mg x = some (.ref (T.ca c))) (kC : PySem.W.keepIn X.K (.ref (T.ca c)) = true)
    (r : Raises X (.ref (T.ca c))) (hg : Gl X x := by rfl) (hdb : (x == ("__debug__" : Str)) = false := by decide) : SS X T E (.Raise (some (.Call (.Name x p) [.Constant (.str m) j p2] [] pos)) none lpos) (sRaise0 c) := by
  refine PS.imp (ps_raise hc tk (pmk_own F q gC kC r hg hdb)) fun D σ H h => ?_
  obtain ⟨ρ, st, μ, r1, S, A⟩ := h
  exact A _ none μ H .refl S ⟨rfl, .inl ⟨rfl, rfl⟩⟩
/-- raise C(e), C keeping one value -/
def sRaise1 (c : Nat) (am : AM) : SM := fun ρ st => (am ρ st).bind fun ds st1 => match ds with
  | [d] => .exn c [d] st1
  | _ => .bad
theorem ss_raise1 {fI D : Addr} {k : Nat} {fd : FuncData} {ps : List Str} {fld : Str} (c : Nat) (hc : X.calm = true) (tk : TkE X E) (ic : IniC X.K (T.ca c) D fld) (hfl : T.fl c = [fld]) (iC : PySem.W.findIn X.K (.ref (T.ca c)) "__init__" = some (some (.ref fI))) (tI : PySem.W.typeIn X.K (.ref fI) = some (.type "function"))
    (F1 : FnOk X.prog X.w X.K X.mg X.base (CX X.prog X.w) k fI fd ps (spIni X.K D fld)) (hr : Room (k + 1) X.A) (hb : Binds X.K fd ps []) (hm : X.mg x = some (.ref (T.ca c))) (ha : SA X T E (e :: es) am) (hg : Gl X x := by rfl)
    (hdb : (x == ("__debug__" : Str)) = false := by decide) (he : starEach (e :: es) X.env = (false, eval e X.env) :: starEach es X.env := by rfl) (hpl : (backTo pos (starEach es X.env)).any (·.1) = false := by rfl) :
    SS X T E (.Raise (some (.Call (.Name x p) (e :: es) [] pos)) none lpos) (sRaise1 c am) := by
  refine PS.imp (ps_raise hc tk (pmk_oex (dvs := []) ic.ox iC tI F1 hr hb .nil (passes_call tk fun _ _ _ _ z => z.elim) hg hm ha hdb he hpl)) fun Dn σ H h => ?_
  refine tG_mono (tG_bindS (Rl := fun μ H => DVs (gx X T) μ H) (k := fun ρ (ds : List SL.D) st1 => match ds with
    | [d] => .exn c [d] st1
    | _ => .bad) h) fun vs H1 q => ?_
  obtain ⟨ds, ρ, st1, μ1, r1, S1, q1, a1⟩ := q
  match ds, q1, a1 with
  | [d], q1, a1 =>
    obtain ⟨y, rfl, dy⟩ := q1.one
    refine ⟨by simp, fun a hna => ⟨a, y, T.ca c, rfl, ic, upd_same, fun dx hdx hne => ⟨rfl, dx, [(fld, y)], upd_same, by rw [upd_ne hne, upd_same], ?_, ?_⟩⟩⟩
    · rw [upd_ne hne] at hdx; exact hdx
    · have hdx1 : H1 dx = none := by rw [upd_ne hne] at hdx; exact hdx
      have eH : upd (L2.del (upd (upd (upd H1 a (exo a (T.ca c) none)) dx (exd dx [(fld, y)])) a (exo a (T.ca c) (some dx))) a) dx (.xd [(fld, y)]) = upd H1 dx (.xd [(fld, y)]) := by
        funext b
        by_cases h1 : b = dx
        · subst h1; rw [upd_same, upd_same]
        · rw [upd_ne h1, upd_ne h1]
          by_cases h2 : b = a
          · subst h2; rw [del_same, hna]
          · rw [del_ne h2, upd_ne h2, upd_ne h1, upd_ne h2]
      rw [eH]
      have ex : Ext μ1 H1 μ1 (upd H1 dx (.xd [(fld, y)])) := Ext.new hdx1
      exact a1 _ _ μ1 _ ex (S1.same (SameH.new hdx1)) ⟨rfl, .inr ⟨dx, [(fld, y)], rfl, upd_same, notin_none S1 hdx1, by show [fld] = T.fl c; rw [hfl], .cons (dy.ext ex) .nil⟩⟩
  | [], _, a1 => exact a1.elim
  | _ :: _ :: _, _, a1 => exact a1.elim
end
/-! ### isinstance -/
inductive Tg where
  | non | bl | int | str | tup | lst | dic | obj (c : Nat) | exc (c : Nat)
  deriving DecidableEq
def tagOf (st : Store) (d : D) : Option Tg := match d with
  | .non => some .non
  | .bl _ => some .bl
  | .int _ => some .int
  | .str _ => some .str
  | .tup _ => some .tup
  | .lst _ => some .lst
  | .dic _ _ => some .dic
  | .obj c _ => some (.obj c)
  | .exc c _ => some (.exc c)
  | .fn _ => none
  | .ref n => match st[n]? with
    | some (.lst _) => some .lst
    | some (.dic _ _) => some .dic
    | some (.ins c _) => some (.obj c)
    | none => none
def tagV (T : Tab) : Tg → Value
  | .non => .type "NoneType"
  | .bl => .type "bool"
  | .int => .type "int"
  | .str => .type "str"
  | .tup => .type "tuple"
  | .lst => .type "list"
  | .dic => .type "dict"
  | .obj c => .ref (T.ca c)
  | .exc c => .ref (T.ca c)
structure OwnC (K : PySem.W.Frag) (C : Addr) : Prop where
  cl : Cls K C
  ha : PySem.W.findIn K (.ref C) "__class__" = some (some (.builtin "object.__class__"))
  hn : PySem.W.specialIn K (.builtin "object.__class__") "__get__" = some (some (.builtin "getset_descriptor.__get__"))
  ht : PySem.W.takesIn K (.builtin "object.__class__") = some true
  hm : PySem.W.mroIn K C (.type "object") = some true
def TagOk (K : PySem.W.Frag) (T : Tab) : Tg → Prop
  | .obj c => OwnC K (T.ca c)
  | .exc c => L2.ExcC K (T.ca c)
  | _ => True
theorem kit_D {X : Cx} {T : Tab} {pins : List (Addr × Obj)} {σ : L2.St} {H : Hp} {s : Shared} {μ : List Addr} {st : Store} {x : V} {u : Value} {d : D} {t : Tg} (I : Inv X pins σ H s) (S : Sto (gx X T) μ H st) (h : DV (gx X T) μ H x d) (r : RelV x u) (e : tagOf st d = some t) (k : TagOk X.K T t) :
    ∃ P : Heap → Prop, PySem.W.KitX X.K u (tagV T t) P ∧ P s.heap ∧ u ≠ .builtin "__main__.__loader__#opaque" := by
  have own : ∀ {a c dx fvs}, H a = some (.ins (T.ca c) dx fvs) → OwnC X.K (T.ca c) → RelV (.ref a) u → ∃ P : Heap → Prop, PySem.W.KitX X.K u (.ref (T.ca c)) P ∧ P s.heap ∧ u ≠ .builtin "__main__.__loader__#opaque" := fun h1 o r =>
    kit_of I r (.base (.ins h1 o.cl o.ha o.hn o.ht o.hm))
  have dct : ∀ {a o es ep}, H a = some (dO a o) → o.ExactDict → o.data = .dict es ep → RelV (.ref a) u → ∃ P : Heap → Prop, PySem.W.KitX X.K u (.type "dict") P ∧ P s.heap ∧ u ≠ .builtin "__main__.__loader__#opaque" := fun h1 h2 h3 r => by
    cases r
    exact ⟨_, PySem.W.kitx_dict, ⟨_, dO_at I h1, h2.1⟩, fun z => nomatch z⟩
  cases h with
  | non => simp [tagOf] at e; subst e; exact kit_of I r (.base .non)
  | bl b => simp [tagOf] at e; subst e; exact kit_of I r (.base (.bl b))
  | int i => simp [tagOf] at e; subst e; exact kit_of I r (.base (.int i))
  | str z => simp [tagOf] at e; subst e; exact kit_of I r (.base (.str z))
  | tup h1 h2 =>
    simp [tagOf] at e; subst e
    rcases h1 with ⟨h1 | ⟨o, h1⟩, _⟩ | ⟨o, its, n, h1, h3, _⟩
    · exact kit_of I r (.base (.tup h1))
    · exact kit_of I r (.fTuple h1)
    · exact kit_of I r (.kTuple h1 h3)
  | lst h1 n h2 =>
    simp [tagOf] at e; subst e
    rcases h1 with h1 | ⟨o, h1⟩
    · exact kit_of I r (.base (.lst h1))
    · exact kit_of I r (.base (.frz h1))
  | dic h1 n h2 h3 h4 h5 => simp [tagOf] at e; subst e; exact dct h1 h2 h3 r
  | obj h1 n h2 h3 => simp [tagOf] at e; subst e; exact own h1 k r
  | exc0 h1 n =>
    simp [tagOf] at e; subst e
    rename_i a c
    cases r
    obtain ⟨⟨oe, vs, z1, z2, z3⟩, _, _⟩ := (show ObjOk X.prog X.w H s.heap a (.ext fun h => ∃ (oe : Obj) (vs : Array Value), h.get? a = some oe ∧ Zc (.ref (T.ca c)) none oe ∧ oe.data = .fields vs) from I.hok a _ h1)
    have kk : L2.ExcC X.K (T.ca c) := k
    have hcl : (PySem.W.clsIn X.K (T.ca c)).isSome = true := by obtain ⟨cd, hc, _⟩ := PySem.W.any_some kk.hd; rw [hc]; rfl
    exact ⟨_, PySem.W.kitx_exc (ox := oe) (od := none) hcl kk.hg kk.hk kk.hs kk.ha kk.hn kk.ht kk.hm, ⟨z1, z2.1, by unfold PySem.W.notCls; rw [z3] <;> rfl, by rw [z2.2]; trivial⟩, fun z => nomatch z⟩
  | exc h1 n h2 m h3 h4 =>
    simp [tagOf] at e; subst e
    rename_i a b c fvs fs
    cases r
    obtain ⟨⟨oe, vs, z1, z2, z3⟩, _, _⟩ := (show ObjOk X.prog X.w H s.heap a (.ext fun h => ∃ (oe : Obj) (vs : Array Value), h.get? a = some oe ∧ Zc (.ref (T.ca c)) (some b) oe ∧ oe.data = .fields vs) from I.hok a _ h1)
    obtain ⟨mA, hns, _⟩ := (show ObjOk X.prog X.w H s.heap b (.xd fvs) from I.hok b _ h2)
    obtain ⟨od, ho, _⟩ := lookIn_ns hns
    have kk : L2.ExcC X.K (T.ca c) := k
    have hcl : (PySem.W.clsIn X.K (T.ca c)).isSome = true := by obtain ⟨cd, hc, _⟩ := PySem.W.any_some kk.hd; rw [hc]; rfl
    exact ⟨_, PySem.W.kitx_exc (ox := oe) (od := some od) hcl kk.hg kk.hk kk.hs kk.ha kk.hn kk.ht kk.hm, ⟨z1, z2.1, by unfold PySem.W.notCls; rw [z3] <;> rfl, by rw [z2.2]; exact ho⟩, fun z => nomatch z⟩
  | fn y => simp [tagOf] at e
  | ref h1 =>
    rename_i n a
    unfold tagOf at e
    dsimp only at e
    cases q : st[n]? with
    | none => rw [q] at e; cases e
    | some o =>
      rw [q] at e
      have m := S.ref q h1
      cases o with
      | lst ys =>
        cases e
        cases m with
        | lst h2 h3 => exact kit_of I r (.base (.lst h2))
      | dic t2 kvs =>
        cases e
        cases m with
        | dic h2 h3 h4 h5 h6 => exact dct h2 h3 h4 r
      | ins c fs =>
        cases e
        cases m with
        | ins h2 h3 h4 => exact own h2 k r
def opIsa (ans : Tg → Option Bool) : D → Store → Res D := fun d st => match (tagOf st d).bind ans with
  | some b => .ok (.bl b) st
  | none => .bad
section
variable {X : Cx} {T : Tab} {E : XK} {e ce : Expr} {ces : List Expr} {me : EM} {p p2 pos : Pos} {f : Str}
def rIsaD (g : Gx) (E : XK) (ans : Tg → Option Bool) (cv : V) : List V → Hp → VK → Prop := fun xs H Q => ∃ x, xs = [x, cv] ∧ ∃ d st μ, Sto g μ H st ∧ DV g μ H x d ∧ After g μ H Q E (opIsa ans d st)
theorem opIsa_some {ans : Tg → Option Bool} {g : Gx} {μ : List Addr} {H : Hp} {Q : VK} {d : D} {st : Store} (a : After g μ H Q E (opIsa ans d st)) : ∃ t b, tagOf st d = some t ∧ ans t = some b ∧ After g μ H Q E (.ok (.bl b) st) := by
  unfold opIsa at a
  cases e : tagOf st d with
  | none => rw [e] at a; exact a.elim
  | some t =>
    rw [e] at a
    cases e2 : ans t with
    | none => rw [Option.bind_some, e2] at a; exact a.elim
    | some b => rw [Option.bind_some, e2] at a; exact ⟨t, b, rfl, e2, a⟩
theorem cr_isaD {ans : Tg → Option Bool} {cv : V} {cu : Value} (kv : ClsV cv cu) (hans : ∀ t b, ans t = some b → PySem.W.kitOne X.K (tagV T t) cu = some b ∧ TagOk X.K T t) : CallR X (.builtin "isinstance") (rIsaD (gx X T) E ans cv) := by
  intro pins s σ H xs us Q I r h
  obtain ⟨x, rfl, d, st, μ, S, dv, a⟩ := h
  obtain ⟨u1, u2, rfl, r1, r2⟩ := vals2 r
  have e2 := kv.eq r2
  subst e2
  obtain ⟨t, b, e1, e3, a'⟩ := opIsa_some a
  obtain ⟨k1, k2⟩ := hans t b e3
  obtain ⟨P, Z, p, hx⟩ := kit_D I S dv r1 e1 k2
  exact PySem.W.kia_one Z I.kIn p k1 hx fun tk => ⟨.bl b, H, I.tok tk, rfl, AfterG.now a' S (.bl b)⟩
theorem se_isa (ans : Tg → Option Bool) {cv : V} {cu : Value} (he : SE X T E e me) (hce : PE X ce (tC cv)) (kv : ClsV cv cu) (hans : ∀ t b, ans t = some b → PySem.W.kitOne X.K (tagV T t) cu = some b ∧ TagOk X.K T t) (hm : X.mg "isinstance" = none) (hg : Gl X "isinstance" := by rfl)
    (hs : starEach [e, ce] X.env = (false, eval e X.env) :: starEach [ce] X.env := by rfl) (hs2 : starEach [ce] X.env = (false, eval ce X.env) :: starEach [] X.env := by rfl) (hpl : (backTo pos (starEach [ce] X.env)).any (·.1) = false := by rfl) :
    SE X T E (.Call (.Name "isinstance" p) [e, ce] [] pos) (mUn (opIsa ans) me) := by
  refine PE.imp (pe_callB (cr_isaD (T := T) (E := E) kv hans) hg hm (by rfl) (pa_cons he (pa_cons hce pa_nil hs2) hs) (by decide) (by decide) hs hpl) fun σ H Q h => ?_
  refine (show tE (gx X T) E me σ H _ from ?_)
  refine tG_mono (tG_bind (Rl := fun μ H => DV (gx X T) μ H) (k := fun ρ d st1 => opIsa ans d st1) h) fun x H1 q => ?_
  obtain ⟨d, ρ, st1, μ1, r1, s1, q1, a1⟩ := q
  exact ⟨x, rfl, d, st1, μ1, s1, q1, a1⟩
/-- classes written -/
def tVs (cvs : List V) : TA := fun _ H Q => Q cvs H
theorem pa_vs_nil : PA X [] (tVs []) := pa_nil
theorem pa_vs_cons {c : Expr} {cs : List Expr} {v : V} {vs : List V} (h : PE X c (tC v)) (hr : PA X cs (tVs vs)) (hs : starEach (c :: cs) X.env = (false, eval c X.env) :: starEach cs X.env := by rfl) : PA X (c :: cs) (tVs (v :: vs)) := pa_cons h hr hs
def rIsaTD (g : Gx) (E : XK) (ans : Tg → Option Bool) (cvs : List V) : List V → Hp → VK → Prop := fun xs H Q => ∃ x tp, xs = [x, .ref tp] ∧ H tp = some (.tup cvs) ∧ ∃ d st μ, Sto g μ H st ∧ DV g μ H x d ∧ After g μ H Q E (opIsa ans d st)
theorem cr_isaTD {ans : Tg → Option Bool} {cvs : List V} {cus : List Value} (kv : Paired ClsV cvs cus) (hans : ∀ t b, ans t = some b → PySem.W.kitAny X.K (tagV T t) cus = some b ∧ TagOk X.K T t) : CallR X (.builtin "isinstance") (rIsaTD (gx X T) E ans cvs) := by
  intro pins s σ H xs us Q I r h
  obtain ⟨x, tp, rfl, hT, d, st, μ, S, dv, a⟩ := h
  obtain ⟨u1, u2, rfl, r1, r2⟩ := vals2 r
  cases (show u2 = Value.ref tp from r2)
  obtain ⟨t, b, e1, e3, a'⟩ := opIsa_some a
  obtain ⟨k1, k2⟩ := hans t b e3
  obtain ⟨P, Z, p, hx⟩ := kit_D I S dv r1 e1 k2
  obtain ⟨_, its, rv, o, h1, h2, n, h3⟩ := (show ObjOk X.prog X.w H s.heap tp (.tup cvs) from I.hok tp _ hT)
  have e4 := ClsV.all kv rv
  subst e4
  obtain ⟨oc, od, dt, sl⟩ := o
  simp only at h2 h3
  subst h2 h3
  exact PySem.W.kia_tup Z I.kIn p h1 k1 hx fun tk => ⟨.bl b, H, I.tok tk, rfl, AfterG.now a' S (.bl b)⟩
theorem se_isaT (ans : Tg → Option Bool) {cvs : List V} {cus : List Value} {j : Nat} (he : SE X T E e me) (hces : PA X ces (tVs cvs)) (kv : Paired ClsV cvs cus) (hans : ∀ t b, ans t = some b → PySem.W.kitAny X.K (tagV T t) cus = some b ∧ TagOk X.K T t) (hm : X.mg "isinstance" = none) (hlen : cvs.length ≤ 100) (hg : Gl X "isinstance" := by rfl)
    (hs : starEach [e, .Tuple ces j p2] X.env = (false, eval e X.env) :: starEach [.Tuple ces j p2] X.env := by rfl) (hs2 : starEach [.Tuple ces j p2] X.env = (false, eval (.Tuple ces j p2) X.env) :: starEach [] X.env := by rfl) (hpl : (backTo pos (starEach [.Tuple ces j p2] X.env)).any (·.1) = false := by rfl) :
    SE X T E (.Call (.Name "isinstance" p) [e, .Tuple ces j p2] [] pos) (mUn (opIsa ans) me) := by
  refine PE.imp (pe_callB (cr_isaTD (T := T) (E := E) kv hans) hg hm (by rfl) (pa_cons he (pa_cons (pe_tup hces) pa_nil hs2) hs) (by decide) (by decide) hs hpl) fun σ H Q h => ?_
  refine (show tE (gx X T) E me σ H _ from ?_)
  refine tG_mono (tG_bind (Rl := fun μ H => DV (gx X T) μ H) (k := fun ρ d st1 => opIsa ans d st1) h) fun x H1 q => ?_
  obtain ⟨d, ρ, st1, μ1, r1, s1, q1, a1⟩ := q
  refine ⟨by rw [sizeLine_eq]; omega, fun tp htp => ?_⟩
  have ex : Ext μ1 H1 μ1 (upd H1 tp (.tup cvs)) := Ext.new htp
  exact ⟨x, tp, rfl, upd_same, d, st1, μ1, s1.same (SameH.new htp), q1.ext ex, AfterG.ext ex a1⟩
/-! ### a field of an exception -/
def opXf (okX : Nat → Bool) : D → Store → Res D := fun d st => match d with
  | .exc c [y] => if okX c = true then .ok y st else .bad
  | _ => .bad
theorem se_xf (okX : Nat → Bool) (hok : ∀ c, okX c = true → XfC X.K (T.ca c) ∧ PySem.W.findIn X.K (.ref (T.ca c)) f = some none ∧ T.fl c = [f]) (he : SE X T E e me) (hb : attributeBase e f X.env (eval e X.env) = eval e X.env := by rfl) : SE X T E (.Attribute e f pos) (mUn (opXf okX) me) := by
  refine ⟨fun pins s σ H Q I h => ?_⟩
  have h1 := tG_bind (Rl := fun μ H => DV (gx X T) μ H) (k := fun ρ d st1 => opXf okX d st1) h
  refine attr_of hb (thn (he.run pins s σ H _ I h1) fun u s1 ⟨x, H1, I1, rx, d, ρ, st1, μ1, r1, S, dv, a⟩ => ?_)
  match d, dv, a with
  | .exc c [y], .exc (a := aa) (b := b) (fvs := fvs) h1 n h2 m h3 h4, a =>
    by_cases hc : okX c = true
    · simp only [opXf, if_pos hc] at a
      obtain ⟨k1, k2, k3⟩ := hok c hc
      obtain rfl : u = Value.ref aa := rx
      obtain ⟨⟨oe, vs, z1, z2, z3⟩, _, _⟩ := (show ObjOk X.prog X.w H1 s1.heap aa (.ext fun h => ∃ (oe : Obj) (vs : Array Value), h.get? aa = some oe ∧ Zc (.ref (T.ca c)) (some b) oe ∧ oe.data = .fields vs) from I1.hok aa _ h1)
      obtain ⟨mA, hns, hr⟩ := (show ObjOk X.prog X.w H1 s1.heap b (.xd fvs) from I1.hok b _ h2)
      obtain ⟨od, ho, hl⟩ := lookIn_ns hns
      have hfl : fvs.map (·.1) = [f] := h3.trans k3
      obtain ⟨w, hw, dw⟩ := h4.one
      match fvs, hfl, hw, hr with
      | [(f', w')], hfl, hw, hr =>
        simp at hfl hw
        subst hfl hw
        obtain ⟨u, hu, ru⟩ := RelO.some_of (v := w') (o := mA f') (by have := hr f'; simpa [List.lookup] using this)
        have J : PySem.W.InstAt s1.heap aa oe (T.ca c) (some od) := ⟨z1, z2.1, by unfold PySem.W.notCls; rw [z3] <;> rfl, by rw [z2.2]; exact ho⟩
        exact HandSPX.exc_get I1.kIn J k1.ga k1.gg k1.exC (PySem.W.findObj_own k1.hdC k2 rfl (by rw [hl, hu])) (handed_of ru) ⟨w', H1, I1.tok _, ru, AfterG.now a S dw⟩
    · simp only [opXf, if_neg hc] at a; exact a.elim
end
end SL
set_option maxRecDepth 100000
set_option maxHeartbeats 4000000
/-! Layer S: calls of a def held by a name; calls by keywords alone. -/
namespace SL
open PySem PySem.Spec PyProof.Rows L2

section
variable {X : Cx} {T : Tab} {E : XK} {e : Expr} {es : List Expr} {me : EM} {am : AM} {p pos : Pos} {x : Str} {i : Nat}
/-- a def that a name may hold -/
structure Holds (X : Cx) (T : Tab) (k : Nat) (j : Nat) (n : Nat) (F : List D → Store → Res D) : Prop where
  ex : ∃ (fd : FuncData) (ps : List Str), FnOk X.prog X.w X.K X.mg X.base (CX X.prog X.w) k (T.fa j) fd ps (spF (gx X T) n F) ∧ PySem.W.keepIn X.K (.ref (T.fa j)) = true ∧ Binds X.K fd ps []
/-- x(e, ..), x a local name that holds a def; Fs: the defs, by their numbers -/
def mCallV (i : Nat) (Fs : Nat → Option (List D → Store → Res D)) (ma : AM) : EM := fun ρ st => match ρ[i]? with
  | some (some (.fn j)) => match Fs j with
    | some F => (ma ρ st).bind F
    | none => .bad
  | _ => .bad
theorem se_callV (i : Nat) {k n : Nat} (Fs : Nat → Option (List D → Store → Res D)) (hF : ∀ j F, Fs j = some F → ∃ F', F = arity n F' ∧ Holds X T k j n F') (hr : Room k X.A) (tk : TkE X E) (ha : SA X T E (e :: es) am) (hN : X.N[i]? = some x := by rfl) (hv : Vis X.env.scope x := by first | exact Or.inl rfl | exact Or.inr (Or.inl rfl) | exact Or.inr (Or.inr rfl))
    (hdb : (x == ("__debug__" : Str)) = false := by decide) (hcd : (x == ("__classdict__" : Str)) = false := by decide)
    (he : starEach (e :: es) X.env = (false, eval e X.env) :: starEach es X.env := by rfl) (hpl : (backTo pos (starEach es X.env)).any (·.1) = false := by rfl) : SE X T E (.Call (.Name x p) (e :: es) [] pos) (mCallV i Fs am) := by
  refine ⟨fun pins s σ H Q I h => ?_⟩
  obtain ⟨ρ, st, μ, r, S, a⟩ := h
  unfold mCallV at a
  cases hi : ρ[i]? with
  | none => simp only [hi] at a; exact a.elim
  | some o =>
    cases o with
    | none => simp only [hi] at a; exact a.elim
    | some d =>
      cases d with
      | fn j =>
        simp only [hi] at a
        cases hj : Fs j with
        | none => simp only [hj] at a; exact a.elim
        | some F =>
          simp only [hj] at a
          obtain ⟨F', rfl, hH⟩ := hF j F hj
          obtain ⟨fd, ps, Fn, hk, hb⟩ := hH.ex
          obtain ⟨v, hv1, hv2⟩ := r.2 i _ hi
          cases hv2
          refine wpAny_Call_Name_kw (thn ((pe_var (pos := p) hN hv hdb hcd).run pins s σ H (fun v H1 => v = .ref (T.fa j) ∧ H1 = H) I ⟨.ref (T.fa j), hv1, rfl, rfl⟩) fun u s1 ⟨v, H1, I1, r1, q1⟩ => ?_)
          obtain ⟨rfl, rfl⟩ := q1
          cases r1
          refine PySem.W.callWith_K (h₀ := X.base) I.ok.mod.kin hk (thn (ha.run pos pins s1 σ _ _ I1 ⟨ρ, st, μ, r, S, AfterG.bind (Rl := fun μ H => DVs (gx X T) μ H) a⟩) fun us s2 ⟨vs, H2, I2, r2, ds, st2, μ2, e2, S2, q2, a2⟩ => ⟨I2.kIn, ?_⟩) he hpl
          refine run_fn (dvs := []) Fn hr hb .nil (tk_pass tk) I2 r2 ?_
          rw [List.append_nil]
          have hl : ds.length = n := by
            by_cases c : ds.length = n
            · exact c
            · rw [arity_bad c] at a2; exact a2.elim
          exact spF_arity ⟨ds, st2, μ2, S2, q2, hl, a2⟩
      | _ => simp only [hi] at a; exact a.elim
end
/-! ### keywords -/
def permL {α : Type} (ix : List Nat) (ws : List α) : List α := ix.filterMap fun i => ws[i]?
theorem DVs.perm {g : Gx} {μ : List Addr} {H : Hp} {ds : List D} {vs : List V} (h : DVs g μ H vs ds) : ∀ ix : List Nat, DVs g μ H (permL ix vs) (permL ix ds)
  | [] => .nil
  | i :: ix => by
    have ih := DVs.perm h ix
    unfold permL at ih ⊢
    cases e : ds[i]? with
    | none =>
      have e2 : vs[i]? = none := List.getElem?_eq_none (by rw [h.length]; exact List.getElem?_eq_none_iff.mp e)
      rw [List.filterMap_cons, List.filterMap_cons, e, e2]
      exact ih
    | some d =>
      obtain ⟨v, e2, dv⟩ := h.get e
      rw [List.filterMap_cons, List.filterMap_cons, e, e2]
      exact .cons dv ih
theorem Vals.perm {us : List Value} {vs : List V} (h : Vals vs us) : ∀ ix : List Nat, Vals (permL ix vs) (permL ix us)
  | [] => .nil
  | i :: ix => by
    have ih := Vals.perm h ix
    unfold permL at ih ⊢
    cases e : vs[i]? with
    | none =>
      have e2 : us[i]? = none := List.getElem?_eq_none (by rw [← h.length]; exact List.getElem?_eq_none_iff.mp e)
      rw [List.filterMap_cons, List.filterMap_cons, e, e2]
      exact ih
    | some d =>
      obtain ⟨v, e2, dv⟩ := h.get e
      rw [List.filterMap_cons, List.filterMap_cons, e, e2]
      exact .cons dv ih
section
variable {X : Cx} {T : Tab} {E : XK} {e : Expr} {kws : List Keyword} {me : EM} {am : AM} {p pos kpos : Pos} {x : Str} {nm : Option Str}
def SKy (X : Cx) (T : Tab) (E : XK) (kws : List Keyword) (m : AM) : Prop := PK X kws (tA (gx X T) E m)
theorem PK.imp {t u : TA} (h : PK X kws t) (k : ∀ σ H Q, u σ H Q → t σ H Q) : PK X kws u := ⟨fun pos pins s σ H Q I q => h.run pos pins s σ H Q I (k σ H Q q)⟩
theorem sk_nil : SKy X T E [] aNil := by
  refine PK.imp pk_nil fun σ H Q h => ?_
  obtain ⟨ρ, st, μ, h1, h2, h3⟩ := h
  exact h3.now h2 .nil
theorem sk_cons (ha : SE X T E e me) (hr : SKy X T E kws am) : SKy X T E (⟨nm, e, kpos⟩ :: kws) (aCons me am) := PK.imp (pk_cons ha hr) fun _ _ _ h => tA_cons h
def mCallK (F : List D → Store → Res D) (ix : List Nat) (m : Nat) (ma : AM) : EM := fun ρ st => (ma ρ st).bind fun ds st1 => if ds.length = m then F (permL ix ds) st1 else .bad
theorem se_callK0 {k n : Nat} {f : Addr} {fd : FuncData} {ps ks : List Str} {F : List D → Store → Res D} (ix : List Nat) (Fn : FnOk X.prog X.w X.K X.mg X.base (CX X.prog X.w) k f fd ps (spF (gx X T) n F)) (hr : Room k X.A) (tk : TkE X E) (hm : X.mg x = some (.ref f)) (hk : PySem.W.keepIn X.K (.ref f) = true)
    (hb : ∀ (s : Shared) (ws : List Value), X.K.In s.heap → (permL ix ws).length = ps.length → ws.length = ks.length → BindsTo s fd ⟨[], ks.zip ws⟩ (ps.zip (permL ix ws))) (hkw : SKy X T E kws am) (hkl : kws.length = ks.length) (hg : Gl X x := by rfl)
    (hall : (backToKw pos (keywordEach kws X.env)).all (·.1.isSome) = true := by rfl) (hks : (backToKw pos (keywordEach kws X.env)).filterMap (·.1) = ks := by rfl) (hdb : (x == ("__debug__" : Str)) = false := by decide)
    (hpl : ((backTo pos (starEach [] X.env)).any (·.1) || (backToKw pos (keywordEach kws X.env)).any (·.1.isNone)) = false := by rfl) :
    SE X T E (.Call (.Name x p) [] kws pos) (mCallK (arity n F) ix ks.length am) := by
  refine ⟨fun pins s σ H Q I h => ?_⟩
  obtain ⟨ρ, st, μ, r, S, a⟩ := h
  refine wpAny_Call_Name_kw (ld_glob I hg hm ?_ hdb)
  refine PySem.W.callWith_KW0 (h₀ := X.base) I.ok.mod.kin hk hall ?_ hpl
  have a' : After (gx X T) μ H Q E ((am ρ st).bind fun ds st1 => if ds.length = ks.length then arity n F (permL ix ds) st1 else .bad) := a
  refine thn (hkw.run pos pins s σ H _ I ⟨ρ, st, μ, r, S, AfterG.bind (Rl := fun μ H => DVs (gx X T) μ H) a'⟩) fun ws s2 ⟨zs, H2, I2, rz, ds, st2, μ2, e2, S2, q2, a2⟩ => ⟨I2.kIn, ?_⟩
  rw [hks]
  by_cases c : ds.length = ks.length
  · rw [if_pos c] at a2
    have hl : (permL ix ds).length = n := by
      by_cases c : (permL ix ds).length = n
      · exact c
      · rw [arity_bad c] at a2; exact a2.elim
    have hsp : spF (gx X T) n F (permL ix zs) H2 Q E := spF_arity ⟨permL ix ds, st2, μ2, S2, q2.perm ix, hl, a2⟩
    have r2 := Vals.perm rz ix
    have hlp : (permL ix ws).length = ps.length := by rw [← r2.length]; exact Fn.len _ _ _ _ hsp
    have hlw : ws.length = ks.length := by rw [← rz.length, q2.length]; exact c
    show wpAny _ _ (call (.ref f) [] (ks.zip ws)) _ _ _
    refine wpAny_call (codeAny_mono (Fn.run X.A X.stack s2 H2 ⟨[], ks.zip ws⟩ (permL ix ws) (permL ix zs) Q E hr I2.env0 (hb s2 ws I2.kIn hlp hlw) r2 hsp) fun rr s' hq => ?_)
    cases rr with
    | error e => exact tk_pass tk pins σ H2 s2 e s' I2 hq
    | ok fl =>
      cases fl with
      | ret u => exact I2.after hq
      | next => exact False.elim hq
      | brk => exact False.elim hq
      | cont => exact False.elim hq
  · rw [if_neg c] at a2; exact a2.elim
end
end SL
set_option maxRecDepth 100000
set_option maxHeartbeats 2000000
/-! Layer S: a, b = x, y; blocks by a Bool. -/
namespace SL
open PySem PySem.Spec PyProof.Rows L2
section
variable {X : Cx} {T : Tab} {E : XK} {am : AM} {pos : Pos}
def sPar (i j : Nat) (am : AM) : SM := fun ρ st => (am ρ st).bind fun ds st1 => match ds with
  | [d1, d2] => .ok (.nx, (ρ.set i (some d1)).set j (some d2)) st1
  | _ => .bad
theorem ss_par (i j : Nat) {x y : Str} {a b : Expr} {px py pt : Pos} {kt k2 pt2} (hc : X.calm = true) (hN : X.N.Nodup) (ha : SA X T E [a, b] am) (hi : X.N[i]? = some x := by rfl) (hj : X.N[j]? = some y := by rfl) (hij : i ≠ j := by decide)
    (hx : X.env.scope.names.lookup x = some .local := by rfl) (hy : X.env.scope.names.lookup y = some .local := by rfl)
    (hw : swappedStores [.Tuple [.Name x px, .Name y py] kt pt] (.Tuple [a, b] k2 pt2) X.env = pure (some [x, y]) := by rfl)
    (hs : swapsWithSole [.Tuple [.Name x px, .Name y py] kt pt] (.Tuple [a, b] k2 pt2) pos.line X.env = pure false := by rfl) :
    SS X T E (.Assign [.Tuple [.Name x px, .Name y py] kt pt] (.Tuple [a, b] k2 pt2) pos) (sPar i j am) := by
  refine PS.imp (ps_par hc hN hi hj hij hx hy ha hw hs) fun Dn σ H h => ?_
  refine tG_mono (tG_bindS (Rl := fun μ H => DVs (gx X T) μ H) (k := fun ρ (ds : List SL.D) st1 => match ds with
    | [d1, d2] => .ok (.nx, (ρ.set i (some d1)).set j (some d2)) st1
    | _ => .bad) h) fun vs H1 q => ?_
  obtain ⟨ds, ρ, st1, μ1, r1, S1, q1, a1⟩ := q
  match ds, q1, a1 with
  | [d1, d2], q1, a1 =>
    obtain ⟨v, w, rfl, h1, h2⟩ := q1.two
    exact ⟨v, w, rfl, a1 _ μ1 H1 .refl S1 ((r1.set h1 i).set h2 j)⟩
  | [], _, a1 => exact a1.elim
  | [_], _, a1 => exact a1.elim
  | _ :: _ :: _ :: _, _, a1 => exact a1.elim
end
/-! ### blocks -/
def blkB (N : List Str) (sc scope : Scope) (own : List (Str × Nat)) : Bool :=
  decide (scope.kind = .function) && (scope.names.all (fun y => decide (scope.names.lookup y.1 = some y.2)) && (own.all (fun p => decide (N[p.2]? = some p.1)) && (scope.names.all (fun y => !decide (y.2 = .free) || (decide (sc.names.lookup y.1 = some .cell) || decide (sc.names.lookup y.1 = some .free))) &&
    scope.names.all (fun y => (!decide (y.2 = .local) && !decide (y.2 = .cell)) || (decide (y.1 ∈ own.map (·.1)) || !decide (y.1 ∈ N))))))
theorem blk_by {N : List Str} {sc scope : Scope} {own : List (Str × Nat)} (h : blkB N sc scope own = true) : BlkOk N sc scope own := by
  unfold blkB at h
  simp only [Bool.and_eq_true, List.all_eq_true, Bool.or_eq_true, Bool.not_eq_true', decide_eq_true_eq, decide_eq_false_iff_not] at h
  obtain ⟨h1, h2, h3, h4, h5⟩ := h
  refine ⟨h1, h2, h3, fun y hy e => ?_, fun y hy e => ?_⟩
  · rcases h4 y hy with z | z
    · exact (z e).elim
    · exact z
  · rcases h5 y hy with z | z
    · rcases e with e | e
      · exact (z.1 e).elim
      · exact (z.2 e).elim
    · exact z
end SL
set_option maxRecDepth 100000
set_option maxHeartbeats 2000000
/-! Layer S: sorted(set(..)), list(range(..)); what the generator asks for. -/
namespace SL
open PySem PySem.Spec PyProof.Rows L2
def FU : Nat := 1000000
def ansL (l : List (Tg × Bool)) : Tg → Option Bool := fun t => (l.find? fun p => decide (p.1 = t)).map (·.2)
abbrev iT (k : List Int) : D := .tup (k.map D.int)
def tupsI : List D → Option (List (List Int))
  | [] => some []
  | d :: r => match d with
    | .tup ds => match intsOf ds, tupsI r with
      | some k, some ks => some (k :: ks)
      | _, _ => none
    | _ => none
/-- sorted(set(xs)), xs a list of tuples of ints -/
def bSortSet : CF := fun ds st => match ds with
  | [d] => match (lstOf st d).bind tupsI with
    | some ks => if okSort st (ks.eraseDups.map iT) = true ∧ ks.eraseDups.length ≤ 64 then .ok (.lst (sortD st (ks.eraseDups.map iT))) st else .bad
    | none => .bad
  | _ => .bad
def rngL (n : Nat) : List D := (List.range n).map fun (k : Nat) => D.int (k : Int)
def bListRngF : CF := fun ds st => match ds with
  | [.int j] => if okR j = true ∧ j ≤ 1000 then .ok (.lst (rngL j.toNat)) st else .bad
  | _ => .bad
def bListRng : CF := fun ds st => match ds with
  | [.int j] => if okR j = true ∧ j ≤ 1000 then .ok (.ref st.length) (st ++ [.lst (rngL j.toNat)]) else .bad
  | _ => .bad
end SL
set_option maxRecDepth 100000
set_option maxHeartbeats 2000000
/-! Layer S: what the head tells. -/
namespace SL
open PySem PySem.Spec PyProof.Rows L2 PySem.W

/-! ### an __init__ that asks super() -/
structure IniF where
  cls : Str
  qual : Str
  params : Arguments
  body : List Stmt
  scope : Scope
abbrev InW := Option (Str × Str × Arguments × FuncBody × Scope × Addr × List Str × Addr)
def iniA (K : Frag) (C : Str) : Addr := He.ma K (He.ga K C) "__init__"
def iniObs (K : Frag) (C : Str) : InW := match K.lookup (iniA K C) with
  | some ⟨_, _, .func fd, _⟩ => some (fd.name, fd.qualname, fd.params, fd.body, fd.scope, fd.globals, fd.closure.map (·.1), fd.builtins)
  | _ => none
def IniF.val (d : IniF) : InW := some ("__init__", d.qual, d.params, .stmts d.body, d.scope, mainGlobals, ["__class__"], builtinsNs)
def fileB (P : Program) (K : Frag) (cd : Value) : Bool := match cd with
  | .ref cda => (match K.lookup cda with
    | some ⟨_, _, .fields vs, _⟩ => (match (vs[2]? : Option Value) with
      | some (.str file _) => (P.main.file : Str) == file
      | _ => false)
    | _ => false)
  | _ => false
def cellB (K : Frag) (D : Addr) (cl : List (Str × Addr)) : Bool := match cl with
  | [(_, cc)] => (match K.lookup cc with
    | some ⟨_, _, .cell (some (.ref E)), _⟩ => decide (E = D)
    | _ => false)
  | _ => false
def iniB (P : Program) (K : Frag) (C qual : Str) : Bool := (match K.lookup (iniA K C) with
  | some ⟨_, _, .func fd, _⟩ => codeIn K fd.code qual && (fileB P K fd.code && (cellB K (He.ga K C) fd.closure && He.dflB K fd.defaults []))
  | _ => false) && ((clsIn K (He.ga K C)).isSome && (decide (nsIn K cStatics "thirdparty.any" = some none) && !(P.main.scope.names.lookup ("super" : Str)).isSome))
theorem iniD_of {P : Program} {K : Frag} {d : IniF} (e : iniObs K d.cls = d.val) (c : iniB P K d.cls d.qual = true) : ∃ fd, IniD P K d.qual d.params d.body d.scope (iniA K d.cls) (He.ga K d.cls) fd ∧
    ∃ (kV doc pm : Value) (an : Option Addr) (cdv ct : Value) (cc : Addr), fd = ksFn "__init__" d.qual d.params d.body d.scope .none kV doc pm an cdv ct cc := by
  obtain ⟨c1, c⟩ := He.ba c
  obtain ⟨c2, c⟩ := He.ba c
  obtain ⟨c3, c4⟩ := He.ba c
  unfold iniObs at e
  cases q : K.lookup (iniA K d.cls) with
  | none => rw [q] at c1; cases c1
  | some o =>
    obtain ⟨oc, od, dt, osl⟩ := o
    rw [q] at c1 e
    cases dt with
    | func fd =>
      obtain ⟨n1, n2, n3, n4, n5, n6, n7, n8, n9, n10, n11, n12, n13, n14, n15⟩ := fd
      have e2 : (some (n1, n2, n3, n4, n5, n6, n7.map (·.1), n15) : InW) = some (("__init__" : Str), d.qual, d.params, FuncBody.stmts d.body, d.scope, mainGlobals, [("__class__" : Str)], builtinsNs) := e
      simp only [Option.some.injEq, Prod.mk.injEq] at e2
      obtain ⟨h1, h2, h3, h4, h5, h6, h7, h8⟩ := e2
      subst h1 h2 h3 h4 h5 h6 h8
      obtain ⟨k1, k⟩ := He.ba (show (codeIn K n13 d.qual && (fileB P K n13 && (cellB K (He.ga K d.cls) n7 && He.dflB K n8 []))) = true from c1)
      obtain ⟨k2, k4⟩ := He.ba k
      obtain ⟨k3, k5⟩ := He.ba k4
      have e8 : n8 = .none := by
        rcases He.dflB_ok k5 with ⟨_, z⟩ | ⟨z, _⟩
        · exact z
        · exact (z rfl).elim
      subst e8
      obtain ⟨cda, rfl⟩ := He.codeIn_ref k1
      unfold fileB at k2
      dsimp only at k2
      cases q2 : K.lookup cda with
      | none => rw [q2] at k2; cases k2
      | some o2 =>
        obtain ⟨oc2, od2, dt2, osl2⟩ := o2
        rw [q2] at k2
        cases dt2 with
        | fields vs =>
          dsimp only at k2
          cases q3 : vs[2]? with
          | none => rw [q3] at k2; cases k2
          | some v =>
            rw [q3] at k2
            cases v with
            | str file tf =>
              match n7, h7, k3 with
              | [(nm, cc)], h7, k3 =>
                have hn : nm = "__class__" := by injection h7
                subst hn
                unfold cellB at k3
                dsimp only at k3
                cases q4 : K.lookup cc with
                | none => rw [q4] at k3; cases k3
                | some o4 =>
                  obtain ⟨oc4, od4, dt4, osl4⟩ := o4
                  rw [q4] at k3
                  cases dt4 with
                  | cell v4 =>
                    cases v4 with
                    | none => cases k3
                    | some v5 =>
                      cases v5 with
                      | ref E =>
                        have hE : E = He.ga K d.cls := of_decide_eq_true k3
                        subst hE
                        obtain ⟨cdD, hD⟩ := Option.isSome_iff_exists.mp c2
                        exact ⟨_, ⟨⟨_, _, _, _, _, _, _, cda, _, cc, _, _, _, vs, _, file, tf, _, _, _, cdD, rfl, q, k1, q2, q3, k2, q4, hD⟩, of_decide_eq_true c3, by
                          cases z : (P.main.scope.names.lookup ("super" : Str)).isSome with
                          | false => rfl
                          | true => rw [z] at c4; cases c4⟩, _, _, _, _, _, _, cc, rfl⟩
                      | _ => cases k3
                  | _ => cases k3
            | _ => cases k2
        | _ => cases k2
    | _ => cases c1
/-- the class at C keeps one field, made by D's __init__ -/
def oexB (K : Frag) (C : Addr) : Bool := match K.lookup C with
  | some ⟨.type c, _, .cls cd, sl⟩ => decide (c = "type") && ((match cd.mro with
    | .ref E :: bm => decide (E = C) && PySem.HandSPX.refsVE bm
    | _ => false) && (cd.hasDict && (!cd.hasDel && (match sl.toList with
    | [_, _, _, _, some (.builtin n), _] => decide (n = "ValueError.__new__")
    | _ => false))))
  | _ => false
theorem oex_cls {K : Frag} {C : Addr} (h : oexB K C = true) : ∃ nm q N bs bm sn sub ab col dd k0 k1 k2 k3 k5, K.lookup C = some (excClassObj nm q C N bs bm true sn sub ab col dd k0 k1 k2 k3 k5 "ValueError.__new__") ∧ PySem.HandSPX.refsVE bm = true := by
  unfold oexB at h
  split at h
  · rename_i c dd cd sl ho
    obtain ⟨h1, h⟩ := He.ba h
    obtain ⟨h2, h⟩ := He.ba h
    obtain ⟨h3, h⟩ := He.ba h
    obtain ⟨h4, h5⟩ := He.ba h
    have e1 : c = "type" := of_decide_eq_true h1
    subst e1
    obtain ⟨nm, bs, mro, N, q, hd, sn, sub, ab, col, hdel⟩ := cd
    have e3 : hd = true := h3
    have e4 : hdel = false := by
      cases hdel with
      | false => rfl
      | true => cases h4
    subst e3 e4
    match mro, h2, ho with
    | .ref E :: bm, h2, ho =>
      obtain ⟨z1, z2⟩ := He.ba h2
      have eE : E = C := of_decide_eq_true z1
      subst eE
      obtain ⟨l⟩ := sl
      match l, h5, ho with
      | [k0, k1, k2, k3, some (.builtin n), k5], h5, ho =>
        have en : n = "ValueError.__new__" := of_decide_eq_true h5
        subst en
        exact ⟨nm, q, N, bs, bm, sn, sub, ab, col, dd, k0, k1, k2, k3, k5, ho, z2⟩
  · cases h
def iniCB (K : Frag) (C D : Addr) (fld : Str) : Bool := oexB K C && (decide (findIn K (.ref C) "__setattr__" = some (some (.builtin "object.__setattr__"))) && (decide (subIn K (.ref C) (.type "BaseException") = some true) && (decide (typeIn K (.ref C) = some (.type "type")) && (keepIn K (.ref C) &&
  (decide (mroIn K C (.ref D) = some true) && (decide (mroIn K C (.type "ValueError") = some true) && (decide (ks_superIn K C D "__init__" = some (some (.builtin "ValueError.__init__"))) && decide (findIn K (.ref C) fld = some none))))))))
theorem iniCB_ok {K : Frag} {C D : Addr} {fld : Str} (h : iniCB K C D fld = true) : IniC K C D fld := by
  obtain ⟨h1, h⟩ := He.ba h
  obtain ⟨h2, h⟩ := He.ba h
  obtain ⟨h3, h⟩ := He.ba h
  obtain ⟨h4, h⟩ := He.ba h
  obtain ⟨h5, h⟩ := He.ba h
  obtain ⟨h6, h⟩ := He.ba h
  obtain ⟨h7, h⟩ := He.ba h
  obtain ⟨h8, h9⟩ := He.ba h
  exact ⟨⟨oex_cls h1, of_decide_eq_true h2, of_decide_eq_true h3, of_decide_eq_true h4, h5⟩, of_decide_eq_true h6, of_decide_eq_true h7, of_decide_eq_true h8, of_decide_eq_true h9⟩
/-- raise C(v): C, its fields' def D -/
def raise1B (K : Frag) (C D : Str) (fld : Str) : Bool := iniCB K (He.ga K C) (He.ga K D) fld && (decide (findIn K (.ref (He.ga K C)) "__init__" = some (some (.ref (iniA K D)))) && decide (typeIn K (.ref (iniA K D)) = some (.type "function")))
/-! ### isinstance -/
def ownB (K : Frag) (C : Addr) : Bool := plainGet K C Str.empty && (hasDictIn K C && (plainOver K C && (decide (findIn K (.ref C) "__setattr__" = some (some (.builtin "object.__setattr__"))) && (decide (findIn K (.ref C) "__class__" = some (some (.builtin "object.__class__"))) &&
  (decide (specialIn K (.builtin "object.__class__") "__get__" = some (some (.builtin "getset_descriptor.__get__"))) && (decide (takesIn K (.builtin "object.__class__") = some true) && decide (mroIn K C (.type "object") = some true)))))))
theorem ownB_ok {K : Frag} {C : Addr} (h : ownB K C = true) : OwnC K C := by
  obtain ⟨h1, h⟩ := He.ba h
  obtain ⟨h2, h⟩ := He.ba h
  obtain ⟨h3, h⟩ := He.ba h
  obtain ⟨h4, h⟩ := He.ba h
  obtain ⟨h5, h⟩ := He.ba h
  obtain ⟨h6, h⟩ := He.ba h
  obtain ⟨h7, h8⟩ := He.ba h
  exact ⟨⟨h1, h2, h3, of_decide_eq_true h4⟩, of_decide_eq_true h5, of_decide_eq_true h6, of_decide_eq_true h7, of_decide_eq_true h8⟩
def exccB (K : Frag) (C : Addr) : Bool := decide (findIn K (.ref C) "__getattribute__" = some (some (.builtin "BaseException.__getattribute__"))) && (decide (findIn K (.ref C) "__getattr__" = some none) && (decide (subIn K (.ref C) (.type "BaseException") = some true) && (hasDictIn K C && (decide (findIn K (.ref C) "__class__" = some (some (.builtin "object.__class__"))) &&
  (decide (specialIn K (.builtin "object.__class__") "__get__" = some (some (.builtin "getset_descriptor.__get__"))) && (decide (takesIn K (.builtin "object.__class__") = some true) && decide (mroIn K C (.type "object") = some true)))))))
theorem exccB_ok {K : Frag} {C : Addr} (h : exccB K C = true) : L2.ExcC K C := by
  obtain ⟨h1, h⟩ := He.ba h
  obtain ⟨h2, h⟩ := He.ba h
  obtain ⟨h3, h⟩ := He.ba h
  obtain ⟨h4, h⟩ := He.ba h
  obtain ⟨h5, h⟩ := He.ba h
  obtain ⟨h6, h⟩ := He.ba h
  obtain ⟨h7, h8⟩ := He.ba h
  exact ⟨of_decide_eq_true h1, of_decide_eq_true h2, of_decide_eq_true h3, h4, of_decide_eq_true h5, of_decide_eq_true h6, of_decide_eq_true h7, of_decide_eq_true h8⟩
def tagB (K : Frag) (T : Tab) : Tg → Bool
  | .obj c => ownB K (T.ca c)
  | .exc c => exccB K (T.ca c)
  | _ => true
theorem tagB_ok {K : Frag} {T : Tab} {t : Tg} (h : tagB K T t = true) : TagOk K T t := by
  cases t with
  | obj c => exact ownB_ok h
  | exc c => exact exccB_ok h
  | _ => trivial
def isaB (K : Frag) (T : Tab) (l : List (Tg × Bool)) (cus : List Value) : Bool := l.all fun p => decide (kitAny K (tagV T p.1) cus = some p.2) && tagB K T p.1
theorem ansL_mem {l : List (Tg × Bool)} {t : Tg} {b : Bool} (h : ansL l t = some b) : (t, b) ∈ l := by
  unfold ansL at h
  cases q : l.find? fun p => decide (p.1 = t) with
  | none => rw [q] at h; cases h
  | some p =>
    rw [q] at h
    have h1 := List.find?_some q
    have h2 := List.mem_of_find?_eq_some q
    have e1 : p.1 = t := of_decide_eq_true h1
    have e2 : p.2 = b := Option.some.inj h
    rw [← e1, ← e2]
    exact h2
theorem isaB_ok {K : Frag} {T : Tab} {l : List (Tg × Bool)} {cus : List Value} (h : isaB K T l cus = true) (t : Tg) (b : Bool) (e : ansL l t = some b) : kitAny K (tagV T t) cus = some b ∧ TagOk K T t := by
  obtain ⟨h1, h2⟩ := He.ba (List.all_eq_true.mp h _ (ansL_mem e))
  exact ⟨of_decide_eq_true h1, tagB_ok h2⟩
theorem kitAny_one {K : Frag} {t c : Value} {b : Bool} (h : kitAny K t [c] = some b) : kitOne K t c = some b := by
  unfold kitAny at h
  cases q : kitOne K t c with
  | none => rw [q] at h; cases h
  | some x =>
    rw [q] at h
    cases x with
    | true => exact h
    | false => exact h
theorem isaB_one {K : Frag} {T : Tab} {l : List (Tg × Bool)} {cu : Value} (h : isaB K T l [cu] = true) (t : Tg) (b : Bool) (e : ansL l t = some b) : kitOne K (tagV T t) cu = some b ∧ TagOk K T t :=
  ⟨kitAny_one (isaB_ok h t b e).1, (isaB_ok h t b e).2⟩
/-! ### properties, fields of exceptions -/
def prA (K : Frag) (C f : Str) : Addr := He.ma K (He.ga K C) f
def prG (K : Frag) (C f : Str) : Addr := match recIn K (prA K C f) "property" with
  | some (.ref g :: _) => g
  | _ => 0
def propB (K : Frag) (C f : Str) : Bool := decide (findIn K (.ref (He.ga K C)) f = some (some (.ref (prA K C f)))) && (decide (specialIn K (.ref (prA K C f)) "__get__" = some (some (.builtin "property.__get__"))) && (decide (takesIn K (.ref (prA K C f)) = some true) && (match recIn K (prA K C f) "property" with
  | some (.ref _ :: _) => true
  | _ => false)))
theorem propB_ok {K : Frag} {C f : Str} (h : propB K C f = true) : PropOf K (He.ga K C) f (prA K C f) (prG K C f) := by
  obtain ⟨h1, h⟩ := He.ba h
  obtain ⟨h2, h⟩ := He.ba h
  obtain ⟨h3, h4⟩ := He.ba h
  refine ⟨of_decide_eq_true h1, of_decide_eq_true h2, of_decide_eq_true h3, ?_⟩
  unfold prG
  split at h4
  · rename_i g r q
    rw [q]
    exact ⟨r, rfl⟩
  · cases h4
def xfldB (K : Frag) (C : Addr) (f : Str) : Bool := xfB K C && decide (findIn K (.ref C) f = some none)
theorem xfldB_ok {K : Frag} {C : Addr} {f : Str} (h : xfldB K C f = true) : XfC K C ∧ findIn K (.ref C) f = some none := by
  obtain ⟨h1, h2⟩ := He.ba h
  exact ⟨xfB_ok h1, of_decide_eq_true h2⟩
/-- no list stands in K -/
def noListB (K : Frag) : Bool := K.all fun p => !decide (p.2.cls = .type "list")
theorem noList {K : Frag} {a : Addr} {o : Obj} (h : noListB K = true) (e : K.lookup a = some o) : o.cls ≠ .type "list" := fun z => by
  have h1 := List.all_eq_true.mp h _ (He.lookup_mem e)
  have h2 : (!decide (o.cls = .type "list")) = true := h1
  rw [decide_eq_true z] at h2
  cases h2
end SL
set_option maxRecDepth 100000
set_option maxHeartbeats 2000000
/-! Layer S: the hook. -/
namespace SL
open PySem PySem.Spec PyProof.Rows L2 PySem.W

def asS (g : Addr → Option Obj) (n : Nat) : List Addr := cStatics :: He.asD g n
/-- a property's getter -/
structure PrF where
  cls : Str
  name : Str
  qual : Str
  params : Arguments
  body : List Stmt
  scope : Scope
def prObs (K : Frag) (d : PrF) : He.FnW := match K.lookup (prG K d.cls d.name) with
  | some ⟨_, _, .func fd, _⟩ => some (fd.name, fd.qualname, fd.params, fd.body, fd.scope, fd.globals, fd.closure, fd.builtins)
  | _ => none
def PrF.val (d : PrF) : He.FnW := some (d.name, d.qual, d.params, .stmts d.body, d.scope, mainGlobals, [], builtinsNs)
def prB (K : Frag) (d : PrF) : Bool := keepIn K (.ref (prG K d.cls d.name)) && (match K.lookup (prG K d.cls d.name) with
  | some ⟨_, _, .func fd, _⟩ => codeIn K fd.code d.qual && He.dflB K fd.defaults []
  | _ => false)
theorem prD_of {K : Frag} {d : PrF} (e : prObs K d = d.val) (c : prB K d = true) : ∃ fd, FunD K d.name d.qual d.params d.body d.scope [] [] (prG K d.cls d.name) fd := by
  obtain ⟨kp, c2⟩ := He.ba c
  unfold prObs at e
  cases q : K.lookup (prG K d.cls d.name) with
  | none => rw [q] at c2; cases c2
  | some o =>
    obtain ⟨oc, od, dt, osl⟩ := o
    rw [q] at c2 e
    cases dt with
    | func fd =>
      obtain ⟨n1, n2, n3, n4, n5, n6, n7, n8, n9, n10, n11, n12, n13, n14, n15⟩ := fd
      have e2 : (some (n1, n2, n3, n4, n5, n6, n7, n15) : He.FnW) = some (d.name, d.qual, d.params, .stmts d.body, d.scope, mainGlobals, [], builtinsNs) := e
      simp only [Option.some.injEq, Prod.mk.injEq] at e2
      obtain ⟨h1, h2, h3, h4, h5, h6, h7, h8⟩ := e2
      subst h1 h2 h3 h4 h5 h6 h7 h8
      obtain ⟨k1, k2⟩ := He.ba (show (codeIn K n13 d.qual && He.dflB K n8 []) = true from c2)
      exact ⟨_, ⟨oc, od, n8, n9, n10, n11, n12, n13, n14, osl, rfl, q, k1, He.dflB_ok k2, .inl rfl⟩, kp⟩
    | _ => cases c2
abbrev AlS : Type := He.AlX × (List InW × List He.FnW)
def kS (g : Addr → Option Obj) (n : Nat) : Frag := He.frT g (asS g n)
def obsS (n : Nat) (fa : List He.Fa) (fn : List He.DefD) (tf : List He.Defn) (ini : List IniF) (pr : List PrF) (ex : Frag → Bool) (g : Addr → Option Obj) : AlS :=
  ((He.obsT fa fn [] (kS g n), ex (kS g n) && He.tabsB g tf (kS g n)), (ini.map fun d => iniObs (kS g n) d.cls, pr.map fun d => prObs (kS g n) d))
def valS (fn : List He.DefD) (ini : List IniF) (pr : List PrF) (w : World) : AlS := (He.valX fn [] w, (ini.map IniF.val, pr.map PrF.val))
structure SaysS (fa : List He.Fa) (fn : List He.DefD) (tf : List He.Defn) (ini : List IniF) (pr : List PrF) (ex : Frag → Bool) (w : World) (h : Heap) (K : Frag) : Prop where
  x : He.SaysX fa fn [] tf ex w h K
  ini : ini.map (fun d => iniObs K d.cls) = ini.map IniF.val
  pr : pr.map (fun d => prObs K d) = pr.map PrF.val
theorem saysS_of {n : Nat} {fa : List He.Fa} {fn : List He.DefD} {tf : List He.Defn} {ini : List IniF} {pr : List PrF} {ex : Frag → Bool} {w : World} {h : Heap} (e : obsS n fa fn tf ini pr ex h.get? = valS fn ini pr w) : SaysS fa fn tf ini pr ex w h (kS h.get? n) := by
  have e0 : (He.obsT fa fn [] (kS h.get? n), ex (kS h.get? n) && He.tabsB h.get? tf (kS h.get? n)) = He.valX fn [] w := congrArg (fun z : AlS => z.1) e
  have e9 : ini.map (fun d => iniObs (kS h.get? n) d.cls) = ini.map IniF.val := congrArg (fun z : AlS => z.2.1) e
  have e8 : pr.map (fun d => prObs (kS h.get? n) d) = pr.map PrF.val := congrArg (fun z : AlS => z.2.2) e
  have e1 : He.obsT fa fn [] (kS h.get? n) = He.valT fn [] w := congrArg (fun z : He.AlX => z.1) e0
  have e2 : (ex (kS h.get? n) && He.tabsB h.get? tf (kS h.get? n)) = true := congrArg (fun z : He.AlX => z.2) e0
  obtain ⟨h1, h2⟩ := He.ba e2
  have key : ∀ p ∈ tf, codeHdIn (kS h.get? n) (He.cT (kS h.get? n) p).1 (He.cT (kS h.get? n) p).2 = true ∧ ∃ o, h.get? (He.cT (kS h.get? n) p).2 = some o ∧ He.emptyTab o = true := fun p hp => by
    obtain ⟨h3, h4⟩ := He.ba (List.all_eq_true.mp h2 p hp)
    refine ⟨h3, ?_⟩
    cases q : h.get? (He.cT (kS h.get? n) p).2 with
    | none =>
      rw [q] at h4
      cases h4
    | some o =>
      rw [q] at h4
      exact ⟨o, rfl, h4⟩
  refine ⟨⟨e1, h1, fun p hp => (key p hp).1, fun p hp => ?_, fun p hp => ?_⟩, e9, e8⟩
  · obtain ⟨_, o, q, z⟩ := key p hp
    exact He.frT_none q z
  · obtain ⟨_, o, q, z⟩ := key p hp
    rw [q, He.emptyTab_eq z]
def hookS (n : Nat) (fa : List He.Fa) (fn : List He.DefD) (tf : List He.Defn) (ini : List IniF) (pr : List PrF) (ex : Frag → Bool) : PySem.W.Hook where
  α := AlS
  obs := fun s => obsS n fa fn tf ini pr ex s.heap.get?
  val := fun w => valS fn ini pr w
  says := fun w h => ∃ K : Frag, K.In h ∧ SaysS fa fn tf ini pr ex w h K
  of := fun _ _ e => ⟨_, He.frT_in, saysS_of e⟩
  keeps := fun _ _ _ ⟨K, hK, c⟩ k => ⟨K, PySem.W.Frag.In.keeps hK k, ⟨⟨c.x.t, c.x.more, c.x.hd, c.x.out, fun p hp => k _ _ (c.x.empty p hp)⟩, c.ini, c.pr⟩⟩
theorem obsS_eq {n : Nat} {fa : List He.Fa} {fn : List He.DefD} {tf : List He.Defn} {ini : List IniF} {pr : List PrF} {ex : Frag → Bool} {g : Addr → Option Obj} {s : Shared} (h : ∀ a, g a = s.heap.get? a) : obsS n fa fn tf ini pr ex g = (hookS n fa fn tf ini pr ex).obs s := by
  have e : g = s.heap.get? := funext h
  rw [e] <;> rfl
section
variable {fa : List He.Fa} {fn : List He.DefD} {tf : List He.Defn} {ini : List IniF} {pr : List PrF} {ex : Frag → Bool} {w : World} {h : Heap} {K : Frag}
theorem SaysS.fact (c : SaysS fa fn tf ini pr ex w h K) (i : Nat) {f : He.Fa} (e : fa[i]? = some f := by rfl) : f.ok K = true := (c.x.t.d).fact i e
theorem SaysS.def_ (c : SaysS fa fn tf ini pr ex w h K) (i : Nat) {d : He.DefD} (e : fn[i]? = some d := by rfl) : ∃ fd, FunD K d.name d.qual d.params d.body d.scope (d.dvs K) (d.kws K) (He.fAd K d.at_) fd := (c.x.t.d).def_ i e
theorem SaysS.iniO (c : SaysS fa fn tf ini pr ex w h K) (i : Nat) {d : IniF} (e : ini[i]? = some d := by rfl) : iniObs K d.cls = d.val := by
  have e2 : (ini.map fun d => iniObs K d.cls)[i]? = (ini.map IniF.val)[i]? := by rw [c.ini]
  rw [List.getElem?_map, List.getElem?_map, e] at e2
  exact Option.some.inj e2
theorem SaysS.prO (c : SaysS fa fn tf ini pr ex w h K) (i : Nat) {d : PrF} (e : pr[i]? = some d := by rfl) : prObs K d = d.val := by
  have e2 : (pr.map fun d => prObs K d)[i]? = (pr.map PrF.val)[i]? := by rw [c.pr]
  rw [List.getElem?_map, List.getElem?_map, e] at e2
  exact Option.some.inj e2
end
/-! ### a def whose code writes a table -/
section
variable {P : Program} {w : World} {K : Frag} {mg : Str → Option Value} {base : Heap} {x qual : Str} {params : Arguments} {body : List Stmt} {scope : Scope} {dvs : List V} {kws : List (Str × V)} {fd : FuncData} {N ps : List Str} {k : Nat} {T : Tab} {m : SM} {p : He.Defn}
theorem fn_okC (F : FunD K x qual params body scope dvs kws (He.fAd K p) fd) (S : FnScope N ps scope)
    (hb : ∀ (A : Around) (outer : List PySem.Env) (s : Shared) (H : Hp) (E : XK), Room k (A.deeper (envOfC qual scope s.heap.objs.size (He.fAd K p) (.ref (He.codeOf K p)))) → TkE (cxOf (CX P w) P w K mg base N qual scope (He.fAd K p) (.ref (He.codeOf K p)) A outer s H E) E →
      SSs (cxOf (CX P w) P w K mg base N qual scope (He.fAd K p) (.ref (He.codeOf K p)) A outer s H E) T E body m) : FnOk P w K mg base (CX P w) (k + 1) (He.fAd K p) fd ps (spF ⟨K, w, T⟩ ps.length (fnB N.length m)) := by
  obtain ⟨oc, od, dV, kV, doc, pm, an, cdv, ct, osl, rfl, lk, hcd, _, _⟩ := F.ex
  obtain ⟨c, rfl⟩ := He.codeIn_ref hcd
  have ec : He.codeOf K p = c := He.codeOf_eq lk rfl
  refine FnOk.imp (sp := spF ⟨K, w, T⟩ ps.length (fnK N.length m)) (fn_of lk hcd S (fun vs H Q E h => ?_) fun A outer s H vs Q E hr h => ⟨tS ⟨K, w, T⟩ E m, ?_, ?_⟩) fun _ _ _ _ h => spF_close h
  · obtain ⟨ds, st, μ, _, r, e, _⟩ := h
    rw [r.length, e]
  · have hb' := hb A outer s H E
    rw [ec] at hb'
    exact hb' hr (takes_of rfl rfl rfl rfl)
  · obtain ⟨ds, st, μ, s1, r, e, a⟩ := h
    exact ⟨startE N.length ds, st, μ, start_env r, s1, AfterS.ofEnd a⟩
end
end SL
set_option maxRecDepth 100000
set_option maxHeartbeats 2000000
/-! Layer S: the rules as the generator uses them. -/
namespace SL
open PySem PySem.Spec PyProof.Rows L2 PySem.W

theorem hu_of {k : Nat} {A : Around} (r : Room k A) : A.units + 65 < cLine := by have := r.un; omega
theorem hu64_of {k : Nat} {A : Around} (r : Room k A) : A.units + 64 < cLine := by have := r.un; omega
theorem hu70_of {k : Nat} {A : Around} (r : Room k A) : A.units + 70 < cLine := by have := r.un; omega
/-- a def, ready to be called with its last arguments dds left out -/
structure Got (P : Program) (w : World) (K : Frag) (mg : Str → Option Value) (base : Heap) (T : Tab) (x : Str) (f : Addr) (k n : Nat) (F : CF) (dds : List D) : Prop where
  ex : ∃ (fd : FuncData) (ps : List Str) (ds : List Value) (dvs : List V), FnOk P w K mg base (CX P w) k f fd ps (spF ⟨K, w, T⟩ n F) ∧ mg x = some (.ref f) ∧ keepIn K (.ref f) = true ∧ Binds K fd ps ds ∧ Vals dvs ds ∧ ∀ μ H, DVs ⟨K, w, T⟩ μ H dvs dds
/-- with keywords, all of them -/
structure GotK (P : Program) (w : World) (K : Frag) (mg : Str → Option Value) (base : Heap) (T : Tab) (x : Str) (f : Addr) (k n : Nat) (F : CF) (ps ks : List Str) (ix : List Nat) : Prop where
  ex : ∃ (fd : FuncData), FnOk P w K mg base (CX P w) k f fd ps (spF ⟨K, w, T⟩ n F) ∧ mg x = some (.ref f) ∧ keepIn K (.ref f) = true ∧
    ∀ (s : Shared) (ws : List Value), K.In s.heap → (permL ix ws).length = ps.length → ws.length = ks.length → BindsTo s fd ⟨[], ks.zip ws⟩ (ps.zip (permL ix ws))
structure GotM (P : Program) (w : World) (K : Frag) (mg : Str → Option Value) (base : Heap) (T : Tab) (c : Nat) (m : Str) (k n : Nat) (F : CF) : Prop where
  ex : ∃ (fa : Addr) (fd : FuncData) (ps : List Str), FnOk P w K mg base (CX P w) k fa fd ps (spF ⟨K, w, T⟩ n F) ∧ Cls K (T.ca c) ∧ Meth K (T.ca c) m fa ∧ m ∉ T.fl c ∧ Binds K fd ps []
structure GotP (P : Program) (w : World) (K : Frag) (mg : Str → Option Value) (base : Heap) (T : Tab) (c : Nat) (f : Str) (k : Nat) (F : CF) : Prop where
  ex : ∃ (pa fa : Addr) (fd : FuncData) (ps : List Str), FnOk P w K mg base (CX P w) k fa fd ps (spF ⟨K, w, T⟩ 1 F) ∧ Cls K (T.ca c) ∧ PropOf K (T.ca c) f pa fa ∧ Binds K fd ps []
structure GotC (P : Program) (w : World) (K : Frag) (mg : Str → Option Value) (base : Heap) (T : Tab) (x : Str) (c : Nat) (k n : Nat) (F : CF) : Prop where
  ex : ∃ (fa : Addr) (fd : FuncData) (ps : List Str), FnOk P w K mg base (CX P w) k fa fd ps (spF ⟨K, w, T⟩ n F) ∧ Mk K (T.ca c) fa ∧ mg x = some (.ref (T.ca c)) ∧ Binds K fd ps []
structure Ex0 (K : Frag) (mg : Str → Option Value) (T : Tab) (x : Str) (c : Nat) : Prop where
  q : excIn K (T.ca c) He.veBase "ValueError.__new__" = true
  k : keepIn K (.ref (T.ca c)) = true
  s : subIn K (.ref (T.ca c)) (.type "BaseException") = some true
  t : typeIn K (.ref (T.ca c)) = some (.type "type")
  m : mg x = some (.ref (T.ca c))
structure Ex1 (P : Program) (w : World) (K : Frag) (mg : Str → Option Value) (base : Heap) (T : Tab) (x : Str) (c : Nat) : Prop where
  ex : ∃ (fI Dd : Addr) (fd : FuncData) (ps : List Str) (fld : Str), IniC K (T.ca c) Dd fld ∧ T.fl c = [fld] ∧ findIn K (.ref (T.ca c)) "__init__" = some (some (.ref fI)) ∧ typeIn K (.ref fI) = some (.type "function") ∧
    FnOk P w K mg base (CX P w) 1 fI fd ps (spIni K Dd fld) ∧ Binds K fd ps [] ∧ mg x = some (.ref (T.ca c))
structure CaughtG (K : Frag) (mg : Str → Option Value) (T : Tab) (okC : Nat → Bool) (x a : Str) : Prop where
  ex : ∃ (g CS : Addr) (fd : FuncData) (pg : Arguments) (bg : List Stmt) (sg : Scope) (Ng : List Str), (∀ c, okC c = true → exmOne K (.ref (T.ca c)) (.ref CS) = some true) ∧ mg x = some (.ref g) ∧ FunD K x x pg bg sg [] [] g fd ∧ Binds K fd [a] [] ∧ FnScope Ng [a] sg ∧ Ng[0]? = some a ∧ Vis sg a ∧
    ∀ (X : Cx) (cdg : Value) (q : Str), X.mg = mg → LamX.GivesTo X Ng x sg g cdg bg a q (TTc X.K CS)
structure LamAt (base : Heap) (mg : Str → Option Value) (T : Tab) (c : Addr) (q : Str) : Prop where
  ex : ∃ Pt, LamX.TabB base mg c Pt ∧ (Pt, q) ∈ T.tb ∧ ∀ p ∈ T.tb, p.1 = Pt → p.2 = q
section
variable {X : Cx} {T : Tab} {E : XK} {e o : Expr} {es : List Expr} {p pos apos : Pos} {x m : Str} {f : Addr} {k n c : Nat} {F : CF} {am : AM} {me mo : EM} {dds : List D}
theorem se_callG (G : Got X.prog X.w X.K X.mg X.base T x f k n F dds) (hr : Room k X.A) (tk : TkE X E) (ha : SA X T E (e :: es) am) (hg : Gl X x := by rfl) (hdb : (x == ("__debug__" : Str)) = false := by decide)
    (he : starEach (e :: es) X.env = (false, eval e X.env) :: starEach es X.env := by rfl) (hpl : (backTo pos (starEach es X.env)).any (·.1) = false := by rfl) :
    SE X T E (.Call (.Name x p) (e :: es) [] pos) (mCall (arity n F) dds am) := by
  obtain ⟨fd, ps, ds, dvs, h1, h2, h3, h4, h5, h6⟩ := G.ex
  exact se_call h1 hr tk h2 h3 h4 h5 h6 ha hg hdb he hpl
theorem se_callG0 (G : Got X.prog X.w X.K X.mg X.base T x f k n F dds) (hr : Room k X.A) (tk : TkE X E) (hg : Gl X x := by rfl) (hdb : (x == ("__debug__" : Str)) = false := by decide) :
    SE X T E (.Call (.Name x p) [] [] pos) (mCall (arity n F) dds aNil) := by
  obtain ⟨fd, ps, ds, dvs, h1, h2, h3, h4, h5, h6⟩ := G.ex
  exact se_call0 h1 hr tk h2 h3 h4 h5 h6 hg hdb
theorem se_callKG {ps ks : List Str} {ix : List Nat} {kws : List Keyword} (G : GotK X.prog X.w X.K X.mg X.base T x f k n F ps ks ix) (hr : Room k X.A) (tk : TkE X E) (hkw : SKy X T E kws am) (hkl : kws.length = ks.length := by rfl) (hg : Gl X x := by rfl)
    (hall : (backToKw pos (keywordEach kws X.env)).all (·.1.isSome) = true := by rfl) (hks : (backToKw pos (keywordEach kws X.env)).filterMap (·.1) = ks := by rfl) (hdb : (x == ("__debug__" : Str)) = false := by decide)
    (hpl : ((backTo pos (starEach [] X.env)).any (·.1) || (backToKw pos (keywordEach kws X.env)).any (·.1.isNone)) = false := by rfl) :
    SE X T E (.Call (.Name x p) [] kws pos) (mCallK (arity n F) ix ks.length am) := by
  obtain ⟨fd, h1, h2, h3, h4⟩ := G.ex
  exact se_callK0 ix h1 hr tk h2 h3 h4 hkw hkl hg hall hks hdb hpl
theorem se_methG {pl : Sem Bool} (G : GotM X.prog X.w X.K X.mg X.base T c m k n F) (he : SE X T E o mo) (hr : Room k X.A) (tk : TkE X E) (ha : SA X T E (e :: es) am)
    (hst : starEach (e :: es) X.env = (false, eval e X.env) :: starEach es X.env := by rfl) (hpl : (backTo pos (starEach es X.env)).any (·.1) = false := by rfl)
    (ht : eval (.Call (.Attribute o m apos) (e :: es) [] pos) X.env = (do
      let ov ← eval o X.env
      standAt apos.atName
      let (f, first) ← holding [ov] (getMethod ov m pl)
      callWith pos f first (backTo pos (starEach (e :: es) X.env)) (backToKw pos (keywordEach [] X.env))) := by rfl) :
    SE X T E (.Call (.Attribute o m apos) (e :: es) [] pos) (mMethO c (arity n F) [] mo am) := by
  obtain ⟨fa, fd, ps, h1, h2, h3, h4, h5⟩ := G.ex
  exact se_methO c he h2 h3 h4 h1 hr tk h5 .nil (fun _ _ => .nil) ha hst hpl ht
theorem se_methG0 {pl : Sem Bool} (G : GotM X.prog X.w X.K X.mg X.base T c m k n F) (he : SE X T E o mo) (hr : Room k X.A) (tk : TkE X E)
    (ht : eval (.Call (.Attribute o m apos) [] [] pos) X.env = (do
      let ov ← eval o X.env
      standAt apos.atName
      let (f, first) ← holding [ov] (getMethod ov m pl)
      callWith pos f first (backTo pos (starEach [] X.env)) (backToKw pos (keywordEach [] X.env))) := by rfl) :
    SE X T E (.Call (.Attribute o m apos) [] [] pos) (mMethO c (arity n F) [] mo aNil) := by
  obtain ⟨fa, fd, ps, h1, h2, h3, h4, h5⟩ := G.ex
  exact se_methO0 c he h2 h3 h4 h1 hr tk h5 .nil (fun _ _ => .nil) ht
theorem se_propG (G : GotP X.prog X.w X.K X.mg X.base T c m k F) (hr : Room (k + 1) X.A) (he : SE X T E e me) (hab : attributeBase e m X.env (eval e X.env) = eval e X.env := by rfl) : SE X T E (.Attribute e m pos) (mProp c F me) := by
  obtain ⟨pa, fa, fd, ps, h1, h2, h3, h4⟩ := G.ex
  exact se_prop c he h2 h3 h1 hr h4 hab
theorem se_makeG (G : GotC X.prog X.w X.K X.mg X.base T x c k n F) (hr : Room (k + 1) X.A) (tk : TkE X E) (ha : SA X T E (e :: es) am) (hg : Gl X x := by rfl) (hdb : (x == ("__debug__" : Str)) = false := by decide)
    (he : starEach (e :: es) X.env = (false, eval e X.env) :: starEach es X.env := by rfl) (hpl : (backTo pos (starEach es X.env)).any (·.1) = false := by rfl) :
    SE X T E (.Call (.Name x p) (e :: es) [] pos) (mMake c (arity n F) [] am) := by
  obtain ⟨fa, fd, ps, h1, h2, h3, h4⟩ := G.ex
  exact se_make c h2 h1 hr tk h3 h4 .nil (fun _ _ => .nil) ha hg hdb he hpl
theorem ss_raise0G {t : Str} {j : Nat} {p2 lpos : Pos} (G : Ex0 X.K X.mg T x c) (hc : X.calm = true) (tk : TkE X E) (hg : Gl X x := by rfl) (hdb : (x == ("__debug__" : Str)) = false := by decide) :
    SS X T E (.Raise (some (.Call (.Name x p) [.Constant (.str t) j p2] [] pos)) none lpos) (sRaise0 c) :=
  ss_raise0 c hc tk F.excBase_ValueError G.q G.m G.k (raises_own G.s G.t) hg hdb
theorem ss_raise1G {lpos : Pos} (G : Ex1 X.prog X.w X.K X.mg X.base T x c) (hc : X.calm = true) (tk : TkE X E) (hr : Room 2 X.A) (ha : SA X T E (e :: es) am) (hg : Gl X x := by rfl)
    (hdb : (x == ("__debug__" : Str)) = false := by decide) (he : starEach (e :: es) X.env = (false, eval e X.env) :: starEach es X.env := by rfl) (hpl : (backTo pos (starEach es X.env)).any (·.1) = false := by rfl) :
    SS X T E (.Raise (some (.Call (.Name x p) (e :: es) [] pos)) none lpos) (sRaise1 c am) := by
  obtain ⟨fI, Dd, fd, ps, fld, h1, h2, h3, h4, h5, h6, h7⟩ := G.ex
  exact ss_raise1 c hc tk h1 h2 h3 h4 h5 hr h6 h7 ha hg hdb he hpl
theorem se_append (ho : SE X T E o mo) (ha : SA X T E (e :: es) am)
    (hbase : attributeBase o "append" X.env (eval o X.env) = eval o X.env := by rfl)
    (hfew : ((backTo pos (starEach (e :: es) X.env)).all (fun x => !x.1) && (backToKw pos (keywordEach [] X.env)).all (fun x => x.1.isSome)
      && decide ((e :: es).length + ([] : List Keyword).length + (if ([] : List Keyword).isEmpty then 0 else 1) < 30)) = true := by rfl)
    (hline : (apos.endLine == pos.line) = true := by rfl) (hs : starEach (e :: es) X.env = (false, eval e X.env) :: starEach es X.env := by rfl) (hplain : (backTo pos (starEach es X.env)).any (·.1) = false := by rfl) :
    SE X T E (.Call (.Attribute o "append" apos) (e :: es) [] pos) (mMeth "list" fAppend mo am) :=
  se_meth PySem.F.plainAttrs_list PySem.F.slot_list_append PySem.F.type_list_append m_append ho ha hbase hfew hline hs hplain
theorem se_pop (ho : SE X T E o mo) (ha : SA X T E (e :: es) am)
    (hbase : attributeBase o "pop" X.env (eval o X.env) = eval o X.env := by rfl)
    (hfew : ((backTo pos (starEach (e :: es) X.env)).all (fun x => !x.1) && (backToKw pos (keywordEach [] X.env)).all (fun x => x.1.isSome)
      && decide ((e :: es).length + ([] : List Keyword).length + (if ([] : List Keyword).isEmpty then 0 else 1) < 30)) = true := by rfl)
    (hline : (apos.endLine == pos.line) = true := by rfl) (hs : starEach (e :: es) X.env = (false, eval e X.env) :: starEach es X.env := by rfl) (hplain : (backTo pos (starEach es X.env)).any (·.1) = false := by rfl) :
    SE X T E (.Call (.Attribute o "pop" apos) (e :: es) [] pos) (mMeth "list" fPop mo am) :=
  se_meth PySem.F.plainAttrs_list PySem.F.slot_list_pop PySem.F.type_list_pop m_pop ho ha hbase hfew hline hs hplain
theorem se_pop0 (ho : SE X T E o mo) (hbase : attributeBase o "pop" X.env (eval o X.env) = eval o X.env := by rfl) (hline : (apos.endLine == pos.line) = true := by rfl) :
    SE X T E (.Call (.Attribute o "pop" apos) [] [] pos) (mMeth "list" fPop mo aNil) :=
  se_meth0 PySem.F.plainAttrs_list PySem.F.slot_list_pop PySem.F.type_list_pop m_pop ho hbase hline
theorem se_caughtG {okC : Nat → Bool} {a : Str} {cc : Addr} {params : Arguments} {body : Expr} {scope : Scope} {lpos : Pos} {mb : EM} (C : CaughtG X.K X.mg T okC x a) (LA : LamAt X.base X.mg T cc (X.env.qual ++ "<lambda>")) (hr : Room (k + 2) X.A) (L : LamX.LamS X.env.scope scope) (hdef : defaultsOf params X.env = ([], []))
    (hbind : ∀ (q : Str) (cl : List (Str × Addr)) (pm cv ctv : Value), bindArgs (PySem.W.kla_fn "<lambda>" q params body scope cl pm cv ctv) ⟨[], []⟩ = pure [])
    (hbody : ∀ (A : Around) (outer : List PySem.Env) (s : Shared) (H : Hp) (E : XK) (f c' : Addr), Room k (A.deeper (LamX.lamEnv X scope s.heap.objs.size f c')) → TkE (LamX.lamCx X A outer s H E scope f c') E → SE (LamX.lamCx X A outer s H E scope f c') T E body mb)
    (hcode : X.env.code = .ref cc := by rfl) (hg : Gl X x := by rfl) (hdb : (x == ("__debug__" : Str)) = false := by decide) (hd : (a == ("__debug__" : Str)) = false := by decide) (hcd : (a == ("__classdict__" : Str)) = false := by decide) :
    SE X T E (.Call (.Name x p) [.Lambda params body scope lpos] [] pos) (mCaught okC mb) := by
  obtain ⟨g, CS, fd, pg, bg, sg, Ng, h1, h2, h3, h4, h5, h6, h7, h8⟩ := C.ex
  obtain ⟨Pt, l1, l2, l3⟩ := LA.ex
  obtain ⟨oc, od, dV, kV, doc, pm, an, cdv, ct, osl, rfl, lk, hcd', _, _⟩ := h3.ex
  exact se_caught h1 hg h2 h3.kp lk hcd' h4 h5 h6 h7 (h8 X cdv _ rfl) l1 hcode l2 l3 hr L hdef hbind hbody hdb hd hcd
/-! ### held defs -/
theorem holds_of {j : Nat} (G : Got X.prog X.w X.K X.mg X.base T x (T.fa j) k n F []) {k' : Nat} (h : k ≤ k') : Holds X T k' j n F := by
  obtain ⟨fd, ps, ds, dvs, h1, h2, h3, h4, h5, h6⟩ := G.ex
  have e : ds = [] := by
    have z := h6 [] (fun _ => none)
    cases z
    cases h5
    rfl
  subst e
  exact ⟨fd, ps, h1.mono h, h3, h4⟩
theorem fs_nil {k n : Nat} : ∀ j F, (([] : List (Nat × CF)).lookup j) = some F → ∃ F', F = arity n F' ∧ Holds X T k j n F' := fun _ _ h => by cases h
theorem fs_cons {k n i : Nat} {F0 : CF} {l : List (Nat × CF)} (h : Holds X T k i n F0) (r : ∀ j F, l.lookup j = some F → ∃ F', F = arity n F' ∧ Holds X T k j n F') : ∀ j F, ((i, arity n F0) :: l).lookup j = some F → ∃ F', F = arity n F' ∧ Holds X T k j n F' := fun j F e => by
  rw [List.lookup_cons] at e
  cases q : (j == i) with
  | true =>
    rw [q] at e
    have e1 : j = i := beq_iff_eq.mp q
    subst e1
    exact ⟨F0, (Option.some.inj e).symm, h⟩
  | false =>
    rw [q] at e
    exact r j F e
end
end SL
namespace SL
open PySem PySem.Spec PyProof.Rows L2 PySem.W
theorem tb_uniq {K : Frag} {tf : List He.Defn} {nm : He.Defn → Str} (nd : (tf.map fun p => (He.cT K p).2).Nodup) {p : He.Defn} (hp : p ∈ tf) : ∀ q ∈ tf.map (fun p => ((He.cT K p).2, nm p)), q.1 = (He.cT K p).2 → q.2 = nm p := by
  intro q hq e
  obtain ⟨r, hr, rfl⟩ := List.mem_map.mp hq
  have e1 : (He.cT K r).2 = (He.cT K p).2 := e
  have key : ∀ {l : List He.Defn}, (l.map fun p => (He.cT K p).2).Nodup → r ∈ l → p ∈ l → r = p := by
    intro l
    induction l with
    | nil => intro _ h; cases h
    | cons a l ih =>
      intro n h1 h2
      obtain ⟨n1, n2⟩ := List.nodup_cons.mp n
      rcases List.mem_cons.mp h1 with k1 | k1
      · rcases List.mem_cons.mp h2 with k2 | k2
        · rw [k1, k2]
        · subst k1
          exact (n1 (List.mem_map.mpr ⟨p, k2, e1.symm⟩)).elim
      · rcases List.mem_cons.mp h2 with k2 | k2
        · subst k2
          exact (n1 (List.mem_map.mpr ⟨r, k1, e1⟩)).elim
        · exact ih n2 k1 k2
  rw [key nd hr hp]
theorem kwAll {K : Frag} {x qual : Str} {params : Arguments} {body : List Stmt} {scope : Scope} {kws : List (Str × V)} {f : Addr} {fd : FuncData} {ps ks : List Str} {ix : List Nat} (F : FunD K x qual params body scope [] kws f fd)
    (h : ∀ (kV doc pm : Value) (an : Option Addr) (cdv ct : Value) (ws : List Value), ws.length = ks.length → bindArgs (PySem.W.fnOf x qual params body scope .none kV doc pm an cdv ct) ⟨[], ks.zip ws⟩ = pure (ps.zip (permL ix ws))) :
    ∀ (s : Shared) (ws : List Value), K.In s.heap → (permL ix ws).length = ps.length → ws.length = ks.length → BindsTo s fd ⟨[], ks.zip ws⟩ (ps.zip (permL ix ws)) := by
  obtain ⟨oc, od, dV, kV, doc, pm, an, cdv, ct, osl, rfl, lk, hcd, hD, hK⟩ := F.ex
  rcases hD with ⟨_, rfl⟩ | ⟨e, _⟩
  · exact fun s ws _ _ hl => .of_eq (h kV doc pm an cdv ct ws hl)
  · exact absurd rfl e
end SL
namespace SL
open PySem PySem.Spec PyProof.Rows L2 PySem.W
section
variable {X : Cx} {T : Tab} {E : XK} {e o : Expr} {es : List Expr} {p p2 pos apos : Pos} {am : AM}
theorem rgV_rng {g : Gx} {μ : List Addr} {H : Hp} (n : Nat) : DVs g μ H (rgV 0 n) (rngL n) := by
  have key : ∀ l : List Nat, DVs g μ H (l.map fun (i : Nat) => V.int (0 + (i : Int))) (l.map fun (k : Nat) => SL.D.int (k : Int)) := by
    intro l
    induction l with
    | nil => exact .nil
    | cons a l ih =>
      refine .cons ?_ ih
      show DV g μ H (.int (0 + (a : Int))) (.int (a : Int))
      rw [Int.zero_add]
      exact .int _
  have e : rgV 0 (n : Int) = (List.range n).map fun (i : Nat) => V.int (0 + (i : Int)) := by
    unfold rgV
    rw [show ((n : Int) - 0).toNat = n by omega]
  rw [e]
  exact key _
theorem tE_rng {X : Cx} {T : Tab} {E : XK} {me : EM} {σ : L2.St} {H : Hp} {Q : VK} {F : CF} (hF : ∀ ds st, F ds st ≠ .bad → ∃ j : Int, ds = [.int j] ∧ okR j = true ∧ j ≤ 1000)
    (hQ : ∀ (j : Int) st μ H1, Sto (gx X T) μ H1 st → okR j = true → j ≤ 1000 → After (gx X T) μ H1 Q E (F [.int j] st) → ∀ q, H1 q = none → Q (.ref q) (upd H1 q (.lst (rgV 0 j))))
    (h : tE (gx X T) E (mCB F (aCons me aNil)) σ H Q) : tLstRg (tRg1 (tE (gx X T) E me)) σ H Q := by
  obtain ⟨ρ, st, μ, r1, S, A⟩ := h
  unfold tLstRg tRg1
  refine ⟨ρ, st, μ, r1, S, ?_⟩
  have A' : After (gx X T) μ H Q E ((me ρ st).bind fun d st1 => F [d] st1) := by
    have z : mCB F (aCons me aNil) ρ st = (me ρ st).bind fun d st1 => F [d] st1 := by
      unfold mCB aCons
      cases me ρ st <;> rfl
    rw [z] at A
    exact A
  refine (AfterG.bind (Rl := fun μ H => DV (gx X T) μ H) A').mono fun x H1 q => ?_
  obtain ⟨d, st1, μ1, e1, S1, dv, a1⟩ := q
  have nb : F [d] st1 ≠ .bad := fun z => by
    rw [z] at a1
    exact a1
  obtain ⟨j, ej, ok, hj⟩ := hF [d] st1 nb
  injection ej with ej
  subst ej
  cases dv
  refine ⟨j, rfl, ?_, hQ j st1 μ1 H1 S1 ok hj a1⟩
  unfold okR at ok
  simp only [Bool.and_eq_true, decide_eq_true_eq] at ok
  exact ⟨by omega, by omega, ok.1, ok.2, by omega⟩
theorem rng_cast {j : Int} {g : Gx} {μ : List Addr} {H : Hp} : DVs g μ H (rgV 0 j) (rngL j.toNat) := by
  rcases Int.le_total 0 j with h | h
  · obtain ⟨n, rfl⟩ := Int.eq_ofNat_of_zero_le h
    exact rgV_rng n
  · have e1 : rgV 0 j = [] := by
      unfold rgV
      rw [show (j - 0).toNat = 0 by omega] <;> rfl
    have e2 : rngL j.toNat = [] := by
      unfold rngL
      rw [show j.toNat = 0 by omega] <;> rfl
    rw [e1, e2]
    exact .nil
theorem se_listrng {me : EM} (hc : X.calm = true) (hm : X.mg "list" = none) (hs : X.mg "range" = none) (ha : SE X T E e me) (hg : Gl X "list" := by rfl) (hg2 : Gl X "range" := by rfl) (na : starEach [e] X.env = (false, eval e X.env) :: starEach [] X.env := by rfl)
    (na2 : starEach [.Call (.Name "range" p2) [e] [] apos] X.env = (false, eval (.Call (.Name "range" p2) [e] [] apos) X.env) :: starEach [] X.env := by rfl) :
    SE X T E (.Call (.Name "list" p) [.Call (.Name "range" p2) [e] [] apos] [] pos) (mCB bListRng (aCons me aNil)) := by
  refine PE.imp (pe_listRg hc hg hm (prg_1 hg2 hs ha na) na2) fun σ H Q h => tE_rng (fun ds st z => ?_) (fun j st μ H1 S ok hj a q hq => ?_) h
  · unfold bListRng at z
    split at z
    · split at z
      · rename_i j c
        exact ⟨j, rfl, c.1, c.2⟩
      · exact (z rfl).elim
    · exact (z rfl).elim
  · unfold bListRng at a
    simp only [if_pos (And.intro ok hj)] at a
    exact ref_now S a hq (.lst upd_same rng_cast)
theorem se_listrngF {me : EM} (hc : X.calm = true) (hm : X.mg "list" = none) (hs : X.mg "range" = none) (ha : SE X T E e me) (hg : Gl X "list" := by rfl) (hg2 : Gl X "range" := by rfl) (na : starEach [e] X.env = (false, eval e X.env) :: starEach [] X.env := by rfl)
    (na2 : starEach [.Call (.Name "range" p2) [e] [] apos] X.env = (false, eval (.Call (.Name "range" p2) [e] [] apos) X.env) :: starEach [] X.env := by rfl) :
    SE X T E (.Call (.Name "list" p) [.Call (.Name "range" p2) [e] [] apos] [] pos) (mCB bListRngF (aCons me aNil)) := by
  refine PE.imp (pe_listRg hc hg hm (prg_1 hg2 hs ha na) na2) fun σ H Q h => tE_rng (fun ds st z => ?_) (fun j st μ H1 S ok hj a q hq => ?_) h
  · unfold bListRngF at z
    split at z
    · split at z
      · rename_i j c
        exact ⟨j, rfl, c.1, c.2⟩
      · exact (z rfl).elim
    · exact (z rfl).elim
  · unfold bListRngF at a
    simp only [if_pos (And.intro ok hj)] at a
    exact lst_now S a rng_cast hq
end
end SL
set_option maxRecDepth 100000
set_option maxHeartbeats 2000000
/-! Layer S: a law's end. -/
namespace SL
open PySem PySem.Spec PyProof.Rows L2 PySem.W
theorem funD_eq {K : Frag} {x qual : Str} {params : Arguments} {body : List Stmt} {scope : Scope} {dvs : List V} {kws : List (Str × V)} {f : Addr} {fd1 fd2 : FuncData} (F1 : FunD K x qual params body scope dvs kws f fd1) (F2 : FunD K x qual params body scope dvs kws f fd2) : fd1 = fd2 := by
  obtain ⟨oc, od, dV, kV, doc, pm, an, cdv, ct, osl, rfl, lk, _⟩ := F1.ex
  obtain ⟨oc', od', dV', kV', doc', pm', an', cdv', ct', osl', rfl, lk', _⟩ := F2.ex
  rw [lk] at lk'
  have e := congrArg Obj.data (Option.some.inj lk')
  injection e
theorem ints_dv {g : Gx} {μ : List Addr} {H : Hp} : ∀ ns : List Int, DVs g μ H (ns.map V.int) (ns.map D.int)
  | [] => .nil
  | i :: ns => .cons (.int i) (ints_dv ns)
theorem law_sp {g : Gx} {H : Hp} {a : Addr} {ns : List Int} {F : CF} (nl : noListB g.K = true) (ht : ∀ p ∈ g.T.tb, H p.1 = some (.tbl #[])) (hS : SqL g.K H a (ns.map V.int)) (hp : F [.lst (ns.map D.int)] [] = .ok (.bl true) []) :
    spF g 1 F [.ref a] H (fun v _ => v = .bl true) fun _ _ _ => False := by
  have h1 : Rd H a (.lst (ns.map V.int)) := by
    rcases hS with h | ⟨o, its, n, e, h, _⟩
    · exact h
    · exact (noList nl e h).elim
  refine ⟨[.lst (ns.map D.int)], [], [], ⟨rfl, List.nodup_nil, fun i o h => by simp at h, fun p hp => ⟨#[], ht p hp, trivial, fun pos cv h => by simp [codeAmong] at h⟩⟩, .cons (.lst h1 (by simp) (ints_dv ns)) .nil, rfl, ?_⟩
  rw [hp]
  intro v μ' H' e s q
  cases q
  rfl
theorem cx_no {P : Program} : ∀ (w : World) (H : Hp) (s : Shared) (e : Value) (s' : Shared), L2.CX P w [] H s (fun _ _ _ => False) e s' → False := fun _ _ _ _ _ x => by
  obtain ⟨_, _, _, _, _, _, _, _, _, _, _, _, _, _, _, _, z⟩ := x
/-- what the law's walk asks -/
theorem law_at {l : PySem.W.OpenLaw} {w : World} {K : Frag} {k n : Nat} {x q : Str} {params : Arguments} {body : List Stmt} {scope : Scope} {mg : Str → Option Value} {fa : Addr} {h : Heap} {fd : FuncData} {F : CF} {tf : List He.Defn} {T : Tab} (KX : K.In h)
    (hd : ∀ p ∈ tf, codeHdIn K (He.cT K p).1 (He.cT K p).2 = true) (out : ∀ p ∈ tf, K.lookup (He.cT K p).2 = none) (emp : ∀ p ∈ tf, h.get? (He.cT K p).2 = some { cls := .none, data := .fields #[] }) (nl : noListB K = true)
    (htb : ∀ p ∈ T.tb, ∃ r ∈ tf, p.1 = (He.cT K r).2) (Fd : FunD K q q params body scope [] [] fa fd)
    (hb : ∀ (kV doc pm : Value) (an : Option Addr) (cdv ct : Value) (us : List Value), us.length = 1 → bindArgs (PySem.W.fnOf q q params body scope .none kV doc pm an cdv ct) ⟨us, []⟩ = pure (([x] : List Str).zip us))
    (hF : ∀ base : Heap, K.In base → base.Ns mainGlobals mg → (∀ p ∈ tf.map (He.cT K), LamX.TabB base mg p.1 p.2) → ∃ fd', FunD K q q params body scope [] [] fa fd' ∧ FnOk l.prog w K mg base (CX l.prog w) k fa fd' [x] (spF ⟨K, w, T⟩ 1 F))
    (hp : ∀ ns : List Int, ns.length ≤ n → (∀ z ∈ ns, Builtin.Int.intBits z ≤ 1048576) → F [.lst (ns.map D.int)] [] = .ok (.bl true) []) :
    LamX.LawAtS l w K (CX l.prog w) k n x mg fa h := by
  refine ⟨fd, tf.map (He.cT K), spF ⟨K, w, T⟩ 1 F, fun p hp => ?_, fun p hp => ?_, fun p hp => ?_, fun s u => Fd.bindsA (ps := [x]) hb s [u] rfl, fun H a ns hl hbits hH hS => ?_, fun base KB GB TB => ?_⟩
  · obtain ⟨r, hr, rfl⟩ := List.mem_map.mp hp
    exact emp r hr
  · obtain ⟨r, hr, rfl⟩ := List.mem_map.mp hp
    exact out r hr
  · obtain ⟨r, hr, rfl⟩ := List.mem_map.mp hp
    exact codeHd_of_K KX (hd r hr)
  · refine law_sp nl (fun p hp' => ?_) hS (hp ns hl hbits)
    obtain ⟨r, hr, e⟩ := htb p hp'
    rw [e]
    exact hH _ (List.mem_map.mpr ⟨r, hr, rfl⟩)
  · obtain ⟨fd', F1, F2⟩ := hF base KB GB TB
    rw [funD_eq Fd F1]
    exact F2
end SL
set_option maxRecDepth 100000
set_option maxHeartbeats 4000000
/-! Layer S: sets of tuples of ints, up to 64 distinct ones (the library's SetTR holds fewer). -/
namespace SL
open PySem PySem.Spec PyProof.Rows L2

/-- a set of at most 64 tuples -/
structure SetW (P : Program) (w : World) (h : Heap) (a : Addr) (L : List (Addr × List Int)) (es : Array (Int × Value)) (ep : Nat) (t : SetTable) : Prop where
  at_ : ∃ o, h.get? a = some o ∧ o.ExactSet ∧ o.data = .set es ep t
  es_ : es.toList = rowsOf P w L
  tb : TabOk t (L.map fun p => thash P w p.2)
  no2 : (L.map (·.2)).Nodup
  isT : ∀ p ∈ L, IsT P w h p.2 p.1
  pl : t.plain = true
  ld : w.params.followText "set-order" = true ∨ t.led = true
  rm : L.length * 5 < t.mask * 3
  le : L.length ≤ 64
section
variable {P : Program} {w : World} {A : Around} {E : Value → Shared → Prop} {s : Shared} {a : Addr} {L : List (Addr × List Int)} {es : Array (Int × Value)} {ep : Nat} {t : SetTable}
theorem SetW.small {h : Heap} (W : SetW P w h a L es ep t) (hl : L.length < 64) : SetTR P w h a L es ep t := ⟨W.at_, W.es_, W.tb, W.no2, W.isT, W.pl, W.ld, W.rm, hl⟩
theorem SetW.of {h : Heap} (R : SetTR P w h a L es ep t) : SetW P w h a L es ep t := ⟨R.ob, R.rows, R.tab, R.nd, R.tup, R.plain, R.led, R.room, Nat.le_of_lt R.few⟩
theorem SetW.num {h : Heap} (W : SetW P w h a L es ep t) : es.size = L.length := by
  have e := congrArg List.length W.es_
  unfold rowsOf at e
  simpa using e
theorem SetW.fit {h : Heap} (W : SetW P w h a L es ep t) : t.fits es.size = true := by
  have h1 : t.place.size = L.length := by simpa using W.tb.sz
  have h2 := W.num
  have h3 := W.rm
  unfold SetTable.fits SetTable.fill
  rw [W.tb.dm]
  simp only [Bool.and_eq_true, beq_iff_eq, decide_eq_true_eq]
  refine ⟨by omega, ?_⟩
  show t.place.size + 0 ≤ t.mask
  omega
theorem SetW.row {h : Heap} (W : SetW P w h a L es ep t) {i : Nat} {p : Addr × List Int} (e : L[i]? = some p) : es[i]? = some (thash P w p.2, Value.ref p.1) := by
  have h1 : es.toList[i]? = some (thash P w p.2, Value.ref p.1) := by
    rw [W.es_]
    unfold rowsOf
    rw [List.getElem?_map, e] <;> rfl
  rwa [Array.getElem?_toList] at h1
/-- the c-th probe of the way of h -/
abbrev prb (m : Nat) (h : Int) (c : Nat) : SetTable.Probe := nth m (runAt m (SetTable.bits h % (m + 1)) (SetTable.bits h)) c
theorem prb_add {m : Nat} {h : Int} (c q : Nat) : nth m (prb m h c) q = prb m h (c + q) := (nth_add m c _ q).symm
theorem prb_dummy {m : Nat} {h : Int} (c : Nat) : (prb m h c).dummy = none := by
  have key : ∀ (n : Nat) (p : SetTable.Probe), p.dummy = none → (nth m p n).dummy = none := by
    intro n
    induction n with
    | zero => exact fun _ h => h
    | succ n ih =>
      intro p hp
      refine ih (adv m p) ?_
      unfold adv
      split <;> exact hp
  exact key c _ rfl
/-- what stands in the set is found, from any step of the way ahead of it -/
theorem find_w (W : SetW P w s.heap a L es ep t) {x : Addr} {k : List Int} (hx : IsT P w s.heap k x) (hu : A.units < cLine) {i0 c0 K : Nat} {p0 : Addr × List Int} (hi0 : L[i0]? = some p0) (hk0 : p0.2 = k) (hc0 : t.place.toList[i0]? = some (way t.mask (thash P w k) c0))
    (hKf : K < 10 * SetTable.turns t.mask) (hcK : c0 < K) (hK : way t.mask (thash P w k) K ∉ t.place.toList) (hKb : ∀ c, c < K → way t.mask (thash P w k) c ∈ t.place.toList) {Q : SetFound → Shared → Prop} (q : Q (.there none) s) :
    ∀ (f c : Nat) (stand : Option SetTable.Probe), stand.getD (t.probeStart (thash P w k)) = prb t.mask (thash P w k) c → c ≤ c0 → c0 - c < f → wpAny (model P w) A (setSearchFrom a (.ref x) (thash P w k) true f stand) Q E s := by
  intro f
  induction f with
  | zero => exact fun c stand _ _ hf => absurd hf (Nat.not_lt_zero _)
  | succ f ih =>
    intro c stand hst hc hf
    obtain ⟨o, ho, hex, hd⟩ := W.at_
    have ngw : ¬ t.gaveWay = true := by
      unfold SetTable.gaveWay
      rw [mask_odd W.tb.mok]
      decide
    rw [setSearchFrom_succ]
    refine wpAny_bind (wpAny_setState_of ho hd W.fit ?_)
    dsimp only
    refine wp_if_neg ngw ?_
    try refine wpAny_bind (wpAny_pure ?_)
    have e1 : ∀ r, (nth t.mask (prb t.mask (thash P w k) c) r).j = way t.mask (thash P w k) (c + r) := fun r => congrArg SetTable.Probe.j (prb_add c r)
    have hashAt : ∀ (i : Nat) p, L[i]? = some p → (fun i => (es[i]?.map (·.1)).getD 0) i = thash P w p.2 := fun i p hp => by
      show (es[i]?.map (·.1)).getD 0 = _
      rw [W.row hp] <;> rfl
    have spec := go_spec t W.tb.ris W.tb.dm (fun i => (es[i]?.map (·.1)).getD 0) (thash P w k) (10 * SetTable.turns t.mask) (K - c) _ (prb_dummy c) (by omega)
      (fun r hr => by rw [e1]; exact hKb (c + r) (by omega)) (by rw [e1, show c + (K - c) = K by omega]; exact hK)
    rcases spec with ⟨r, i, hr, hi, hh, hno, hpr⟩ | ⟨hno, hpr⟩
    · have hpr' : t.probe (fun i => (es[i]?.map (·.1)).getD 0) (thash P w k) (stand.getD (t.probeStart (thash P w k))) = some (.candidate (way t.mask (thash P w k) (c + r)) i (prb t.mask (thash P w k) (c + (r + 1)))) := by
        rw [hst, ← e1, ← prb_add]
        exact hpr
      rw [hpr']
      dsimp only
      rw [e1] at hi
      have hsl : t.slot (way t.mask (thash P w k) (c + r)) = .live i := slot_live W.tb.ris hi
      have hil : i < L.length := by
        have h1 : i < t.place.toList.length := (List.getElem?_eq_some_iff.mp hi).1
        have h2 : t.place.size = L.length := by simpa using W.tb.sz
        rw [Array.length_toList] at h1
        omega
      obtain ⟨p, hp⟩ : ∃ p, L[i]? = some p := ⟨_, List.getElem?_eq_getElem hil⟩
      have hm := List.mem_of_getElem? hp
      have body : wpAny (model P w) A (searchRest a (.ref x) (thash P w k) true f es t (way t.mask (thash P w k) (c + r)) i (prb t.mask (thash P w k) (c + (r + 1)))) Q E s := by
        unfold searchRest
        rw [W.row hp]
        dsimp only
        refine wpAny_bind (wpAny_holding (wpAny_eqBool_tuple hu (W.isT p hm) hx ?_))
        refine wpAny_bind (wpAny_setState_of ho hd W.fit ?_)
        dsimp only
        by_cases hkk : p.2 = k
        · exact wp_if_pos (by simp [hkk]) (wpAny_pure q)
        · refine wp_if_neg (by simp [hkk]) ?_
          try refine wpAny_bind (wpAny_pure ?_)
          rw [sameMem]
          dsimp only
          simp only [if_true, hsl, W.row hp]
          refine wpAny_bind (wpAny_isSame_ref_self (wpAny_bind (wpAny_pure ?_)))
          simp only [if_true]
          refine wp_if_neg (by simp [hkk]) ?_
          have far : c + r < c0 := by
            rcases Nat.lt_trichotomy (c + r) c0 with z | z | z
            · exact z
            · exfalso
              have s0 := slot_live W.tb.ris hc0
              rw [← z, hsl] at s0
              injection s0 with s0
              rw [← s0, hp] at hi0
              exact hkk ((congrArg Prod.snd (Option.some.inj hi0)).trans hk0)
            · exfalso
              exact hno (c0 - c) i0 (by omega) (by rw [e1, show c + (c0 - c) = c0 by omega]; exact hc0) ((hashAt i0 p0 hi0).trans (congrArg (thash P w) hk0))
          exact ih (c + (r + 1)) _ rfl (by omega) (by omega)
      by_cases hl : t.led = true
      · refine wp_if_neg (by simp [hl]) ?_
        try refine wpAny_bind (wpAny_pure ?_)
        exact body
      · refine wp_if_pos (by simp [hl]) ?_
        refine wpAny_bind (seen_tup hx (fun y hy => ?_) ?_)
        · obtain ⟨e, he, ee⟩ := List.mem_map.mp hy
          have he1 : e ∈ es ∧ e.1 = thash P w k := by simpa using he
          have he2 : e ∈ es.toList := by simpa using he1.1
          rw [W.es_] at he2
          obtain ⟨p2, hp2, e2⟩ := List.mem_map.mp he2
          exact ⟨p2.2, p2.1, by rw [← ee, ← e2], W.isT p2 hp2⟩
        · refine wp_if_neg (by decide) ?_
          try refine wpAny_bind (wpAny_pure ?_)
          exact body
    · exfalso
      exact hno (c0 - c) i0 (by omega) (by rw [e1, show c + (c0 - c) = c0 by omega]; exact hc0) ((hashAt i0 p0 hi0).trans (congrArg (thash P w) hk0))
theorem there_w (W : SetW P w s.heap a L es ep t) {x : Addr} {k : List Int} (hx : IsT P w s.heap k x) (hu : A.units < cLine) (hm : k ∈ L.map (·.2)) {Q : SetFound → Shared → Prop} (q : Q (.there none) s) :
    wpAny (model P w) A (setSearch a (.ref x) (thash P w k) true) Q E s := by
  have hrm := W.rm
  obtain ⟨K, hKf, hK, hKb⟩ := W.tb.first (by rw [List.length_map]; omega) (thash P w k)
  obtain ⟨p0, h0, hk0⟩ := List.mem_map.mp hm
  obtain ⟨i0, hi0, e0⟩ := List.getElem_of_mem h0
  have h00 : L[i0]? = some p0 := by rw [List.getElem?_eq_getElem hi0, e0]
  have hh : (L.map fun p => thash P w p.2)[i0]? = some (thash P w k) := by rw [List.getElem?_map, h00, ← hk0] <;> rfl
  have hil : i0 < t.place.toList.length := by
    have h2 : t.place.size = L.length := by simpa using W.tb.sz
    rw [Array.length_toList]
    omega
  obtain ⟨c, hc, e⟩ := W.tb.before hK hh (List.getElem?_eq_getElem hil)
  have hbig : K < 100000 := by
    have : 10 * SetTable.turns t.mask ≤ 1420 := by
      unfold SetTable.turns
      rcases W.tb.mok with e | e | e <;> omega
    omega
  unfold setSearch
  exact find_w W hx hu h00 hk0 (by rw [List.getElem?_eq_getElem hil, e]) hKf hc hK hKb q 100000 0 none rfl (Nat.zero_le _) (by omega)
theorem add_w (W : SetW P w s.heap a L es ep t) {x : Addr} {k : List Int} (hx : IsT P w s.heap k x) (hu : A.units < cLine) (hcap : k ∉ L.map (·.2) → L.length < 64) {Q : Bool → Shared → Prop}
    (hQ : ∀ b h' L' es' ep' t', Heap.SameBut a s.heap h' → SetW P w h' a L' es' ep' t' → (k ∈ L.map (·.2) → L' = L) → (k ∉ L.map (·.2) → L'.Perm ((x, k) :: L)) → Q b { s with heap := h' }) :
    wpAny (model P w) A (setAddHashed a (.ref x) (thash P w k)) Q E s := by
  by_cases hfew : L.length + 1 < 64
  · exact add_at (W.small (by omega)) hx hu hfew fun b h' L' es' ep' t' sb R c1 c2 => hQ b h' L' es' ep' t' sb (SetW.of R) c1 c2
  obtain ⟨o, ho, hex, hd⟩ := W.at_
  have hn := W.num
  have hrm := W.rm
  unfold setAddHashed
  refine wpAny_holding ?_
  rw [show (100000 : Nat) = 99999 + 1 from rfl, setAddHashedIn_succ]
  refine wpAny_bind (wpAny_setState_of ho hd W.fit ?_)
  dsimp only
  refine wp_if_neg (by simp [byScan, Value.scannable]) ?_
  try refine wpAny_bind (wpAny_pure ?_)
  by_cases hm : k ∈ L.map (·.2)
  · refine wpAny_bind (there_w W hx hu hm ?_)
    dsimp only
    exact wpAny_pure (hQ false s.heap L es ep t (Heap.SameBut.refl a s.heap) W (fun _ => rfl) fun z => absurd hm z)
  · have hl := hcap hm
    have hl63 : L.length = 63 := by omega
    refine wpAny_bind (search_at (W.small hl) hx hu (fun z => absurd z hm) fun K _ hK hb => ?_)
    dsimp only
    refine wpAny_bind (wpAny_setState_of ho hd W.fit ?_)
    dsimp only
    obtain ⟨q1, q2, q3, q4, q5, q6, q7, q8, q9⟩ := W.tb.put hK hb
    have hpl : (t.put (way t.mask (thash P w k) K)).1.plain = true := by rw [q6]; exact W.pl
    generalize hpt : t.put (way t.mask (thash P w k) K) = pt at q1 q3 q4 q5 q6 q7 q8 q9 hpl ⊢
    obtain ⟨t1, j⟩ := pt
    dsimp only at q1 q3 q4 q5 q6 q7 q8 q9 hpl ⊢
    subst q1
    first
      | (refine wpAny_bind ?_; refine wp_if_pos hpl ?_; refine hashBy_tup hx ?_)
      | refine wp_if_pos hpl (wpAny_bind (hashBy_tup hx ?_))
    simp only [if_true]
    have hin : (SetTable.insertAt es (SetTable.below t.place (way t.mask (thash P w k) K)) (thash P w k, Value.ref x)).toList = rowsOf P w (L.take (SetTable.below t.place (way t.mask (thash P w k) K)) ++ (x, k) :: L.drop (SetTable.below t.place (way t.mask (thash P w k) K))) := by
      rw [SetTable.toList_insertAt, rows_put, W.es_]
    generalize hpp : SetTable.below t.place (way t.mask (thash P w k) K) = j at q2 q3 hin ⊢
    have pm := put_perm L j (x, k)
    have hlen : (L.take j ++ (x, k) :: L.drop j).length = L.length + 1 := pm.length_eq
    rw [← List.map_drop, ← List.map_take, ← List.map_cons (f := fun p : Addr × List Int => thash P w p.2) (a := (x, k)), ← List.map_append] at q3
    have nd1 : ((L.take j ++ (x, k) :: L.drop j).map (·.2)).Nodup := (pm.map (·.2)).nodup_iff.mpr (List.nodup_cons.mpr ⟨hm, W.no2⟩)
    generalize SetTable.insertAt es j (thash P w k, Value.ref x) = es1 at hin ⊢
    generalize L.take j ++ (x, k) :: L.drop j = L1 at pm hlen q3 nd1 hin
    have hes : es1.size = L.length + 1 := by
      have e := congrArg List.length hin
      unfold rowsOf at e
      rw [Array.length_toList, List.length_map, hlen] at e
      exact e
    refine wpAny_bind (wpAny_storeSet_of ho hd ?_ (by rw [hes, sizeLine_eq]; omega))
    have sb : Heap.SameBut a s.heap (s.heap.update a (Obj.putSet es1 t1)) := Heap.SameBut.update ..
    have ho1 := store_at (es' := es1) (t' := t1) ho hd
    generalize s.heap.update a (Obj.putSet es1 t1) = h1 at sb ho1 ⊢
    have hmask : t.mask = 127 := by
      rcases W.tb.mok with e | e | e
      · rw [e] at hrm; omega
      · rw [e] at hrm; omega
      · exact e
    have nf : t1.tooFull = false := by
      unfold SetTable.tooFull
      rw [q9, q4, hmask, List.length_map]
      exact decide_eq_false (by omega)
    first
      | refine wp_if_neg (by simp [nf]) ?_
      | (refine wpAny_bind ?_; refine wp_if_neg (by simp [nf]) ?_; refine wpAny_pure ?_)
    refine wpAny_pure (hQ true h1 L1 es1 (ep + 1) t1 sb ⟨⟨_, ho1, ⟨hex.1, hex.2.1, hex.2.2⟩, rfl⟩, hin, q3, nd1, fun p hp => ?_, hpl, by rw [q5]; exact W.ld, by rw [hlen, q4, hmask]; omega, by omega⟩ (fun z => absurd z hm) fun _ => pm)
    rcases List.mem_cons.mp (pm.mem_iff.mp hp) with e | hp
    · rw [e]; exact isT_same hx ho hd sb
    · exact isT_same (W.isT p hp) ho hd sb
theorem SetW.keep {h h' : Heap} (W : SetW P w h a L es ep t) (ha : ∀ o, h.get? a = some o → h'.get? a = some o) (ht : ∀ p ∈ L, IsT P w h' p.2 p.1) : SetW P w h' a L es ep t :=
  let ⟨o, ho, r⟩ := W.at_
  ⟨⟨o, ha o ho, r⟩, W.es_, W.tb, W.no2, ht, W.pl, W.ld, W.rm, W.le⟩
/-- no more than 64 different keys -/
def Cap (ks : List (Addr × List Int)) : Prop := ∀ l : List (List Int), l.Nodup → (∀ k ∈ l, k ∈ ks.map (·.2)) → l.length ≤ 64
theorem Cap.room {ks : List (Addr × List Int)} (c : Cap ks) {i : Nat} {p : Addr × List Int} (g : L2.Got ks i L) (n : (L.map (·.2)).Nodup) (hp : p ∈ ks) (hm : p.2 ∉ L.map (·.2)) : L.length < 64 := by
  have h := c (p.2 :: L.map (·.2)) (List.nodup_cons.mpr ⟨hm, n⟩) fun k hk => by
    rcases List.mem_cons.mp hk with e | hk
    · rw [e]; exact List.mem_map.mpr ⟨p, hp, rfl⟩
    · obtain ⟨r, hr, rfl⟩ := List.mem_map.mp hk
      exact List.mem_map.mpr ⟨r, List.mem_of_mem_take (g.sub r hr), rfl⟩
  simp at h
  omega
theorem update_w {I : Addr} {fp wr : List Addr} {G : Array GenState → Array GenState → Prop} {n : Nat} {Pv : Nat → Value → Prop} {St : Nat → Shared → Prop} {R : Result → Shared → Prop} (Wk : WalksS P w A.in1 I fp wr G n Pv St) (S : Addr) (nS : S ∉ fp) (ks : List (Addr × List Int)) (hn : n = ks.length) (cap : Cap ks)
    (hval : ∀ i v, Pv i v → ∃ p, ks[i]? = some p ∧ v = .ref p.1) (h0 : Heap) (hk : ∀ p ∈ ks, IsT P w h0 p.2 p.1) (hS0 : h0.get? S = none) (hw0 : ∀ b ∈ wr, h0.get? b = none) (hu : A.in1.units < cLine) :
    ∀ (m i : Nat) (s : Shared), n - i = m → i ≤ n → St i s → (∀ b o, h0.get? b = some o → s.heap.get? b = some o) → (∃ L es ep t, SetW P w s.heap S L es ep t ∧ L2.Got ks i L) →
      (∀ s' L es ep t, Moved (S :: wr) G s s' → SetW P w s'.heap S L es ep t → L2.Got ks n L → (∀ b o, h0.get? b = some o → s'.heap.get? b = some o) → R (.ok (.ret .none)) s') →
      codeAny (model P w) A (.builtin "set.update.loop" ⟨[.ref S, .ref I], []⟩) R s := by
  have old : ∀ {s s' : Shared}, Moved wr G s s' → (∀ b o, h0.get? b = some o → s.heap.get? b = some o) → ∀ b o, h0.get? b = some o → s'.heap.get? b = some o := fun hm hkp b o e =>
    hm.heap b o (fun hb => by rw [hw0 b hb] at e; cases e) (hkp b o e)
  have wide : ∀ b ∈ wr, b ∈ S :: wr := fun b hb => List.mem_cons_of_mem _ hb
  intro m
  induction m with
  | zero =>
    intro i s hm hi hst hkp ⟨L, es, ep, t, hS, g⟩ hR
    obtain rfl : i = n := by omega
    refine codeAny_builtin F.entry_set_update_loop ?_
    rw [Around.under_plainId F.plain_set_update_loop _]
    show wpAny _ A.in1 (pyNext (.ref I) >>= _) _ _ s
    refine wpAny_bind (Wk.done s _ _ hst fun s' mv => ?_)
    show wpAny _ A.in1 (ret Value.none) _ _ s'
    have kp := old mv hkp
    exact wpAny_pure (hR s' L es ep t (mv.mono wide) (hS.keep (fun o e => mv.heap S o (fun h => nS (Wk.sub _ h)) e) fun p hp => isT_keep (hk p (List.mem_of_mem_take (g.sub p hp))) kp) g kp)
  | succ m ih =>
    intro i s hm hi hst hkp ⟨L, es, ep, t, hS, g⟩ hR
    have hlt : i < n := by omega
    refine codeAny_builtin F.entry_set_update_loop ?_
    rw [Around.under_plainId F.plain_set_update_loop _]
    show wpAny _ A.in1 (pyNext (.ref I) >>= _) _ _ s
    refine wpAny_bind (Wk.item i s _ _ hlt hst fun v s' hP hst' mv => ?_)
    obtain ⟨p, hp, rfl⟩ := hval i v hP
    have kp := old mv hkp
    have hS' : SetW P w s'.heap S L es ep t := hS.keep (fun o e => mv.heap S o (fun h => nS (Wk.sub _ h)) e) fun r hr => isT_keep (hk r (List.mem_of_mem_take (g.sub r hr))) kp
    have hx : IsT P w s'.heap p.2 p.1 := isT_keep (hk p (List.mem_of_getElem? hp)) kp
    show wpAny _ A.in1 (holding [Value.ref p.1] (setAdd S (.ref p.1)) >>= _) _ _ s'
    refine wpAny_bind (wpAny_holding ?_)
    unfold setAdd
    refine wpAny_holding ?_
    refine wpAny_bind (wpAny_pyHash_tuple hu hx ?_)
    refine add_w (s := { s' with toks := s'.toks + (p.2.length + 1) }) hS' hx hu (fun hm' => cap.room g hS'.no2 (List.mem_of_getElem? hp) hm') fun b h' L' es' ep' t' sb W2 c1 c2 => ?_
    have g' : L2.Got ks (i + 1) L' := by
      by_cases c : p.2 ∈ L.map (·.2)
      · rw [c1 c]; exact g.same hp c
      · exact g.more hp (c2 c)
    have kp2 : ∀ b o, h0.get? b = some o → h'.get? b = some o := fun b o e => (sb.2 b (fun z => by rw [z, hS0] at e; cases e)).trans (kp b o e)
    refine wpAny_pure ⟨plainId_quiet F.plain_set_update_loop _, ih (i + 1) _ (by omega) hlt (Wk.frame _ s' _ _ hst' (Nat.le_add_right _ _) fun b hb o e => ?_) kp2 ⟨L', es', ep', t', W2, g'⟩ fun s'' L2' es2 ep2 t2 mv2 W3 g3 kp3 => ?_⟩
    · rw [sb.2 b (fun z : b = S => nS (by rw [← z]; exact hb))]; exact e
    · refine hR s'' L2' es2 ep2 t2 (Moved.trans Wk.gtrans ((mv.mono wide).then_heap (Nat.le_add_right _ _) fun b o hb e => ?_) mv2) W3 g3 kp3
      rw [sb.2 b (fun z : b = S => hb (by rw [z]; exact List.mem_cons_self))]; exact e
/-- the new set -/
abbrev oSet0 (w : World) : Obj := { cls := .type "set", dict := none, data := .set #[] 0 (.fresh 0 0 (!w.params.followText "set-order")) }
theorem above_none {h : Heap} {b : Addr} (hb : h.objs.size ≤ b) : h.get? b = none := by
  cases q : h.get? b with
  | none => rfl
  | some o => exact absurd (Nat.lt_of_lt_of_le (Heap.lt_size q) hb) (Nat.lt_irrefl _)
set_option maxHeartbeats 6400000 in
/-- set(xs), xs a list of tuples -/
theorem set_w {l : Addr} {items : Array Value} (ks : List (Addr × List Int)) {Q : Value → Shared → Prop} (hh : A.handled = none) (hl : s.heap.IsList l items) (hit : items.toList = ks.map fun p => Value.ref p.1) (hk : ∀ p ∈ ks, IsT P w s.heap p.2 p.1) (cap : Cap ks) (hu : A.units + 3 < cLine)
    (h : ∀ (h' : Heap) (tk : Nat) L es ep t, SetW P w h' s.heap.objs.size L es ep t → L2.Got ks ks.length L → (∀ b o, s.heap.get? b = some o → h'.get? b = some o) → Q (.ref s.heap.objs.size) { s with heap := h', toks := tk }) :
    wpAny (model P w) A (call (.type "set") [.ref l]) Q E s := by
  have hisz : items.size = ks.length := by simpa using congrArg List.length hit
  have hlS : l < s.heap.objs.size := let ⟨_, e, _⟩ := hl; Heap.lt_size e
  have hS : (s.heap.push (oSet0 w)).get? s.heap.objs.size = some (oSet0 w) := Heap.get?_push_size _ rfl
  have hT : Shared.TypeIs { s with heap := s.heap.push (oSet0 w) } (.ref s.heap.objs.size) "set" := ⟨_, hS, rfl⟩
  obtain ⟨c, tl, hmro⟩ := F.called_set.mro
  have hmade := F.called_set.made
  have hsub := F.called_set.sub
  refine wpAny_call (codeAny_of_tree ?_)
  show wpAny _ _ (callAny (.type "set") _) _ _ _
  refine wpAny_pure ⟨Code.quiet_builtin _ (by decide +kernel), codeAny_builtin F.entry_type_call ?_⟩
  rw [Around.under_plain (weight_type_call_type "set" [.ref l] []) rfl]
  have h1 := F.called_set.notType
  have h2 := F.called_set.canCreate
  have hct := F.typeCall_set_1 (.ref l)
  repeat (any_goals (first | assumption | wp_step))
  refine codeAny_mono (code_set_led1 (.ref l) (E := E) (Q₁ := fun obj s₁ => obj = .ref s.heap.objs.size ∧ s₁ = { s with heap := s.heap.push (oSet0 w) }) ⟨rfl, rfl⟩) fun r s₁ hr => ?_
  cases r with
  | error e => exact hr
  | ok fl =>
    cases fl with
    | ret obj =>
      obtain ⟨rfl, rfl⟩ := hr
      have hli := F.called_set.init.lookup
      have hbi := F.called_set.init.bind (.ref s.heap.objs.size)
      repeat (any_goals (first | assumption | wp_step))
      refine codeAny_mono (codeAny_call_builtin (R := wants (fun r s₂ => r = .none ∧ ∃ h' tk L es ep t, s₂ = { s with heap := h', toks := tk } ∧ SetW P w h' s.heap.objs.size L es ep t ∧ L2.Got ks ks.length L ∧ (∀ b o, s.heap.get? b = some o → h'.get? b = some o)) E)
        F.called_set.init.plain F.entry_set_init (check_set_init_1 hT ?_)) fun r₂ s₂ hr₂ => ?_
      · obtain ⟨⟨ocls, odict, odata, oslots⟩, hol, hcl, nl, hdl⟩ := hl
        simp only at hcl hdl
        subst hcl; subst hdl
        have hol' : (s.heap.push (oSet0 w)).get? l = some { cls := .type "list", dict := odict, data := .seq items nl, slots := oslots } := Heap.get?_push_of_some _ hol
        have hsls := F.sub_list_set
        have hslf := F.sub_list_frozenset
        have hne : (Value.type "list" == Value.type "dict") = false := by decide
        have hl1 : (s.heap.push (oSet0 w)).IsList l items := ⟨_, hol', rfl, nl, rfl⟩
        unfold Builtin.«set.__init__» noKeywords Builtin.Frozenset.updateFrom
        generalize hPI : pyIter = PI
        wp_walk
        subst hPI
        refine wpAny_pyIter_list hl1 ?_
        refine wpAny_bind (wpAny_runValue ?_)
        have hh3 : A.in1.in1.in1.handled = none := by simp [hh]
        have hneI : l ≠ (s.heap.push (oSet0 w)).objs.size := by
          rw [Heap.size_push]; exact Nat.ne_of_lt (Nat.lt_succ_of_lt hlS)
        have hSf : s.heap.objs.size ∉ [(s.heap.push (oSet0 w)).objs.size, l] := by
          rw [Heap.size_push]
          simp only [List.mem_cons, List.not_mem_nil, or_false, not_or]
          exact ⟨Nat.ne_of_lt (Nat.lt_succ_self _), Nat.ne_of_gt hlS⟩
        refine update_w ((Walks.list hh3 _ l hneI items).toS) s.heap.objs.size hSf ks hisz cap (fun i v hv => ?_) s.heap hk (above_none (Nat.le_refl _)) (fun b hb => above_none (by rw [List.mem_singleton.mp hb, Heap.size_push]; exact Nat.le_succ _)) hu (items.size - 0) 0 _ (by omega) (Nat.zero_le _)
          ⟨⟨_, Heap.get?_push_size _ rfl, rfl, rfl⟩, (hl1.push _)⟩ (fun b o e => Heap.get?_push_of_some _ (Heap.get?_push_of_some _ e)) ⟨[], #[], 0, _, SetW.of (setTR_fresh (Heap.get?_push_of_some _ hS)), Got.zero ks⟩ fun s' L es ep t mv W g kp => ?_
        · have q : items.toList[i]? = some v := by rw [Array.getElem?_toList]; exact hv
          rw [hit, List.getElem?_map] at q
          obtain ⟨p, hp, e⟩ := Option.map_eq_some_iff.mp q
          exact ⟨p, hp, e.symm⟩
        · obtain ⟨h', g2, d', tk', os'⟩ := s'
          have eg : g2 = s.gens := mv.gens
          have ed : d' = s.drawn := mv.drawn
          have eo : os' = s.os := mv.os
          subst eg ed eo
          show wpAny _ _ _ _ _ _
          refine wpAny_pure ?_
          show wpAny _ _ (ret Value.none) _ _ _
          rw [hisz] at g
          exact wpAny_pure ⟨rfl, h', tk', L, es, ep, t, rfl, W, g, kp⟩
      · cases r₂ with
        | error e => exact hr₂
        | ok fl₂ =>
          cases fl₂ with
          | ret r =>
            obtain ⟨rfl, h', tk, L, es, ep, t, rfl, W, g, kp⟩ := hr₂
            repeat (any_goals (first | assumption | wp_step))
            exact h _ _ _ _ _ _ W g kp
          | _ => exact hr₂.elim
    | _ => exact hr.elim
end
end SL
set_option maxRecDepth 100000
set_option maxHeartbeats 4000000
/-! Layer S: sorted(set(..)). -/
namespace SL
open PySem PySem.Spec PyProof.Rows L2 PySem.W
section
variable {X : Cx} {T : Tab} {E : XK}
theorem sort_core {pins : List (Addr × Obj)} {σ : L2.St} {H : Hp} {s : Shared} {μ : List Addr} {st : Store} {E' : Value → Shared → Prop} (hcalm : X.calm = true) (hu : X.A.units + 70 < cLine) (I : Inv X pins σ H s) (S : Sto (gx X T) μ H st) {u : Value} (G : List D → Prop) (hG : ∀ ds, G ds → okSort st ds = true)
    (hcol : ∀ R : List Value → Shared → Prop, (∀ (s' : Shared) (us : List Value) (vs : List V) (ds : List D), (∀ b o, s.heap.get? b = some o → s'.heap.get? b = some o) → s'.gens = s.gens → s'.os = s.os → Vals vs us → DVs (gx X T) μ H vs ds → ds.length ≤ sizeLine → G ds → R us s') → wpAny (model X.prog X.w) X.A.in1 (collect u) R E' s)
    {Q : VK} (q : ∀ ds, G ds → ∀ p vs, H p = none → DVs (gx X T) μ H vs (sortD st ds) → Q (.ref p) (upd H p (.lst vs))) : wpAny (model X.prog X.w) X.A (call (.builtin "sorted") [u]) (EP X pins σ Q) E' s := by
  refine Calls.call_function_entry PyProof.Rows.kind_sorted PyProof.Rows.plain_sorted PyProof.Rows.entry_sorted (PyProof.Rows.args_sorted1 _) ?_
  unfold Builtin.«sorted»
  refine wpAny_bind (m := checkCount "sorted" 1 1 _) (wpAny_pure ?_)
  refine wpAny_bind (hcol _ fun s' us vs ds hk hg ho rv dv hz gd => ?_)
  have ok := hG ds gd
  simp only [okSort, Bool.and_eq_true, List.all_eq_true, Bool.or_eq_true] at ok
  obtain ⟨ok1, ok2, ok3⟩ := ok
  have hlu : us.length = ds.length := by rw [← rv.length, dv.length]
  have I1 : Inv X pins σ H s' := I.call' (ch := []) ho (Un.kept hk) (I.hok.kept hk) (by rw [hg]; exact I.bare) (fun _ z => nomatch z)
  clear hk hg ho
  obtain ⟨h', g', d', tk, os'⟩ := s'
  refine wpAny_bind (wpAny_newList ?_ (by rw [hlu]; exact hz))
  have hoL : (h'.push (seqObj "list" us.toArray 0)).get? h'.objs.size = some (seqObj "list" us.toArray 0) := Heap.get?_push_size _ rfl
  show wpAny _ _ _ _ _ (⟨h'.push (seqObj "list" us.toArray 0), g', d', tk, os'⟩ : Shared)
  have I2 : Inv X pins σ H (⟨h'.push (seqObj "list" us.toArray 0), g', d', tk, os'⟩ : Shared) := I1.kept (t' := tk) fun b o q => Heap.get?_push_of_some _ q
  have ee := each_of rv dv
  have ee2 : EachIs (fun u d => d ∈ ds ∧ ∃ x, RelV x u ∧ DV (gx X T) μ H x d) us ds := (each_mem ee).mono fun _ _ ⟨a, b⟩ => ⟨b, a⟩
  have er : EachIs (fun v b => ∃ as, Reads (sortingHeap (h'.push (seqObj "list" us.toArray 0)) h'.objs.size us) v (encS st b) as) us ds := ee2.mono fun u d ⟨hm, x, rx, dx⟩ => by
    have h1 := (ok1 d hm).1
    cases ep : pyD st d with
    | none => rw [ep] at h1; cases h1
    | some p =>
      obtain ⟨as, rd⟩ := Dp.reads I1 _ x u (pyD_ok S dx ep) rx
      refine ⟨as, ?_⟩
      have e1 : encS st d = p := by unfold encS; rw [ep]; rfl
      rw [e1]
      exact PyProof.Rows.Reads.keeps (fun b o q => sortingHeap_old (Nat.ne_of_lt (Heap.lt_size q)) (Heap.get?_push_of_some _ q)) rd
  have hal : AllAlike (ds.map (encS st)) := fun a ha b hb => by
    obtain ⟨x, hx, rfl⟩ := List.mem_map.mp ha
    obtain ⟨y, hy, rfl⟩ := List.mem_map.mp hb
    exact ok2 x hx y hy
  have hk2 : Sortable (ds.map (encS st)) := by
    rcases ok3 with o | o
    · refine .inl fun a ha => ?_
      obtain ⟨x, hx, rfl⟩ := List.mem_map.mp ha
      have := o x hx
      cases hh : encS st x with
      | tuple l =>
        cases l with
        | nil => rw [hh] at this; cases this
        | cons y r => exact ⟨y, r, rfl⟩
      | _ => rw [hh] at this; cases this
    · refine .inr fun a ha => ?_
      obtain ⟨x, hx, rfl⟩ := List.mem_map.mp ha
      have := o x hx
      refine ⟨fun z => ?_, fun l z => ?_⟩
      · rw [z] at this; cases this
      · rw [z] at this; cases this
  have hbd : ∀ b, b ∈ ds → X.A.in1.in1.units + (encS st b).depth < cLine := fun b hb => by
    have h1 := SeqAt.depth_of_shaped (ok1 b hb).2
    show X.A.units + 1 + 1 + _ < cLine
    omega
  refine wpAny_bind (wpAny_holding (wpAny_call_entry PyProof.Rows.slot_list_sort ⟨_, hoL, rfl⟩ PyProof.Rows.entry_list_sort
    (list_sort_vals (κ := dataKind (sortingHeap (h'.push (seqObj "list" us.toArray 0)) h'.objs.size us) (ds.map (encS st))) (s := (⟨h'.push (seqObj "list" us.toArray 0), g', d', tk, os'⟩ : Shared)) hoL
      (SortsAt.data (s := (⟨sortingHeap (h'.push (seqObj "list" us.toArray 0)) h'.objs.size us, g', d', tk, os'⟩ : Shared)) (each_map (R := fun v d => ∃ as, Reads (sortingHeap (h'.push (seqObj "list" us.toArray 0)) h'.objs.size us) v d as) (encS st) er) hal hk2 (bound_map hbd))
      (by rw [hlu]; exact hz) ⟨_, rfl, ?_⟩)
    (PyProof.Rows.args_list_sort _)))
  have eo := sortVals_data false ee er hal
  obtain ⟨ws, rw1, dw⟩ := each_back eo
  have hlo : ws.length ≤ sizeLine := by
    rw [dw.length, List.length_mergeSort]; exact hz
  obtain ⟨e', he'⟩ := PyProof.Rows.sortedHeap_at (vs := us) (out := (sortVals (dataKind (sortingHeap (h'.push (seqObj "list" us.toArray 0)) h'.objs.size us) (ds.map (encS st))) false us us).toArray) hoL
  refine wpAny_pure ⟨_, rfl, .ref h'.objs.size, upd H h'.objs.size (.lst ws), I1.laid (t' := tk) (fun b o q => ?_) (Nat.le_refl _) (show ObjOk X.prog X.w _ _ _ (.lst ws) from ⟨hlo, _, e', rw1, he'⟩), rfl, q ds gd _ ws (I1.hok.fresh (Nat.le_refl _)) dw⟩
  have hb : b < h'.objs.size := Heap.lt_size q
  rw [PyProof.Rows.sortedHeap_old (Nat.ne_of_lt hb) (by rw [size_push']; exact Nat.lt_succ_of_lt hb)]
  exact Heap.get?_push_of_some _ q
theorem enc_iT {st : Store} {k : List Int} : encS st (iT k) = .tuple (k.map PyData.int) := by
  have h1 : ∀ k : List Int, fzL (rfK st 0 6) (k.map SL.D.int) = some (k.map SL.D.int) := by
    intro k
    induction k with
    | nil => rfl
    | cons i k ih => simp [fzL, fzD, ih]
  have h2 : ∀ k : List Int, toPyL (k.map SL.D.int) = some (k.map PyData.int) := by
    intro k
    induction k with
    | nil => rfl
    | cons i k ih => simp [toPyL, toPy, ih]
  unfold encS pyD iT
  simp [fzD, h1, toPy, h2]
theorem toks_inj : ∀ {k l : List Int}, keyToksAll (k.map PyData.int) = keyToksAll (l.map PyData.int) → k = l
  | [], [], _ => rfl
  | [], _ :: _, h => by simp [keyToksAll] at h
  | _ :: _, [], h => by simp [keyToksAll] at h
  | a :: k, b :: l, h => by
    simp only [List.map_cons, keyToksAll, keyToks, List.cons.injEq, true_and, List.singleton_append, Sum.inl.injEq] at h
    rw [h.1, toks_inj h.2]
theorem sortD_perm {st : Store} {k l : List (List Int)} (h : k.Perm l) : sortD st (k.map iT) = sortD st (l.map iT) := by
  have tot := sortLe_total (listOrd itemOrd) false fun b : SL.D => keyToks (encS st b)
  have srt : ∀ m : List SL.D, (sortD st m).Pairwise fun a b => dataLe false (encS st) a b = true := fun m => List.pairwise_mergeSort (fun a b c => tot.trans a b c) (fun a b => by
    rcases tot.total a b with z | z
    · exact Bool.or_eq_true_iff.mpr (.inl z)
    · exact Bool.or_eq_true_iff.mpr (.inr z)) m
  refine List.Perm.eq_of_pairwise (le := fun a b => dataLe false (encS st) a b = true) (fun a b ha hb h1 h2 => ?_) (srt _) (srt _) ?_
  · have ma : a ∈ k.map iT := (List.mergeSort_perm (k.map iT) _).mem_iff.mp ha
    have mb : b ∈ l.map iT := (List.mergeSort_perm (l.map iT) _).mem_iff.mp hb
    obtain ⟨x, _, rfl⟩ := List.mem_map.mp ma
    obtain ⟨y, _, rfl⟩ := List.mem_map.mp mb
    have e : keyToks (encS st (iT x)) = keyToks (encS st (iT y)) := (listOrd itemOrd).total _ _ (by simpa [dataLe, sortLe] using h2) (by simpa [dataLe, sortLe] using h1)
    rw [enc_iT, enc_iT] at e
    simp only [keyToks] at e
    rw [toks_inj e]
  · exact ((List.mergeSort_perm _ _).trans (h.map iT)).trans (List.mergeSort_perm _ _).symm
theorem perm_back {α β : Type} {f : α → β} : ∀ {l m : List β}, l.Perm m → ∀ {L : List α}, m = L.map f → ∃ L1 : List α, L1.Perm L ∧ l = L1.map f := by
  intro l m h
  induction h with
  | nil => exact fun {L} e => ⟨[], by rw [List.map_eq_nil_iff.mp e.symm], rfl⟩
  | cons x _ ih =>
    intro L e
    cases L with
    | nil => cases e
    | cons y L =>
      simp only [List.map_cons, List.cons.injEq] at e
      obtain ⟨L1, p, q⟩ := ih e.2
      exact ⟨y :: L1, p.cons y, by rw [List.map_cons, e.1, q]⟩
  | swap x y l =>
    intro L e
    match L, e with
    | a :: b :: L, e =>
      simp only [List.map_cons, List.cons.injEq] at e
      exact ⟨b :: a :: L, List.Perm.swap .., by simp [e.1, e.2.1, e.2.2]⟩
    | [_], e => cases e
    | [], e => cases e
  | trans _ _ ih1 ih2 =>
    intro L e
    obtain ⟨L1, p1, q1⟩ := ih2 e
    obtain ⟨L2', p2, q2⟩ := ih1 q1
    exact ⟨L2', p2.trans p1, q2⟩
theorem okSort_sub {st : Store} {l m : List SL.D} (h : ∀ x ∈ l, x ∈ m) (ok : okSort st m = true) : okSort st l = true := by
  simp only [okSort, Bool.and_eq_true, List.all_eq_true, Bool.or_eq_true] at ok ⊢
  obtain ⟨o1, o2, o3⟩ := ok
  exact ⟨fun x hx => o1 x (h x hx), fun x hx y hy => o2 x (h x hx) y (h y hy), o3.imp (fun o x hx => o x (h x hx)) fun o x hx => o x (h x hx)⟩
theorem tups_of {g : Gx} {μ : List Addr} {H : Hp} : ∀ {xs : List SL.D} {vs : List V} {ks : List (List Int)}, DVs g μ H vs xs → tupsI xs = some ks → ∃ ps : List (Addr × List Int), vs = ps.map (fun p => V.ref p.1) ∧ ps.map (·.2) = ks ∧ ∀ p ∈ ps, TupAt g μ H p.1 (p.2.map V.int)
  | [], _, _, h, e => by
    cases h
    cases e
    exact ⟨[], rfl, rfl, fun p hp => by cases hp⟩
  | d :: xs, _, ks, h, e => by
    cases h with
    | cons h1 h2 =>
      cases h1 with
      | tup a1 a2 =>
        rename_i a vs ds
        unfold tupsI at e
        dsimp only at e
        cases q1 : intsOf ds with
        | none => rw [q1] at e; cases e
        | some k =>
          cases q2 : tupsI xs with
          | none => rw [q1, q2] at e; cases e
          | some r =>
            rw [q1, q2] at e
            cases e
            obtain ⟨ps, e1, e2, e3⟩ := tups_of h2 q2
            refine ⟨(a, k) :: ps, by rw [e1] <;> rfl, by rw [List.map_cons, e2], fun p hp => ?_⟩
            rcases List.mem_cons.mp hp with z | z
            · subst z
              rw [← ints_v a2 q1]
              exact a1
            · exact e3 p z
      | _ => simp [tupsI] at e
theorem ints_dvs {g : Gx} {μ : List Addr} {H : Hp} : ∀ ns : List Int, DVs g μ H (ns.map V.int) (ns.map SL.D.int)
  | [] => .nil
  | i :: ns => .cons (.int i) (ints_dvs ns)
theorem dvs_tups {g : Gx} {μ : List Addr} {H : Hp} : ∀ {L : List (Addr × List Int)}, (∀ p ∈ L, TupAt g μ H p.1 (p.2.map V.int)) → DVs g μ H (L.map fun p => V.ref p.1) (L.map fun p => iT p.2)
  | [], _ => .nil
  | p :: L, h => .cons (.tup (h p List.mem_cons_self) (ints_dvs p.2)) (dvs_tups fun q hq => h q (List.mem_cons_of_mem _ hq))
theorem dups_nodup : ∀ l : List (List Int), l.eraseDups.Nodup := by
  have key : ∀ (n : Nat) (l : List (List Int)), l.length ≤ n → l.eraseDups.Nodup := by
    intro n
    induction n with
    | zero =>
      intro l h
      rw [List.length_eq_zero_iff.mp (Nat.le_zero.mp h)]
      exact List.nodup_nil
    | succ n ih =>
      intro l h
      cases l with
      | nil => exact List.nodup_nil
      | cons a l =>
        rw [List.eraseDups_cons]
        refine List.nodup_cons.mpr ⟨fun m => ?_, ih _ (Nat.le_trans (List.length_filter_le _ _) (Nat.le_of_succ_le_succ h))⟩
        have m2 := List.mem_filter.mp (List.mem_eraseDups.mp m)
        simp at m2
  exact fun l => key l.length l (Nat.le_refl _)
theorem nodup_cap {ks : List (List Int)} (h : ks.eraseDups.length ≤ 64) (l : List (List Int)) (n : l.Nodup) (s : ∀ k ∈ l, k ∈ ks) : l.length ≤ 64 :=
  Nat.le_trans (n.length_le_of_subset fun k hk => List.mem_eraseDups.mpr (s k hk)) h
theorem se_sortset {e : Expr} {me : EM} {p p2 pos apos : Pos} (hu : X.A.units + 70 < cLine) (hc : X.calm = true) (hm : X.mg "sorted" = none) (hs : X.mg "set" = none) (ha : SE X T E e me) (hg : Gl X "sorted" := by rfl) (hg2 : Gl X "set" := by rfl)
    (na : starEach [e] X.env = (false, eval e X.env) :: starEach [] X.env := by rfl) :
    SE X T E (.Call (.Name "sorted" p) [.Call (.Name "set" p2) [e] [] apos] [] pos) (mCB bSortSet (aCons me aNil)) := by
  refine ⟨fun pins s σ H Q I h => ?_⟩
  obtain ⟨ρ, st, μ, r0, S0, A0⟩ := h
  have z : mCB bSortSet (aCons me aNil) ρ st = (me ρ st).bind fun d st1 => bSortSet [d] st1 := by
    unfold mCB aCons
    cases me ρ st <;> rfl
  have A1 : After (gx X T) μ H Q E ((me ρ st).bind fun d st1 => bSortSet [d] st1) := by rw [← z]; exact A0
  refine Call_ (ld_blt I hg hm PyProof.Rows.boot_sorted ?_)
  refine PyProof.Rows.callWith_builtin1 (PyProof.Rows.args_cons ?_ rfl) rfl rfl
  refine Call_ (ld_blt I hg2 hs PyProof.Rows.boot_set ?_)
  refine PyProof.Rows.callWith_type1 (PyProof.Rows.args_cons (thn (ha.run pins s σ H _ I ⟨ρ, st, μ, r0, S0, AfterG.bind (Rl := fun μ H => DV (gx X T) μ H) A1⟩) fun v s1 ⟨x, H1, I1, r1, q1⟩ => PyProof.Rows.args_nil ?_) na) na rfl
  obtain ⟨d, st1, μ1, e1, S, dv, a⟩ := q1
  unfold bSortSet at a
  dsimp only at a
  cases hq : (lstOf st1 d).bind tupsI with
  | none => rw [hq] at a; exact a.elim
  | some ks =>
    rw [hq] at a
    dsimp only at a
    obtain ⟨xs, hxs, hks⟩ := Option.bind_eq_some_iff.mp hq
    by_cases c : okSort st1 (ks.eraseDups.map iT) = true ∧ ks.eraseDups.length ≤ 64
    · rw [if_pos c] at a
      obtain ⟨b, vs, rfl, hb, hv⟩ := lstOf_ok S dv hxs
      obtain ⟨ps, rfl, e2, ht⟩ := tups_of hv hks
      obtain rfl : v = Value.ref b := r1
      obtain ⟨its, rv, pl, hz⟩ := I1.list (.inl hb)
      have ei := refs_of_vals rv
      subst ei
      refine set_w ps (I1.ok.hd hc) pl.isList rfl (fun p hp => Inv.isT I1 (ht p hp).sq) (fun l n sub => nodup_cap c.2 l n (by rw [← e2]; exact sub)) (by omega) fun h' tk L es ep t W g kp => ?_
      refine PyProof.Rows.args_nil ?_
      have I2 : L2.Inv X pins σ H1 { s1 with heap := h', toks := tk } := I1.kept kp
      have inL : ∀ p ∈ L, p ∈ ps := fun p hp => List.mem_of_mem_take (g.sub p hp)
      have keys : (L.map (·.2)).Perm ks.eraseDups := by
        refine (List.perm_ext_iff_of_nodup W.no2 (dups_nodup ks)).mpr fun k => ⟨fun hk => ?_, fun hk => ?_⟩
        · obtain ⟨p, hp, rfl⟩ := List.mem_map.mp hk
          rw [List.mem_eraseDups, ← e2]
          exact List.mem_map.mpr ⟨p, inL p hp, rfl⟩
        · rw [List.mem_eraseDups, ← e2] at hk
          obtain ⟨p, hp, rfl⟩ := List.mem_map.mp hk
          exact g.all p (by rw [List.take_length]; exact hp)
      obtain ⟨o, ho, hex, hd⟩ := W.at_
      refine sort_core (T := T) (st := st1) hc hu I2 S (fun ds => ∃ L1 : List (Addr × List Int), L1.Perm L ∧ ds = L1.map fun p => iT p.2) (fun ds ⟨L1, p1, e⟩ => ?_) (fun R hR => ?_) (fun ds ⟨L1, p1, e⟩ p vs hp dw => ?_)
      · refine okSort_sub (fun y hy => ?_) c.1
        rw [e] at hy
        obtain ⟨r, hr, rfl⟩ := List.mem_map.mp hy
        exact List.mem_map.mpr ⟨r.2, keys.mem_iff.mp (List.mem_map.mpr ⟨r, p1.mem_iff.mp hr, rfl⟩), rfl⟩
      · refine collect_set (s := { s1 with heap := h', toks := tk }) (I2.ok.hd hc) ⟨o, ho, hex.1, hd⟩ W.fit (by have := W.num; have := W.le; unfold scanBound; omega) W.tb.ris W.ld fun s' out k1 hz1 g1 o1 pm => ?_
        have em : es.toList.map (·.2) = L.map fun p => Value.ref p.1 := by
          rw [W.es_]
          unfold L2.rowsOf
          rw [List.map_map] <;> rfl
        rw [em] at pm
        obtain ⟨L1, p1, rfl⟩ := perm_back pm rfl
        refine hR s' _ (L1.map fun p => V.ref p.1) _ k1 g1 o1 (vals_of_refs L1) (dvs_tups fun p hp => ht p (inL p (p1.mem_iff.mp hp))) ?_ ⟨L1, p1, rfl⟩
        rw [List.length_map, p1.length_eq]
        have := W.le
        rw [sizeLine_eq]
        omega
      · have ed : sortD st1 ds = sortD st1 (ks.eraseDups.map iT) := by
          rw [e]
          have e3 : (L1.map fun p => iT p.2) = (L1.map (·.2)).map iT := by rw [List.map_map] <;> rfl
          rw [e3]
          exact sortD_perm ((p1.map (·.2)).trans keys)
        rw [ed] at dw
        exact lst_now S a dw hp
    · rw [if_neg c] at a; exact a.elim
end
end SL
set_option maxRecDepth 100000
set_option maxHeartbeats 2000000
/-! Level 2: laws of the mirrors, no program in sight. -/
namespace SL
open PySem

/-! ### no ref from n on -/
mutual
def bnd (n : Nat) : D → Bool
  | .tup xs => bndL n xs
  | .lst xs => bndL n xs
  | .dic _ kvs => bndK n kvs
  | .obj _ xs => bndL n xs
  | .exc _ xs => bndL n xs
  | .ref i => decide (i < n)
  | _ => true
def bndL (n : Nat) : List D → Bool
  | [] => true
  | d :: ds => bnd n d && bndL n ds
def bndK (n : Nat) : List (D × D) → Bool
  | [] => true
  | (_, v) :: ds => bnd n v && bndK n ds
end
def bndM (n : Nat) : MO → Bool
  | .lst xs => bndL n xs
  | .dic _ kvs => bndK n kvs
  | .ins _ xs => bndL n xs
def clS (n : Nat) (st : Store) : Bool := st.all (bndM n)
section
variable {n : Nat} {rf : Nat → Option D}
mutual
theorem fzD_id (hr : ∀ i, i < n → rf i = some (.ref i)) : ∀ {d : D}, bnd n d = true → fzD rf d = some d
  | .non, _ => rfl
  | .bl _, _ => rfl
  | .int _, _ => rfl
  | .str _, _ => rfl
  | .tup xs, h => by simp only [fzD, fzL_id hr (show bndL n xs = true from h)]; rfl
  | .lst xs, h => by simp only [fzD, fzL_id hr (show bndL n xs = true from h)]; rfl
  | .dic _ kvs, h => by simp only [fzD, fzK_id hr (show bndK n kvs = true from h)]; rfl
  | .obj _ xs, h => by simp only [fzD, fzL_id hr (show bndL n xs = true from h)]; rfl
  | .exc _ xs, h => by simp only [fzD, fzL_id hr (show bndL n xs = true from h)]; rfl
  | .fn _, _ => rfl
  | .ref i, h => hr i (of_decide_eq_true h)
theorem fzL_id (hr : ∀ i, i < n → rf i = some (.ref i)) : ∀ {ds : List D}, bndL n ds = true → fzL rf ds = some ds
  | [], _ => rfl
  | d :: ds, h => by
    have h2 : (bnd n d && bndL n ds) = true := h
    rw [Bool.and_eq_true] at h2
    simp only [fzL, fzD_id hr h2.1, fzL_id hr h2.2]
theorem fzK_id (hr : ∀ i, i < n → rf i = some (.ref i)) : ∀ {ds : List (D × D)}, bndK n ds = true → fzK rf ds = some ds
  | [], _ => rfl
  | (k, v) :: ds, h => by
    have h2 : (bnd n v && bndK n ds) = true := h
    rw [Bool.and_eq_true] at h2
    simp only [fzK, fzD_id hr h2.1, fzK_id hr h2.2]
end
theorem fzM_id (hr : ∀ i, i < n → rf i = some (.ref i)) {o : MO} (h : bndM n o = true) : fzM rf o = some o := by
  cases o with
  | lst xs => simp only [fzM, fzL_id hr (show bndL n xs = true from h)]; rfl
  | dic t kvs => simp only [fzM, fzK_id hr (show bndK n kvs = true from h)]; rfl
  | ins c xs => simp only [fzM, fzL_id hr (show bndL n xs = true from h)]; rfl
theorem fzS_id (hr : ∀ i, i < n → rf i = some (.ref i)) : ∀ {st : Store}, clS n st = true → fzS rf st = some st
  | [], _ => rfl
  | o :: st, h => by
    have h2 : (bndM n o && clS n st) = true := h
    rw [Bool.and_eq_true] at h2
    simp only [fzS, fzM_id hr h2.1, fzS_id hr h2.2]
theorem rfK_id {st : Store} : ∀ (k i : Nat), i < n → rfK st n k i = some (.ref i)
  | 0, i, h => by simp [rfK, h]
  | k + 1, i, h => by simp [rfK, h]
end
/-- data comes out as it is -/
theorem close_id {n : Nat} {d : D} {st : Store} (hd : bnd n d = true) (hs : clS n (st.take n) = true) : closeR n (.ok d st) = .ok d (st.take n) := by
  simp only [closeR, fzD_id (rfK_id 6) hd, fzS_id (rfK_id 6) hs]
/-- a list of the def's own comes out as data -/
theorem close_lst {n i : Nat} {ds : List D} {st : Store} (hi : n ≤ i) (e : st[i]? = some (.lst ds)) (hd : bndL n ds = true) (hs : clS n (st.take n) = true) : closeR n (.ok (.ref i) st) = .ok (.lst ds) (st.take n) := by
  have h1 : rfK st n 6 i = some (.lst ds) := by
    rw [rfK, if_neg (by omega), e]
    dsimp only
    rw [fzL_id (rfK_id 5) hd]
    rfl
  simp only [closeR, fzD, h1, fzS_id (rfK_id 6) hs]
theorem close_dic {n i : Nat} {t : Bool} {kvs : List (D × D)} {st : Store} (hi : n ≤ i) (e : st[i]? = some (.dic t kvs)) (hd : bndK n kvs = true) (hs : clS n (st.take n) = true) : closeR n (.ok (.ref i) st) = .ok (.dic t kvs) (st.take n) := by
  have h1 : rfK st n 6 i = some (.dic t kvs) := by
    rw [rfK, if_neg (by omega), e]
    dsimp only
    rw [fzK_id (rfK_id 5) hd]
    rfl
  simp only [closeR, fzD, h1, fzS_id (rfK_id 6) hs]
theorem close_exn {n c : Nat} {fs : List D} {st : Store} (hd : bndL n fs = true) (hs : clS n (st.take n) = true) : closeR n (.exn c fs st) = .exn c fs (st.take n) := by
  simp only [closeR, fzL_id (rfK_id 6) hd, fzS_id (rfK_id 6) hs]
/-! ### a def's end -/
section
variable {N : Nat} {m : SM} {ds : List D} {st st' : Store} {ρ : Env} {d : D}
theorem fn_ret (h : m (startE N ds) st = .ok (.rt d, ρ) st') (hd : bnd st.length d = true) (hs : clS st.length (st'.take st.length) = true) : fnB N m ds st = .ok d (st'.take st.length) := by
  unfold fnB
  rw [h]
  exact close_id hd hs
theorem fn_nx (h : m (startE N ds) st = .ok (.nx, ρ) st') (hs : clS st.length (st'.take st.length) = true) : fnB N m ds st = .ok .non (st'.take st.length) := by
  unfold fnB
  rw [h]
  exact close_id rfl hs
theorem fn_exn {c : Nat} {fs : List D} (h : m (startE N ds) st = .exn c fs st') (hd : bndL st.length fs = true) (hs : clS st.length (st'.take st.length) = true) : fnB N m ds st = .exn c fs (st'.take st.length) := by
  unfold fnB
  rw [h]
  exact close_exn hd hs
/-- a def that leaves the store -/
theorem fn_pure (h : m (startE N ds) st = .ok (.rt d, ρ) st) (hd : bnd st.length d = true) (hs : clS st.length st = true) : fnB N m ds st = .ok d st := by
  have z := fn_ret h hd (by rw [List.take_length]; exact hs)
  rwa [List.take_length] at z
theorem fn_pureN (h : m (startE N ds) st = .ok (.nx, ρ) st) (hs : clS st.length st = true) : fnB N m ds st = .ok .non st := by
  have z := fn_nx h (by rw [List.take_length]; exact hs)
  rwa [List.take_length] at z
end
/-! ### running on -/
theorem bind_ok {α β : Type} {a : α} {st : Store} {f : α → Store → Res β} : (Res.ok a st).bind f = f a st := rfl
theorem bind_exn {α β : Type} {c : Nat} {fs : List D} {st : Store} {f : α → Store → Res β} : (Res.exn c fs st : Res α).bind f = .exn c fs st := rfl
/-- r is there and Q holds -/
inductive sat {α : Type} : Res α → (α → Store → Prop) → Prop
  | ok {a : α} {st : Store} {Q : α → Store → Prop} : Q a st → sat (.ok a st) Q
theorem sat_ok {α : Type} {a : α} {st : Store} {Q : α → Store → Prop} (h : Q a st) : sat (.ok a st) Q := .ok h
theorem sat_of {α : Type} {a : α} {st : Store} {Q : α → Store → Prop} (h : sat (.ok a st) Q) : Q a st := by
  cases h with | ok h => exact h
theorem sat_bind {α β : Type} {r : Res α} {f : α → Store → Res β} {P : α → Store → Prop} {Q : β → Store → Prop} (h : sat r P) (k : ∀ a st, P a st → sat (f a st) Q) : sat (r.bind f) Q := by
  cases h with | ok h => exact k _ _ h
theorem sat_mono {α : Type} {r : Res α} {P Q : α → Store → Prop} (h : sat r P) (k : ∀ a st, P a st → Q a st) : sat r Q := by
  cases h with | ok h => exact .ok (k _ _ h)
theorem sat_iff {α : Type} {r : Res α} {Q : α → Store → Prop} : sat r Q ↔ ∃ a st, r = .ok a st ∧ Q a st := by
  constructor
  · intro h
    cases h with | ok h => exact ⟨_, _, rfl, h⟩
  · rintro ⟨a, st, rfl, h⟩
    exact .ok h
theorem sat_eq {α : Type} {r : Res α} (h : sat r fun _ _ => True) : ∃ a st, r = .ok a st := by
  cases h with | ok h => exact ⟨_, _, rfl⟩
/-! ### sources -/
/-- while G holds of the store, src yields xs -/
def Stat (G : Store → Prop) (src : Src) (xs : List D) : Prop := ∀ k st, G st → k ≤ xs.length → src k st = some xs[k]?
theorem stat_s {G : Store → Prop} {xs : List D} : Stat G (statS xs) xs := fun _ _ _ _ => rfl
theorem stat_rng {G : Store → Prop} {lo : Int} {n : Nat} : Stat G (rngS lo n) ((List.range n).map fun (k : Nat) => D.int (lo + k)) := fun k st _ _ => by
  unfold rngS
  by_cases h : k < n
  · rw [if_pos h, List.getElem?_map, List.getElem?_range h]
    rfl
  · rw [if_neg h, List.getElem?_eq_none (by simpa using h)]
theorem stat_enum {G : Store → Prop} {L : Lsrc} {ds : List D} (h : ∀ st, G st → L st = some ds) : Stat G (enumS L) (ds.mapIdx fun k d => .tup [.int k, d]) := fun k st g hk => by
  unfold enumS
  rw [h st g]
  dsimp only
  rw [List.getElem?_mapIdx]
  rw [List.length_mapIdx] at hk
  by_cases c : k < ds.length
  · rw [List.getElem?_eq_getElem c]
    rfl
  · rw [List.getElem?_eq_none (by omega)]
    dsimp only
    rw [if_pos (by omega)]
    rfl
theorem stat_zip {G : Store → Prop} {L M : Lsrc} {ds es : List D} (h : ∀ st, G st → L st = some ds) (h2 : ∀ st, G st → M st = some es) : Stat G (zipS L M) (List.zipWith (fun x y => .tup [x, y]) ds es) := fun k st g hk => by
  unfold zipS
  rw [h st g, h2 st g]
  dsimp only
  rw [List.length_zipWith] at hk
  rw [List.getElem?_zipWith]
  by_cases c : k < ds.length
  · by_cases c2 : k < es.length
    · rw [List.getElem?_eq_getElem c, List.getElem?_eq_getElem c2]
    · rw [List.getElem?_eq_getElem c, List.getElem?_eq_none (by omega)]
      dsimp only
      rw [if_pos (by omega)]
  · rw [List.getElem?_eq_none (show ds.length ≤ k by omega)]
    dsimp only
    rw [if_pos (by omega)]
/-! ### loops -/
theorem for_sat {G : Store → Prop} {src : Src} {xs : List D} {tg : GM} {b : SM} (I : Nat → Env → Store → Prop) (R : D → Store → Prop) (hs : Stat G src xs) (hG : ∀ k ρ st, I k ρ st → G st) {Q : Fl × Env → Store → Prop}
    (step : ∀ k d ρ st, xs[k]? = some d → I k ρ st → sat ((tg d ρ st).bind fun ρ1 st1 => b ρ1 st1) fun r st2 => match r with
      | (.nx, ρ2) => I (k + 1) ρ2 st2
      | (.ct, ρ2) => I (k + 1) ρ2 st2
      | (.bk, ρ2) => Q (.nx, ρ2) st2
      | (.rt d, ρ2) => Q (.rt d, ρ2) st2)
    (fin : ∀ ρ st, I xs.length ρ st → Q (.nx, ρ) st) :
    ∀ (f k : Nat) (ρ : Env) (st : Store), k ≤ xs.length → xs.length - k < f → I k ρ st → sat (forGo src tg b f k ρ st) Q := by
  intro f
  induction f with
  | zero => intro k ρ st _ h _; exact absurd h (Nat.not_lt_zero _)
  | succ f ih =>
    intro k ρ st hk hf hI
    unfold forGo
    rw [hs k st (hG k ρ st hI) hk]
    by_cases c : k < xs.length
    · have e : xs[k]? = some xs[k] := List.getElem?_eq_getElem c
      rw [e]
      dsimp only
      have z := step k xs[k] ρ st e hI
      cases q : tg xs[k] ρ st with
      | ok ρ1 st1 =>
        rw [q] at z
        simp only [bind_ok] at z ⊢
        refine sat_bind z fun r st2 h2 => ?_
        obtain ⟨fl, ρ2⟩ := r
        cases fl with
        | nx => exact ih (k + 1) ρ2 st2 c (by omega) h2
        | ct => exact ih (k + 1) ρ2 st2 c (by omega) h2
        | bk => exact .ok h2
        | rt d => exact .ok h2
      | exn c fs st1 => rw [q] at z; exact nomatch z
      | bad => rw [q] at z; exact nomatch z
    · have e : k = xs.length := by omega
      subst e
      rw [List.getElem?_eq_none (Nat.le_refl _)]
      exact .ok (fin ρ st hI)
/-! ### comprehensions -/
theorem comp_sat {n : Nat} {G : Store → Prop} {src : Src} {xs : List D} {tg : TgM} {c : TM} {e : EM} {ρ0 : Env} (I : Nat → Store → List D → Prop) (hs : Stat G src xs) (hG : ∀ k base acc, I k base acc → G (base ++ [.lst acc])) (hlen : ∀ k base acc, I k base acc → base.length = n ∧ acc.length < sizeLine)
    (step : ∀ k d base acc, xs[k]? = some d → I k base acc → ∃ ρ1, tg d ρ0 = some ρ1 ∧ sat (c ρ1 (base ++ [.lst acc])) fun b st1 => ∃ base1, st1 = base1 ++ [.lst acc] ∧ base1.length = n ∧
      (b = false → I (k + 1) base1 acc) ∧ (b = true → sat (e ρ1 st1) fun y st2 => ∃ base2, st2 = base2 ++ [.lst acc] ∧ base2.length = n ∧ I (k + 1) base2 (acc ++ [y]))) :
    ∀ (f k : Nat) (base : Store) (acc : List D), k ≤ xs.length → xs.length - k < f → I k base acc → sat (compGo n src tg c e ρ0 f k (base ++ [.lst acc])) fun _ st' => ∃ base' acc', st' = base' ++ [.lst acc'] ∧ I xs.length base' acc' := by
  intro f
  induction f with
  | zero => intro k base acc _ h _; exact absurd h (Nat.not_lt_zero _)
  | succ f ih =>
    intro k base acc hk hf hI
    unfold compGo
    rw [hs k _ (hG k base acc hI) hk]
    by_cases cc : k < xs.length
    · have ex : xs[k]? = some xs[k] := List.getElem?_eq_getElem cc
      rw [ex]
      dsimp only
      obtain ⟨ρ1, t1, z⟩ := step k xs[k] base acc ex hI
      rw [t1]
      dsimp only
      refine sat_bind z fun b st1 ⟨base1, e1, l1, f1, f2⟩ => ?_
      cases b with
      | false =>
        rw [if_neg (by decide), e1]
        exact ih (k + 1) base1 acc cc (by omega) (f1 rfl)
      | true =>
        rw [if_pos rfl]
        refine sat_bind (f2 rfl) fun y st2 ⟨base2, e2, l2, h2⟩ => ?_
        subst e2
        have g1 : (base2 ++ [MO.lst acc])[n]? = some (.lst acc) := by
          rw [List.getElem?_append_right (by omega), l2, Nat.sub_self]
          rfl
        rw [g1]
        dsimp only
        rw [if_pos (hlen k base acc hI).2]
        have g2 : (base2 ++ [MO.lst acc]).set n (.lst (acc ++ [y])) = base2 ++ [.lst (acc ++ [y])] := by
          rw [List.set_append_right _ _ (by omega), l2, Nat.sub_self]
          rfl
        rw [g2]
        exact ih (k + 1) base2 (acc ++ [y]) cc (by omega) h2
    · have ek : k = xs.length := by omega
      subst ek
      rw [List.getElem?_eq_none (Nat.le_refl _)]
      exact .ok ⟨base, acc, rfl, hI⟩
theorem take_append_one {st : Store} {o : MO} : (st ++ [o]).take st.length = st := by simp
theorem bndL_of {n : Nat} : ∀ {ds : List D}, (∀ d ∈ ds, bnd n d = true) → bndL n ds = true
  | [], _ => rfl
  | d :: ds, h => by
    show (bnd n d && bndL n ds) = true
    rw [h d List.mem_cons_self, bndL_of fun x hx => h x (List.mem_cons_of_mem _ hx)]
    rfl
mutual
theorem bnd_mono {n m : Nat} (h : n ≤ m) : ∀ {d : D}, bnd n d = true → bnd m d = true
  | .non, _ => rfl
  | .bl _, _ => rfl
  | .int _, _ => rfl
  | .str _, _ => rfl
  | .fn _, _ => rfl
  | .tup xs, q => bndL_mono h (show bndL n xs = true from q)
  | .lst xs, q => bndL_mono h (show bndL n xs = true from q)
  | .dic _ xs, q => bndK_mono h (show bndK n xs = true from q)
  | .obj _ xs, q => bndL_mono h (show bndL n xs = true from q)
  | .exc _ xs, q => bndL_mono h (show bndL n xs = true from q)
  | .ref i, q => decide_eq_true (Nat.lt_of_lt_of_le (of_decide_eq_true (show decide (i < n) = true from q)) h)
theorem bndL_mono {n m : Nat} (h : n ≤ m) : ∀ {ds : List D}, bndL n ds = true → bndL m ds = true
  | [], _ => rfl
  | d :: ds, q => by
    have q2 : (bnd n d && bndL n ds) = true := q
    rw [Bool.and_eq_true] at q2
    show (bnd m d && bndL m ds) = true
    rw [bnd_mono h q2.1, bndL_mono h q2.2]
    rfl
theorem bndK_mono {n m : Nat} (h : n ≤ m) : ∀ {ds : List (D × D)}, bndK n ds = true → bndK m ds = true
  | [], _ => rfl
  | (k, v) :: ds, q => by
    have q2 : (bnd n v && bndK n ds) = true := q
    rw [Bool.and_eq_true] at q2
    show (bnd m v && bndK m ds) = true
    rw [bnd_mono h q2.1, bndK_mono h q2.2]
    rfl
end
theorem clS_mono {n m : Nat} (h : n ≤ m) {st : Store} (q : clS n st = true) : clS m st = true := by
  refine List.all_eq_true.mpr fun o ho => ?_
  have z := List.all_eq_true.mp q o ho
  cases o with
  | lst xs => exact bndL_mono h (show bndL n xs = true from z)
  | dic t xs => exact bndK_mono h (show bndK n xs = true from z)
  | ins c xs => exact bndL_mono h (show bndL n xs = true from z)
theorem clS_push {st : Store} {o : MO} (h : clS st.length st = true) (ho : bndM st.length o = true) : clS (st ++ [o]).length (st ++ [o]) = true := by
  have hl : st.length ≤ (st ++ [o]).length := by simp
  have h1 := clS_mono hl h
  unfold clS at h1 ⊢
  rw [List.all_append, h1]
  have h2 : bndM (st ++ [o]).length o = true := by
    cases o with
    | lst xs => exact bndL_mono hl (show bndL _ xs = true from ho)
    | dic t xs => exact bndK_mono hl (show bndK _ xs = true from ho)
    | ins c xs => exact bndL_mono hl (show bndL _ xs = true from ho)
  simp only [List.all_cons, List.all_nil, h2]
  rfl
/-- a comprehension that changes nothing, as data -/
theorem comp_pure {mi : IM} {tg : TgM} {c : TM} {e : EM} {vs : List Nat} {ρ : Env} {st : Store} {src : Src} {m : Nat} {xs : List D} (p : D → Bool) (f : D → D) (hi : mi ρ st = .ok (src, m) st) (hm : xs.length < m) (hs : Stat (fun _ => True) src xs) (hcl : clS st.length st = true) (hz : xs.length < sizeLine)
    (hb : ∀ d ∈ xs, p d = true → bnd st.length (f d) = true)
    (step : ∀ d ∈ xs, ∀ acc, clS (st ++ [MO.lst acc]).length (st ++ [MO.lst acc]) = true → ∃ ρ1, tg d (wipeE ρ vs) = some ρ1 ∧ c ρ1 (st ++ [.lst acc]) = .ok (p d) (st ++ [.lst acc]) ∧ (p d = true → e ρ1 (st ++ [.lst acc]) = .ok (f d) (st ++ [.lst acc]))) :
    closeE (mComp mi tg c e vs) ρ st = .ok (.lst ((xs.filter p).map f)) st := by
  have key := comp_sat (n := st.length) (G := fun _ => True) (src := src) (xs := xs) (tg := tg) (c := c) (e := e) (ρ0 := wipeE ρ vs) (fun k base acc => base = st ∧ acc = ((xs.take k).filter p).map f ∧ k ≤ xs.length) hs (fun _ _ _ _ => trivial) (fun k base acc ⟨h1, h2, h3⟩ => ⟨by rw [h1], by
      rw [h2, List.length_map]
      exact Nat.lt_of_le_of_lt (Nat.le_trans (List.length_filter_le _ _) (by rw [List.length_take]; omega)) hz⟩)
    (fun k d base acc ex ⟨h1, h2, h3⟩ => by
      subst h1
      have hd := List.mem_of_getElem? ex
      have hk : k < xs.length := (List.getElem?_eq_some_iff.mp ex).1
      have tk : xs.take (k + 1) = xs.take k ++ [d] := by rw [List.take_succ, ex]; rfl
      have hacc : bndL base.length acc = true := by
        rw [h2]
        refine bndL_of fun x hx => ?_
        obtain ⟨y, hy, rfl⟩ := List.mem_map.mp hx
        obtain ⟨y1, y2⟩ := List.mem_filter.mp hy
        exact hb y (List.mem_of_mem_take y1) y2
      obtain ⟨ρ1, t1, t2, t3⟩ := step d hd acc (clS_push hcl hacc)
      refine ⟨ρ1, t1, ?_⟩
      rw [t2]
      refine .ok ⟨base, rfl, rfl, fun hp => ⟨rfl, ?_, hk⟩, fun hp => ?_⟩
      · rw [tk, List.filter_append, h2]
        simp [hp]
      · rw [t3 hp]
        refine .ok ⟨base, rfl, rfl, rfl, ?_, hk⟩
        rw [tk, List.filter_append, h2]
        simp [hp]) m 0 st [] (Nat.zero_le _) (by omega) ⟨rfl, by simp, Nat.zero_le _⟩
  obtain ⟨u, st', e1, base', acc', e2, h1, h2, h3⟩ := sat_iff.mp key
  subst h1
  rw [List.take_length] at h2
  unfold closeE mComp
  rw [hi]
  simp only [bind_ok]
  rw [e1, e2]
  show closeR base'.length (.ok (.ref base'.length) (base' ++ [.lst acc'])) = _
  rw [close_lst (Nat.le_refl _) (ds := acc') (by rw [List.getElem?_append_right (Nat.le_refl _), Nat.sub_self]; rfl) (by
    rw [h2]
    refine bndL_of fun x hx => ?_
    obtain ⟨y, hy, rfl⟩ := List.mem_map.mp hx
    obtain ⟨y1, y2⟩ := List.mem_filter.mp hy
    exact hb y y1 y2) (by rw [take_append_one]; exact hcl), take_append_one, h2]
/-! ### steps -/
section
variable {ρ ρ1 : Env} {st st1 st2 : Store} {d d1 d2 : D} {ds : List D} {ma mb : EM} {am : AM} {F : CF} {n : Nat} {dds : List D} {r : Res D} {tm tk : TM} {b : Bool}
theorem a_cons (h : ma ρ st = .ok d st1) (h2 : am ρ st1 = .ok ds st2) : aCons ma am ρ st = .ok (d :: ds) st2 := by
  unfold aCons
  rw [h, bind_ok, h2, bind_ok]
theorem e_cb (h : am ρ st = .ok ds st1) (h2 : F ds st1 = r) : mCB F am ρ st = r := by
  unfold mCB
  rw [h, bind_ok, h2]
theorem e_call (h : am ρ st = .ok ds st1) (hn : (ds ++ dds).length = n) (h2 : F (ds ++ dds) st1 = r) : mCall (arity n F) dds am ρ st = r := by
  unfold mCall arity
  rw [h, bind_ok, if_pos hn, h2]
theorem e_bin {f : O2} (h : ma ρ st = .ok d1 st1) (h2 : mb ρ st1 = .ok d2 st2) (h3 : f d1 d2 st2 = r) : mBin f ma mb ρ st = r := by
  unfold mBin
  rw [h, bind_ok, h2, bind_ok, h3]
theorem e_un {f : D → Store → Res D} (h : ma ρ st = .ok d1 st1) (h3 : f d1 st1 = r) : mUn f ma ρ st = r := by
  unfold mUn
  rw [h, bind_ok, h3]
theorem e_and_t (h : ma ρ st = .ok (.bl true) st1) (h2 : mb ρ st1 = r) : mAnd ma mb ρ st = r := by
  unfold mAnd
  rw [h, bind_ok, h2]
theorem e_and_f (h : ma ρ st = .ok (.bl false) st1) : mAnd ma mb ρ st = .ok (.bl false) st1 := by
  unfold mAnd
  rw [h, bind_ok]
theorem e_or_t (h : ma ρ st = .ok (.bl true) st1) : mOr ma mb ρ st = .ok (.bl true) st1 := by
  unfold mOr
  rw [h, bind_ok]
theorem e_or_f (h : ma ρ st = .ok (.bl false) st1) (h2 : mb ρ st1 = r) : mOr ma mb ρ st = r := by
  unfold mOr
  rw [h, bind_ok, h2]
theorem e_not (h : ma ρ st = .ok (.bl b) st1) : mNot ma ρ st = .ok (.bl (!b)) st1 := by
  unfold mNot
  rw [h, bind_ok]
theorem e_tup (h : am ρ st = .ok ds st1) (hz : ds.length ≤ sizeLine) : mTup am ρ st = .ok (.tup ds) st1 := by
  unfold mTup
  rw [h, bind_ok, if_pos hz]
theorem e_lst (h : am ρ st = .ok ds st1) (hz : ds.length ≤ sizeLine) : mLst am ρ st = .ok (.lst ds) st1 := by
  unfold mLst
  rw [h, bind_ok, if_pos hz]
theorem t_test (h : ma ρ st = .ok (.bl b) st1) : mTest ma ρ st = .ok b st1 := by
  unfold mTest toB
  rw [h, bind_ok]
theorem t_not (h : tm ρ st = .ok b st1) : tmNot tm ρ st = .ok (!b) st1 := by
  unfold tmNot
  rw [h, bind_ok]
theorem t_and_t {q : Res Bool} (h : tm ρ st = .ok true st1) (h2 : tk ρ st1 = q) : tmAnd tm tk ρ st = q := by
  unfold tmAnd
  rw [h, bind_ok, if_pos rfl, h2]
theorem t_and_f (h : tm ρ st = .ok false st1) : tmAnd tm tk ρ st = .ok false st1 := by
  unfold tmAnd
  rw [h, bind_ok, if_neg (by decide)]
theorem t_or_t (h : tm ρ st = .ok true st1) : tmOr tm tk ρ st = .ok true st1 := by
  unfold tmOr
  rw [h, bind_ok, if_pos rfl]
theorem t_or_f {q : Res Bool} (h : tm ρ st = .ok false st1) (h2 : tk ρ st1 = q) : tmOr tm tk ρ st = q := by
  unfold tmOr
  rw [h, bind_ok, if_neg (by decide), h2]
theorem e_if_t (h : tm ρ st = .ok true st1) (h2 : ma ρ st1 = r) : mIf tm ma mb ρ st = r := by
  unfold mIf
  rw [h, bind_ok, if_pos rfl, h2]
theorem e_if_f (h : tm ρ st = .ok false st1) (h2 : mb ρ st1 = r) : mIf tm ma mb ρ st = r := by
  unfold mIf
  rw [h, bind_ok, if_neg (by decide), h2]
theorem s_ret (h : ma ρ st = .ok d st1) : sRet ma ρ st = .ok (.rt d, ρ) st1 := by
  unfold sRet
  rw [h, bind_ok]
theorem s_asg {g : GM} (h : ma ρ st = .ok d st1) (h2 : g d ρ st1 = .ok ρ1 st2) : sAsg ma g ρ st = .ok (.nx, ρ1) st2 := by
  unfold sAsg
  rw [h, bind_ok, h2, bind_ok]
theorem s_seq {m k : SM} {q : Res (Fl × Env)} (h : m ρ st = .ok (.nx, ρ1) st1) (h2 : k ρ1 st1 = q) : sSeq m k ρ st = q := by
  unfold sSeq
  rw [h, bind_ok]
  exact h2
theorem s_seq_rt {m k : SM} (h : m ρ st = .ok (.rt d, ρ1) st1) : sSeq m k ρ st = .ok (.rt d, ρ1) st1 := by
  unfold sSeq
  rw [h, bind_ok]
theorem s_if_t {m k : SM} {q : Res (Fl × Env)} (h : tm ρ st = .ok true st1) (h2 : m ρ st1 = q) : sIf tm m k ρ st = q := by
  unfold sIf
  rw [h, bind_ok, if_pos rfl, h2]
theorem s_if_f {m k : SM} {q : Res (Fl × Env)} (h : tm ρ st = .ok false st1) (h2 : k ρ st1 = q) : sIf tm m k ρ st = q := by
  unfold sIf
  rw [h, bind_ok, if_neg (by decide), h2]
end
end SL
set_option maxHeartbeats 2000000
set_option maxRecDepth 100000
namespace SL
open PySem PySem.Spec PyProof.Rows L2
theorem keyOfL_ints : ∀ r : List Int, keyOfL (r.map D.int) = some (r.map NestedKey.num)
  | [] => rfl
  | i :: r => by simp [keyOfL, keyOf, keyOfL_ints r]
theorem keyOf_iT (r : List Int) : keyOf (iT r) = some (.tup (r.map NestedKey.num)) := by
  unfold iT
  simp [keyOf, keyOfL_ints]
theorem num_inj : ∀ {r s : List Int}, r.map NestedKey.num = s.map NestedKey.num → r = s
  | [], [], _ => rfl
  | [], _ :: _, h => by cases h
  | _ :: _, [], h => by cases h
  | a :: r, b :: s, h => by
    simp only [List.map_cons, List.cons.injEq, NestedKey.num.injEq] at h
    rw [h.1, num_inj h.2]
theorem key_inj {r s : List Int} (h : keyOf (iT r) = keyOf (iT s)) : r = s := by
  rw [keyOf_iT, keyOf_iT] at h
  simp only [Option.some.injEq, NestedKey.tup.injEq] at h
  exact num_inj h
theorem dKey_iT (r : List Int) : dKey true (iT r) = some (.tup (r.map NestedKey.num)) := by
  have hd : (NestedKey.tup (r.map NestedKey.num)).depth ≤ 8 := by
    have key : ∀ r : List Int, NestedKey.depthAll (r.map NestedKey.num) ≤ 1 := by
      intro r
      induction r with
      | nil => simp [NestedKey.depthAll]
      | cons i r ih => simp [NestedKey.depthAll, NestedKey.depth]; omega
    have := key r
    simp [NestedKey.depth]
    omega
  unfold dKey keyKind
  rw [if_pos (by rfl)]
  rw [keyOf_iT]
  simp [hd]
theorem dLook_map {rs : List (List Int)} {f : List Int → D} {r : List Int} : dLook (rs.map fun s => (iT s, f s)) (.tup (r.map NestedKey.num)) = if r ∈ rs then some (f r) else none := by
  induction rs with
  | nil => rfl
  | cons s rs ih =>
    unfold dLook at ih ⊢
    rw [List.map_cons, List.find?_cons]
    by_cases h : r = s
    · subst h
      rw [decide_eq_true (keyOf_iT r)]
      simp
    · rw [decide_eq_false (fun z => h (key_inj (z.trans (keyOf_iT r).symm)).symm)]
      dsimp only
      rw [ih]
      simp [h]
theorem dSet_new {rs : List (List Int)} {f : List Int → D} {r : List Int} {v : D} (h : r ∉ rs) : dSet (rs.map fun s => (iT s, f s)) (iT r) (.tup (r.map NestedKey.num)) v = (rs.map fun s => (iT s, f s)) ++ [(iT r, v)] := by
  unfold dSet
  rw [dLook_map, if_neg h]
  rfl
theorem sat_seq {m k : SM} {ρ ρ1 : Env} {st st1 : Store} {Q : Fl × Env → Store → Prop} (h : m ρ st = .ok (.nx, ρ1) st1) (h2 : sat (k ρ1 st1) Q) : sat (sSeq m k ρ st) Q := by
  rw [s_seq h rfl]
  exact h2
theorem sat_seqS {m k : SM} {ρ : Env} {st : Store} {P Q : Fl × Env → Store → Prop} (h : sat (m ρ st) P) (h2 : ∀ ρ1 st1, P (.nx, ρ1) st1 → sat (k ρ1 st1) Q) (h3 : ∀ d ρ1 st1, P (.rt d, ρ1) st1 → Q (.rt d, ρ1) st1) (h4 : ∀ ρ1 st1, ¬ P (.bk, ρ1) st1) (h5 : ∀ ρ1 st1, ¬ P (.ct, ρ1) st1) : sat (sSeq m k ρ st) Q := by
  unfold sSeq
  refine sat_bind h fun r st1 hp => ?_
  obtain ⟨fl, ρ1⟩ := r
  cases fl with
  | nx => exact h2 ρ1 st1 hp
  | rt d => exact .ok (h3 d ρ1 st1 hp)
  | bk => exact (h4 _ _ hp).elim
  | ct => exact (h5 _ _ hp).elim
theorem eq_sat {α : Type} {r : Res α} {a : α} {st : Store} {Q : α → Store → Prop} (h : r = .ok a st) (q : Q a st) : sat r Q := by
  rw [h]
  exact .ok q
end SL
set_option maxRecDepth 100000
set_option maxHeartbeats 2000000
namespace SL
open PySem PySem.Spec PyProof.Rows L2 PySem.W
theorem shaped_ints (k : List Int) : SeqAt.shaped (.tuple (k.map PyData.int)) = true := by
  have h1 : ∀ k : List Int, PyData.canLayAll0 (k.map PyData.int) = true := by
    intro k
    induction k with
    | nil => simp [PyData.canLayAll0]
    | cons i k ih => simp [PyData.canLayAll0, PyData.canLay0, ih]
  have h2 : ∀ k : List Int, PyData.depthAll (k.map PyData.int) = 0 := by
    intro k
    induction k with
    | nil => simp [PyData.depthAll]
    | cons i k ih => simp [PyData.depthAll, PyData.depth, ih]
  unfold SeqAt.shaped
  simp [PyData.canLay0, PyData.depth, h1, h2]
theorem alike_ints : ∀ k l : List Int, alikeAll (k.map PyData.int) (l.map PyData.int) = true
  | [], _ => by simp [alikeAll]
  | _ :: _, [] => by simp [alikeAll]
  | a :: k, b :: l => by simp [alikeAll, alike, alike_ints k l]
theorem pyD_iT {st : Store} {k : List Int} : (pyD st (iT k)).isSome = true := by
  have h1 : ∀ k : List Int, fzL (rfK st 0 6) (k.map SL.D.int) = some (k.map SL.D.int) := by
    intro k
    induction k with
    | nil => rfl
    | cons i k ih => simp [fzL, fzD, ih]
  have h2 : ∀ k : List Int, toPyL (k.map SL.D.int) = some (k.map PyData.int) := by
    intro k
    induction k with
    | nil => rfl
    | cons i k ih => simp [toPyL, toPy, ih]
  unfold pyD iT
  simp [fzD, h1, toPy, h2]
theorem okSort_iT {st : Store} {rs : List (List Int)} (h : ∀ r ∈ rs, r ≠ []) : okSort st (rs.map iT) = true := by
  simp only [okSort, Bool.and_eq_true, List.all_eq_true, Bool.or_eq_true]
  refine ⟨fun x hx => ?_, fun x hx y hy => ?_, .inl fun x hx => ?_⟩
  · obtain ⟨r, hr, rfl⟩ := List.mem_map.mp hx
    exact ⟨pyD_iT, by rw [enc_iT]; exact shaped_ints r⟩
  · obtain ⟨r, hr, rfl⟩ := List.mem_map.mp hx
    obtain ⟨s, hs, rfl⟩ := List.mem_map.mp hy
    rw [enc_iT, enc_iT]
    exact alike_ints r s
  · obtain ⟨r, hr, rfl⟩ := List.mem_map.mp hx
    rw [enc_iT]
    cases r with
    | nil => exact (h [] hr rfl).elim
    | cons a r => rfl
/-- rows in sequence -/
def leR : List Int → List Int → Bool := sortLe (listOrd itemOrd) false fun k => keyToksAll (k.map PyData.int)
def srt (rs : List (List Int)) : List (List Int) := rs.mergeSort leR
theorem leR_tot : TotalLe leR := sortLe_total (listOrd itemOrd) false _
theorem sortD_iT {st : Store} {rs : List (List Int)} : sortD st (rs.map iT) = (srt rs).map iT := by
  unfold sortD srt
  refine (List.map_mergeSort (f := iT) (r := leR) (s := dataLe false (encS st)) fun a _ b _ => ?_).symm
  unfold leR dataLe sortLe
  dsimp only
  rw [enc_iT, enc_iT]
  rfl
theorem srt_perm (rs : List (List Int)) : (srt rs).Perm rs := List.mergeSort_perm _ _
theorem srt_pw (rs : List (List Int)) : (srt rs).Pairwise fun a b => leR a b = true := List.pairwise_mergeSort leR_tot.trans (fun a b => by
  rcases leR_tot.total a b with z | z
  · exact Bool.or_eq_true_iff.mpr (.inl z)
  · exact Bool.or_eq_true_iff.mpr (.inr z)) _
theorem leR_anti {a b : List Int} (h1 : leR a b = true) (h2 : leR b a = true) : a = b :=
  toks_inj ((listOrd itemOrd).total _ _ (by simpa [leR, sortLe] using h2) (by simpa [leR, sortLe] using h1))
theorem srt_srt (rs : List (List Int)) : srt (srt rs) = srt rs :=
  List.Perm.eq_of_pairwise (le := fun a b => leR a b = true) (fun _ _ _ _ h1 h2 => leR_anti h1 h2) (srt_pw _) (srt_pw _) (srt_perm _)
theorem srt_nodup {rs : List (List Int)} (h : rs.Nodup) : (srt rs).Nodup := (srt_perm rs).nodup_iff.mpr h
end SL
set_option maxRecDepth 100000
set_option maxHeartbeats 2000000
/-! Level 2: what an expression yields in every store of a kind (Ev), rule by rule. -/
namespace SL
open PySem

def CG (os : List (Nat × MO)) (st : Store) : Prop := clS st.length st = true ∧ ∀ p ∈ os, st[p.1]? = some p.2
def Ev (os : List (Nat × MO)) {α : Type} (r : Store → Res α) (a : α) : Prop := ∀ st, CG os st → r st = .ok a st
/-- ends with return d -/
def EvR (os : List (Nat × MO)) (r : Store → Res (Fl × Env)) (d : D) : Prop := ∀ st, CG os st → ∃ ρ', r st = .ok (.rt d, ρ') st
/-- raises -/
def EvX (os : List (Nat × MO)) {α : Type} (r : Store → Res α) (c : Nat) (fs : List D) : Prop := ∀ st, CG os st → r st = .exn c fs st
/-- a source of items -/
def EvI (os : List (Nat × MO)) (r : Store → Res (Src × Nat)) (xs : List D) : Prop := ∀ st, CG os st → ∃ src m, r st = .ok (src, m) st ∧ Stat (CG os) src xs ∧ xs.length < m
theorem nat_le_g {a b : Nat} (h : a ≤ b) : a ≤ b := h
theorem nat_lt_g {a b : Nat} (h : a < b) : a < b := h
theorem int_le_g {a b : Int} (h : a ≤ b) : a ≤ b := h
theorem int_lt_g {a b : Int} (h : a < b) : a < b := h
theorem sz_val : sizeLine = 16777216 := rfl
theorem fu_val : FU = 1000000 := rfl
theorem CG.cl {os : List (Nat × MO)} {st : Store} (h : CG os st) : clS st.length st = true := h.1
theorem CG.push {os : List (Nat × MO)} {st : Store} {o : MO} (h : CG os st) (ho : bndM st.length o = true) : CG os (st ++ [o]) :=
  ⟨clS_push h.1 ho, fun p hp => by
    have e := h.2 p hp
    rw [List.getElem?_append_left (List.getElem?_eq_some_iff.mp e).1]
    exact e⟩
section
variable {os : List (Nat × MO)} {ρ : Env} {st : Store} {d d1 d2 : D} {ds : List D} {ma mb mc : EM} {am : AM} {F : CF} {n : Nat} {dds : List D} {tm tk : TM} {b c : Bool} {α : Type}
theorem ev_eq {r : Store → Res α} {a a' : α} (h : Ev os r a) (e : a = a') : Ev os r a' := e ▸ h
theorem evr_eq {r : Store → Res (Fl × Env)} {a a' : D} (h : EvR os r a) (e : a = a') : EvR os r a' := e ▸ h
theorem ev_var {i : Nat} (h : ρ[i]? = some (some d)) : Ev os (mVar i ρ) d := fun st _ => by unfold mVar; rw [h]
theorem ev_c : Ev os (mC d ρ) d := fun _ _ => rfl
theorem ev_nil : Ev os (aNil ρ) [] := fun _ _ => rfl
theorem ev_cons (h : Ev os (ma ρ) d) (h2 : Ev os (am ρ) ds) : Ev os (aCons ma am ρ) (d :: ds) := fun st g => a_cons (h st g) (h2 st g)
theorem ev_tup (h : Ev os (am ρ) ds) (hz : ds.length ≤ sizeLine) : Ev os (mTup am ρ) (.tup ds) := fun st g => e_tup (h st g) hz
theorem ev_lst (h : Ev os (am ρ) ds) (hz : ds.length ≤ sizeLine) : Ev os (mLst am ρ) (.lst ds) := fun st g => e_lst (h st g) hz
theorem ev_bin {f : O2} (h : Ev os (ma ρ) d1) (h2 : Ev os (mb ρ) d2) (h3 : Ev os (f d1 d2) d) : Ev os (mBin f ma mb ρ) d := fun st g => e_bin (h st g) (h2 st g) (h3 st g)
theorem ev_un {f : D → Store → Res D} (h : Ev os (ma ρ) d1) (h3 : Ev os (f d1) d) : Ev os (mUn f ma ρ) d := fun st g => e_un (h st g) (h3 st g)
theorem ev_cb (h : Ev os (am ρ) ds) (h2 : Ev os (F ds) d) : Ev os (mCB F am ρ) d := fun st g => e_cb (h st g) (h2 st g)
theorem ev_call (h : Ev os (am ρ) ds) (h2 : Ev os (F (ds ++ dds)) d) (hn : (ds ++ dds).length = n := by rfl) : Ev os (mCall (arity n F) dds am ρ) d := fun st g => e_call (h st g) hn (h2 st g)
theorem evx_call {c : Nat} {fs : List D} (h : Ev os (am ρ) ds) (h2 : EvX os (F (ds ++ dds)) c fs) (hn : (ds ++ dds).length = n := by rfl) : EvX os (mCall (arity n F) dds am ρ) c fs := fun st g => by
  unfold mCall arity
  rw [h st g, bind_ok, if_pos hn, h2 st g]
theorem ev_callK {ix : List Nat} {m : Nat} (h : Ev os (am ρ) ds) (h2 : Ev os (F (permL ix ds)) d) (hm : ds.length = m := by rfl) (hn : (permL ix ds).length = n := by rfl) : Ev os (mCallK (arity n F) ix m am ρ) d := fun st g => by
  unfold mCallK arity
  rw [h st g, bind_ok, if_pos hm, if_pos hn, h2 st g]
theorem ev_prop {c : Nat} {fs : List D} (h : Ev os (ma ρ) d1) (h2 : Ev os (F [d1]) d) (hi : ∀ st, insOf st c d1 = some fs := by intro _; rfl) : Ev os (mProp c F ma ρ) d := fun st g => by
  unfold mProp
  rw [h st g, bind_ok, hi]
  dsimp only
  rw [h2 st g]
  rfl
theorem ev_methO {c : Nat} {fs : List D} (h : Ev os (ma ρ) d1) (h1 : Ev os (am ρ) ds) (h2 : Ev os (F (d1 :: (ds ++ dds))) d) (hi : ∀ st, insOf st c d1 = some fs := by intro _; rfl) (hn : (d1 :: (ds ++ dds)).length = n := by rfl) : Ev os (mMethO c (arity n F) dds ma am ρ) d := fun st g => by
  unfold mMethO arity
  rw [h st g, bind_ok, hi]
  dsimp only
  rw [h1 st g, bind_ok, if_pos hn, h2 st g]
theorem ev_test (h : Ev os (ma ρ) (.bl b)) : Ev os (mTest ma ρ) b := fun st g => t_test (h st g)
theorem ev_tnot (h : Ev os (tm ρ) b) : Ev os (tmNot tm ρ) (!b) := fun st g => t_not (h st g)
theorem ev_tand (h : Ev os (tm ρ) b) (h2 : b = true → Ev os (tk ρ) c) : Ev os (tmAnd tm tk ρ) (b && c) := fun st g => by
  cases b with
  | true => exact t_and_t (h st g) (h2 rfl st g)
  | false => exact t_and_f (h st g)
theorem ev_tor (h : Ev os (tm ρ) b) (h2 : b = false → Ev os (tk ρ) c) : Ev os (tmOr tm tk ρ) (b || c) := fun st g => by
  cases b with
  | true => exact t_or_t (h st g)
  | false => exact t_or_f (h st g) (h2 rfl st g)
theorem ev_and (h : Ev os (ma ρ) (.bl b)) (h2 : b = true → Ev os (mb ρ) (.bl c)) : Ev os (mAnd ma mb ρ) (.bl (b && c)) := fun st g => by
  cases b with
  | true => exact e_and_t (h st g) (h2 rfl st g)
  | false => exact e_and_f (h st g)
theorem ev_or (h : Ev os (ma ρ) (.bl b)) (h2 : b = false → Ev os (mb ρ) (.bl c)) : Ev os (mOr ma mb ρ) (.bl (b || c)) := fun st g => by
  cases b with
  | true => exact e_or_t (h st g)
  | false => exact e_or_f (h st g) (h2 rfl st g)
theorem ev_not (h : Ev os (ma ρ) (.bl b)) : Ev os (mNot ma ρ) (.bl (!b)) := fun st g => e_not (h st g)
theorem ev_if (h : Ev os (tm ρ) b) (h1 : b = true → Ev os (ma ρ) d1) (h2 : b = false → Ev os (mb ρ) d2) : Ev os (mIf tm ma mb ρ) (if b = true then d1 else d2) := fun st g => by
  cases b with
  | true => exact e_if_t (h st g) (h1 rfl st g)
  | false => exact e_if_f (h st g) (h2 rfl st g)
theorem ev_chain {f f' : O2} (h : Ev os (ma ρ) d) (h2 : Ev os (mb ρ) d1) (h3 : Ev os (f d d1) (.bl b)) (h4 : b = true → Ev os (mc ρ) d2) (h5 : b = true → Ev os (f' d1 d2) (.bl c)) : Ev os (mChain f f' ma mb mc ρ) (.bl (b && c)) := fun st g => by
  unfold mChain
  rw [h st g, bind_ok, h2 st g, bind_ok, h3 st g, bind_ok]
  cases b with
  | true =>
    dsimp only
    rw [h4 rfl st g, bind_ok, h5 rfl st g]
    rfl
  | false => rfl
/-! ### statements that end with return -/
variable {m k mm : SM}
theorem evr_ret (h : Ev os (ma ρ) d) : EvR os (sRet ma ρ) d := fun st g => ⟨_, s_ret (h st g)⟩
theorem evr_asg {i : Nat} (h : Ev os (ma ρ) d1) (h2 : EvR os (k (ρ.set i (some d1))) d) : EvR os (sSeq (sAsg ma (gmName i)) k ρ) d := fun st g => by
  obtain ⟨ρ', e⟩ := h2 st g
  exact ⟨ρ', s_seq (s_asg (h st g) rfl) e⟩
theorem evr_seq {ρ1 : Env} (h : Ev os (m ρ) (.nx, ρ1)) (h2 : EvR os (k ρ1) d) : EvR os (sSeq m k ρ) d := fun st g => by
  obtain ⟨ρ', e⟩ := h2 st g
  exact ⟨ρ', s_seq (h st g) e⟩
theorem evr_expr (h : Ev os (ma ρ) d1) (h2 : EvR os (k ρ) d) : EvR os (sSeq (sExpr ma) k ρ) d := fun st g => by
  obtain ⟨ρ', e⟩ := h2 st g
  refine ⟨ρ', s_seq (ρ1 := ρ) (st1 := st) ?_ e⟩
  unfold sExpr
  rw [h st g, bind_ok]
/-- if ..: return .. -/
theorem evr_ifr (h : Ev os (tm ρ) b) (h1 : b = true → Ev os (ma ρ) d1) (h2 : b = false → EvR os (k ρ) d2) : EvR os (sSeq (sIf tm (sRet ma) sNil) k ρ) (if b = true then d1 else d2) := fun st g => by
  cases b with
  | true => exact ⟨_, s_seq_rt (s_if_t (h st g) (s_ret (h1 rfl st g)))⟩
  | false =>
    obtain ⟨ρ', e⟩ := h2 rfl st g
    exact ⟨ρ', s_seq (s_if_f (h st g) rfl) e⟩
theorem evr_if2 (h : Ev os (tm ρ) b) (h1 : b = true → EvR os (m ρ) d1) (h2 : b = false → EvR os (mm ρ) d2) : EvR os (sIf tm m mm ρ) (if b = true then d1 else d2) := fun st g => by
  cases b with
  | true =>
    obtain ⟨ρ', e⟩ := h1 rfl st g
    exact ⟨ρ', s_if_t (h st g) e⟩
  | false =>
    obtain ⟨ρ', e⟩ := h2 rfl st g
    exact ⟨ρ', s_if_f (h st g) e⟩
/-- if ..: raise .., which is not so -/
theorem evr_ifn (h : Ev os (tm ρ) b) (h1 : b = false) (h2 : EvR os (k ρ) d) : EvR os (sSeq (sIf tm m sNil) k ρ) d := fun st g => by
  subst h1
  obtain ⟨ρ', e⟩ := h2 st g
  exact ⟨ρ', s_seq (s_if_f (h st g) rfl) e⟩
theorem evr_if_t (h : Ev os (tm ρ) b) (h1 : b = true) (h2 : EvR os (sSeq m k ρ) d) : EvR os (sSeq (sIf tm m mm) k ρ) d := fun st g => by
  subst h1
  obtain ⟨ρ', e⟩ := h2 st g
  refine ⟨ρ', ?_⟩
  rw [← e]
  show Res.bind _ _ = Res.bind _ _
  rw [s_if_t (h st g) rfl]
theorem evr_if_f (h : Ev os (tm ρ) b) (h1 : b = false) (h2 : EvR os (sSeq mm k ρ) d) : EvR os (sSeq (sIf tm m mm) k ρ) d := fun st g => by
  subst h1
  obtain ⟨ρ', e⟩ := h2 st g
  refine ⟨ρ', ?_⟩
  rw [← e]
  show Res.bind _ _ = Res.bind _ _
  rw [s_if_f (h st g) rfl]
theorem sSeq_assoc {m k l : SM} {ρ : Env} : sSeq (sSeq m k) l ρ = sSeq m (sSeq k l) ρ := by
  funext st
  unfold sSeq
  cases m ρ st with
  | ok r st1 =>
    obtain ⟨fl, ρ1⟩ := r
    cases fl <;> rfl
  | exn c fs st1 => rfl
  | bad => rfl
theorem evr_assoc {l : SM} (h : EvR os (sSeq m (sSeq k l) ρ) d) : EvR os (sSeq (sSeq m k) l ρ) d := sSeq_assoc ▸ h
theorem evr_snil (h : EvR os (k ρ) d) : EvR os (sSeq sNil k ρ) d := h
/-- a def -/
theorem ev_fn {N : Nat} (h : EvR os (m (startE N ds)) d) (hb : bnd 0 d = true) : Ev os (fnB N m ds) d := fun st g => by
  obtain ⟨ρ', e⟩ := h st g
  exact fn_pure e (bnd_mono (Nat.zero_le _) hb) g.cl
theorem ev_fnN {N : Nat} {ρ' : Env} (h : Ev os (m (startE N ds)) (.nx, ρ')) : Ev os (fnB N m ds) .non := fun st g => fn_pureN (h st g) g.cl
theorem evx_fn {N : Nat} {c : Nat} {fs : List D} (h : EvX os (m (startE N ds)) c fs) (hb : bndL 0 fs = true) : EvX os (fnB N m ds) c fs := fun st g => by
  have z := fn_exn (h st g) (bndL_mono (Nat.zero_le _) hb) (by rw [List.take_length]; exact g.cl)
  rwa [List.take_length] at z
/-! statements that just check -/
theorem ev_sexpr (h : Ev os (ma ρ) d) : Ev os (sExpr ma ρ) (.nx, ρ) := fun st g => by
  unfold sExpr
  rw [h st g, bind_ok]
theorem ev_sseq {ρ1 : Env} {r : Fl × Env} (h : Ev os (m ρ) (.nx, ρ1)) (h2 : Ev os (k ρ1) r) : Ev os (sSeq m k ρ) r := fun st g => s_seq (h st g) (h2 st g)
theorem ev_sifn (h : Ev os (tm ρ) b) (h1 : b = false) : Ev os (sIf tm m sNil ρ) (.nx, ρ) := fun st g => by
  subst h1
  exact s_if_f (h st g) rfl
theorem ev_sasg {i : Nat} (h : Ev os (ma ρ) d) : Ev os (sAsg ma (gmName i) ρ) (.nx, ρ.set i (some d)) := fun st g => s_asg (h st g) rfl
theorem evx_sexpr {c : Nat} {fs : List D} (h : EvX os (ma ρ) c fs) : EvX os (sExpr ma ρ) c fs := fun st g => by
  unfold sExpr
  rw [h st g, bind_exn]
theorem evx_seq1 {c : Nat} {fs : List D} (h : EvX os (m ρ) c fs) : EvX os (sSeq m k ρ) c fs := fun st g => by
  unfold sSeq
  rw [h st g, bind_exn]
theorem evx_seq2 {c : Nat} {fs : List D} {ρ1 : Env} (h : Ev os (m ρ) (.nx, ρ1)) (h2 : EvX os (k ρ1) c fs) : EvX os (sSeq m k ρ) c fs := fun st g => by
  unfold sSeq
  rw [h st g, bind_ok]
  exact h2 st g
theorem evx_if_t {c : Nat} {fs : List D} (h : Ev os (tm ρ) b) (h1 : b = true) (h2 : EvX os (m ρ) c fs) : EvX os (sIf tm m mm ρ) c fs := fun st g => by
  subst h1
  exact s_if_t (h st g) (h2 st g)
theorem evx_if_f {c : Nat} {fs : List D} (h : Ev os (tm ρ) b) (h1 : b = false) (h2 : EvX os (mm ρ) c fs) : EvX os (sIf tm m mm ρ) c fs := fun st g => by
  subst h1
  exact s_if_f (h st g) (h2 st g)
theorem evx_ret {c : Nat} {fs : List D} (h : EvX os (ma ρ) c fs) : EvX os (sRet ma ρ) c fs := fun st g => by
  unfold sRet
  rw [h st g, bind_exn]
/-! ### sources -/
variable {mi : IM} {β : Type}
theorem evi_lst {ys : List β} {f : β → D} (h : Ev os (ma ρ) (.lst (ys.map f))) : EvI os (mIt (fSeq n) ma ρ) (ys.map f) := fun st g => ⟨_, _, by unfold mIt; rw [h st g, bind_ok]; rfl, stat_s, Nat.lt_succ_self _⟩
theorem evi_tup {ys : List β} {f : β → D} (h : Ev os (ma ρ) (.tup (ys.map f))) : EvI os (mIt (fSeq n) ma ρ) (ys.map f) := fun st g => ⟨_, _, by unfold mIt; rw [h st g, bind_ok]; rfl, stat_s, Nat.lt_succ_self _⟩
theorem evi_rng1 {j : Int} (h : Ev os (ma ρ) (.int j)) (hj : okR j = true) : EvI os (mRng1 ma ρ) ((List.range j.toNat).map fun (k : Nat) => D.int (k : Int)) := fun st g => ⟨_, _, by unfold mRng1; rw [h st g, bind_ok]; dsimp only; rw [if_pos hj], by
  have z := stat_rng (G := CG os) (lo := 0) (n := j.toNat)
  simpa using z, by simp⟩
theorem evi_rng2 {i j : Int} (h : Ev os (ma ρ) (.int i)) (h2 : Ev os (mb ρ) (.int j)) (hi : okR i = true) (hj : okR j = true) : EvI os (mRng2 ma mb ρ) ((List.range (j - i).toNat).map fun (k : Nat) => D.int (i + (k : Int))) := fun st g => ⟨_, _, by unfold mRng2; rw [h st g, bind_ok, h2 st g, bind_ok]; dsimp only; rw [if_pos ⟨hi, hj⟩], stat_rng, by simp⟩
theorem mapIdx_zipIdx {ys : List β} {f : β → D} : ((ys.map f).mapIdx fun k d => D.tup [.int k, d]) = ys.zipIdx.map fun p => .tup [.int (p.2 : Int), f p.1] := by
  refine List.ext_getElem? fun i => ?_
  simp only [List.getElem?_mapIdx, List.getElem?_map, List.getElem?_zipIdx]
  cases ys[i]? <;> simp
theorem evi_enumT {ys : List β} {f : β → D} (h : Ev os (ma ρ) (.tup (ys.map f))) : EvI os (mIt (fEnum n) ma ρ) (ys.zipIdx.map fun p => .tup [.int (p.2 : Int), f p.1]) := fun st g => ⟨_, _, by unfold mIt; rw [h st g, bind_ok]; rfl, by
  rw [← mapIdx_zipIdx]
  exact stat_enum fun _ _ => rfl, by simp; omega⟩
theorem evi_enumL {ys : List β} {f : β → D} (h : Ev os (ma ρ) (.lst (ys.map f))) : EvI os (mIt (fEnum n) ma ρ) (ys.zipIdx.map fun p => .tup [.int (p.2 : Int), f p.1]) := fun st g => ⟨_, _, by unfold mIt; rw [h st g, bind_ok]; rfl, by
  rw [← mapIdx_zipIdx]
  exact stat_enum fun _ _ => rfl, by simp; omega⟩
/-- data that can be walked -/
def isSeq : D → Option (List D)
  | .lst ds => some ds
  | .tup ds => some ds
  | _ => none
theorem isSeq_src {d : D} {ds : List D} (h : isSeq d = some ds) : srcL d = fun _ => some ds := by
  cases d <;> simp [isSeq] at h <;> subst h <;> rfl
theorem zipWith_map2 {γ : Type} {ys : List β} {zs : List γ} {f : β → D} {f2 : γ → D} : (List.zipWith (fun x y => D.tup [x, y]) (ys.map f) (zs.map f2)) = (ys.zip zs).map fun p => .tup [f p.1, f2 p.2] := by
  rw [List.zipWith_map, List.zip_eq_zipWith, List.map_zipWith]
theorem evi_zip {γ : Type} {ys : List β} {zs : List γ} {f : β → D} {f2 : γ → D} (h : Ev os (ma ρ) d1) (h2 : Ev os (mb ρ) d2) (e1 : isSeq d1 = some (ys.map f) := by rfl) (e2 : isSeq d2 = some (zs.map f2) := by rfl) :
    EvI os (mZip n ma mb ρ) ((ys.zip zs).map fun p => .tup [f p.1, f2 p.2]) := fun st g => ⟨_, _, by unfold mZip; rw [h st g, bind_ok, h2 st g, bind_ok, isSeq_src e1, isSeq_src e2], by
  rw [← zipWith_map2]
  exact stat_zip (fun _ _ => rfl) (fun _ _ => rfl), by simp; omega⟩
/-! ### comprehensions -/
theorem comp_core {tg : TgM} {c : TM} {e : EM} {vs : List Nat} {xs : List D} (p : D → Bool) (f : D → D) (hi : EvI os (mi ρ) xs) (hz : xs.length < sizeLine) (hb : ∀ d ∈ xs, p d = true → bnd 0 (f d) = true)
    (step : ∀ d ∈ xs, ∃ ρ1, tg d (wipeE ρ vs) = some ρ1 ∧ Ev os (c ρ1) (p d) ∧ (p d = true → Ev os (e ρ1) (f d))) :
    Ev os (closeE (mComp mi tg c e vs) ρ) (.lst ((xs.filter p).map f)) := fun st g => by
  obtain ⟨src, m, e0, hs, hm⟩ := hi st g
  have hcl := g.cl
  have key := comp_sat (n := st.length) (G := CG os) (src := src) (xs := xs) (tg := tg) (c := c) (e := e) (ρ0 := wipeE ρ vs) (fun k base acc => base = st ∧ acc = ((xs.take k).filter p).map f ∧ k ≤ xs.length) hs (fun k base acc ⟨h1, h2, h3⟩ => by
      subst h1
      refine g.push (bndL_of fun x hx => ?_)
      rw [h2] at hx
      obtain ⟨y, hy, rfl⟩ := List.mem_map.mp hx
      obtain ⟨y1, y2⟩ := List.mem_filter.mp hy
      exact bnd_mono (Nat.zero_le _) (hb y (List.mem_of_mem_take y1) y2)) (fun k base acc ⟨h1, h2, h3⟩ => ⟨by rw [h1], by
      rw [h2, List.length_map]
      exact Nat.lt_of_le_of_lt (Nat.le_trans (List.length_filter_le _ _) (by rw [List.length_take]; omega)) hz⟩)
    (fun k d base acc ex ⟨h1, h2, h3⟩ => by
      subst h1
      have hd := List.mem_of_getElem? ex
      have hk : k < xs.length := (List.getElem?_eq_some_iff.mp ex).1
      have tk : xs.take (k + 1) = xs.take k ++ [d] := by rw [List.take_succ, ex]; rfl
      have hacc : bndL base.length acc = true := by
        rw [h2]
        refine bndL_of fun x hx => ?_
        obtain ⟨y, hy, rfl⟩ := List.mem_map.mp hx
        obtain ⟨y1, y2⟩ := List.mem_filter.mp hy
        exact bnd_mono (Nat.zero_le _) (hb y (List.mem_of_mem_take y1) y2)
      obtain ⟨ρ1, t1, t2, t3⟩ := step d hd
      have g2 : CG os (base ++ [MO.lst acc]) := g.push hacc
      refine ⟨ρ1, t1, ?_⟩
      rw [t2 _ g2]
      refine .ok ⟨base, rfl, rfl, fun hp => ⟨rfl, ?_, hk⟩, fun hp => ?_⟩
      · rw [tk, List.filter_append, h2]
        simp [hp]
      · rw [t3 hp _ g2]
        refine .ok ⟨base, rfl, rfl, rfl, ?_, hk⟩
        rw [tk, List.filter_append, h2]
        simp [hp]) m 0 st [] (Nat.zero_le _) (by omega) ⟨rfl, by simp, Nat.zero_le _⟩
  obtain ⟨u, st', e1, base', acc', e2, h1, h2, h3⟩ := sat_iff.mp key
  subst h1
  rw [List.take_length] at h2
  unfold closeE mComp
  rw [e0]
  simp only [bind_ok]
  rw [e1, e2]
  show closeR base'.length (.ok (.ref base'.length) (base' ++ [.lst acc'])) = _
  rw [close_lst (Nat.le_refl _) (ds := acc') (by rw [List.getElem?_append_right (Nat.le_refl _), Nat.sub_self]; rfl) (by
    rw [h2]
    refine bndL_of fun x hx => ?_
    obtain ⟨y, hy, rfl⟩ := List.mem_map.mp hx
    obtain ⟨y1, y2⟩ := List.mem_filter.mp hy
    exact bnd_mono (Nat.zero_le _) (hb y y1 y2)) (by rw [take_append_one]; exact hcl), take_append_one, h2]
/-- .. over typed items -/
theorem ev_comp {tg : TgM} {cm : TM} {e : EM} {vs : List Nat} {ys : List β} {h : β → D} {E : β → Env} {p : β → Bool} {f : β → D}
    (hi : EvI os (mi ρ) (ys.map h)) (ht : ∀ y ∈ ys, tg (h y) (wipeE ρ vs) = some (E y)) (hc : ∀ y ∈ ys, Ev os (cm (E y)) (p y)) (he : ∀ y ∈ ys, p y = true → Ev os (e (E y)) (f y))
    (hz : ys.length < sizeLine) (hb : ∀ y ∈ ys, p y = true → bnd 0 (f y) = true) : Ev os (closeE (mComp mi tg cm e vs) ρ) (.lst ((ys.filter p).map f)) := fun st g => by
  obtain ⟨src, m, e0, hs, hm⟩ := hi st g
  rw [List.length_map] at hm
  have hcl := g.cl
  have hacc : ∀ k, bndL st.length (((ys.take k).filter p).map f) = true := fun k => bndL_of fun x hx => by
    obtain ⟨y, hy, rfl⟩ := List.mem_map.mp hx
    obtain ⟨y1, y2⟩ := List.mem_filter.mp hy
    exact bnd_mono (Nat.zero_le _) (hb y (List.mem_of_mem_take y1) y2)
  have key := comp_sat (n := st.length) (G := CG os) (src := src) (xs := ys.map h) (tg := tg) (c := cm) (e := e) (ρ0 := wipeE ρ vs) (fun k base acc => base = st ∧ acc = ((ys.take k).filter p).map f ∧ k ≤ ys.length) hs (fun k base acc ⟨h1, h2, h3⟩ => by
      subst h1
      refine g.push ?_
      rw [h2]
      exact hacc k) (fun k base acc ⟨h1, h2, h3⟩ => ⟨by rw [h1], by
      rw [h2, List.length_map]
      exact Nat.lt_of_le_of_lt (Nat.le_trans (List.length_filter_le _ _) (by rw [List.length_take]; omega)) hz⟩)
    (fun k d base acc ex ⟨h1, h2, h3⟩ => by
      subst h1
      rw [List.getElem?_map] at ex
      cases ey : ys[k]? with
      | none => rw [ey] at ex; cases ex
      | some y =>
        rw [ey] at ex
        cases ex
        have hd := List.mem_of_getElem? ey
        have hk : k < ys.length := (List.getElem?_eq_some_iff.mp ey).1
        have tk : ys.take (k + 1) = ys.take k ++ [y] := by rw [List.take_succ, ey]; rfl
        have g2 : CG os (base ++ [MO.lst acc]) := g.push (by rw [h2]; exact hacc k)
        refine ⟨E y, ht y hd, ?_⟩
        rw [hc y hd _ g2]
        refine .ok ⟨base, rfl, rfl, fun hp => ⟨rfl, ?_, hk⟩, fun hp => ?_⟩
        · rw [tk, List.filter_append, h2]
          simp [hp]
        · rw [he y hd hp _ g2]
          refine .ok ⟨base, rfl, rfl, rfl, ?_, hk⟩
          rw [tk, List.filter_append, h2]
          simp [hp]) m 0 st [] (Nat.zero_le _) (by rw [List.length_map]; omega) ⟨rfl, by simp, Nat.zero_le _⟩
  obtain ⟨u, st', e1, base', acc', e2, h1, h2, h3⟩ := sat_iff.mp key
  subst h1
  rw [List.length_map, List.take_length] at h2
  unfold closeE mComp
  rw [e0]
  simp only [bind_ok]
  rw [e1, e2]
  show closeR base'.length (.ok (.ref base'.length) (base' ++ [.lst acc'])) = _
  have z := hacc ys.length
  rw [List.take_length] at z
  rw [close_lst (Nat.le_refl _) (ds := acc') (by rw [List.getElem?_append_right (Nat.le_refl _), Nat.sub_self]; rfl) (by rw [h2]; exact z) (by rw [take_append_one]; exact hcl), take_append_one, h2]
theorem ev_comp_t {tg : TgM} {e : EM} {vs : List Nat} {ys : List β} {h : β → D} {E : β → Env} {f : β → D}
    (hi : EvI os (mi ρ) (ys.map h)) (ht : ∀ y ∈ ys, tg (h y) (wipeE ρ vs) = some (E y)) (he : ∀ y ∈ ys, Ev os (e (E y)) (f y))
    (hz : ys.length < sizeLine) (hb : ∀ y ∈ ys, bnd 0 (f y) = true) : Ev os (closeE (mComp mi tg mTrue e vs) ρ) (.lst (ys.map f)) := by
  have z := ev_comp (p := fun _ => true) hi ht (fun _ _ => (fun _ _ => rfl : Ev os (mTrue _) true)) (fun y hy _ => he y hy) hz (fun y hy _ => hb y hy)
  rwa [List.filter_eq_self.mpr fun _ _ => rfl] at z
/-! ### operators -/
theorem evo_add_int {a b : Int} : Ev os (opAdd (.int a) (.int b)) (.int (a + b)) := fun _ _ => rfl
theorem evo_sub_int {a b : Int} : Ev os (opSub (.int a) (.int b)) (.int (a - b)) := fun _ _ => rfl
theorem evo_mul_int {a b : Int} (h : cMul a b = true) : Ev os (opMul (.int a) (.int b)) (.int (a * b)) := fun st _ => by
  show (if cMul a b = true then _ else _) = _
  rw [if_pos h]
theorem evo_mod {a b : Int} (h : 0 < b) : Ev os (opMod (.int a) (.int b)) (.int (a % b)) := fun st _ => by
  show (if cMod a b = true then _ else _) = _
  rw [if_pos (by simp [cMod, h])]
theorem evo_div {a b : Int} (h : 0 < b) (h2 : b < 1073741824) : Ev os (opDiv (.int a) (.int b)) (.int (a / b)) := fun st _ => by
  show (if cDiv a b = true then _ else _) = _
  rw [if_pos (by simp [cDiv, h, h2])]
theorem evo_add_tup {a b : List D} (h : a.length + b.length ≤ sizeLine) : Ev os (opAdd (.tup a) (.tup b)) (.tup (a ++ b)) := fun st _ => by
  show (if a.length + b.length ≤ sizeLine then _ else _) = _
  rw [if_pos h]
theorem evo_add_lst {a b : List D} (h : a.length + b.length ≤ sizeLine) : Ev os (opAdd (.lst a) (.lst b)) (.lst (a ++ b)) := fun st _ => by
  show (if a.length + b.length ≤ sizeLine then _ else _) = _
  rw [if_pos h]
theorem evo_lt {a b : Int} : Ev os (opLtI (.int a) (.int b)) (.bl (decide (a < b))) := fun _ _ => rfl
theorem evo_le {a b : Int} : Ev os (opLeI (.int a) (.int b)) (.bl (decide (a ≤ b))) := fun _ _ => rfl
theorem evo_gt {a b : Int} : Ev os (opGtI (.int a) (.int b)) (.bl (decide (b < a))) := fun _ _ => rfl
theorem evo_ge {a b : Int} : Ev os (opGeI (.int a) (.int b)) (.bl (decide (b ≤ a))) := fun _ _ => rfl
theorem evo_isN {d : D} : Ev os (opIsN d .non) (.bl (isNon d)) := fun _ _ => by cases d <;> rfl
theorem evo_notN {d : D} : Ev os (opNotN d .non) (.bl (!isNon d)) := fun _ _ => by cases d <;> rfl
theorem evo_neg {a : Int} : Ev os (opNeg (.int a)) (.int (-a)) := fun _ _ => rfl
theorem evo_fld {c j : Nat} {fs : List D} (h : fs[j]? = some d) : Ev os (opFld c j (.obj c fs)) d := fun st _ => by
  unfold opFld insOf
  simp [h]
/-! builtins -/
theorem evb_len_t : Ev os (bLen [.tup ds]) (.int ds.length) := fun _ _ => rfl
theorem evb_len_l : Ev os (bLen [.lst ds]) (.int ds.length) := fun _ _ => rfl
theorem evb_len_d {t : Bool} {kvs : List (D × D)} : Ev os (bLen [.dic t kvs]) (.int kvs.length) := fun _ _ => rfl
theorem evb_tuple_l : Ev os (bTuple [.lst ds]) (.tup ds) := fun _ _ => rfl
theorem evb_tuple_t : Ev os (bTuple [.tup ds]) (.tup ds) := fun _ _ => rfl
theorem evb_list_l : Ev os (bListF [.lst ds]) (.lst ds) := fun _ _ => rfl
theorem evb_list_t : Ev os (bListF [.tup ds]) (.lst ds) := fun _ _ => rfl
theorem evb_int {a : Int} : Ev os (bInt [.int a]) (.int a) := fun _ _ => rfl
theorem evb_abs {a : Int} : Ev os (bAbs [.int a]) (.int (if a < 0 then -a else a)) := fun _ _ => rfl
theorem blsOf_mapf {ys : List β} {p : β → Bool} : blsOf (ys.map fun y => D.bl (p y)) = some (ys.map p) := by
  induction ys with
  | nil => rfl
  | cons d ds ih => simp [blsOf, ih]
theorem intsOf_mapf {ys : List β} {p : β → Int} : intsOf (ys.map fun y => D.int (p y)) = some (ys.map p) := by
  induction ys with
  | nil => rfl
  | cons d ds ih => simp [intsOf, ih]
theorem evb_all {ys : List β} {p : β → Bool} : Ev os (bAll [.lst (ys.map fun y => D.bl (p y))]) (.bl (ys.all p)) := fun st _ => by
  unfold bAll lstOf
  simp only [Option.bind_some, blsOf_mapf, List.all_map]
  rfl
theorem evb_any {ys : List β} {p : β → Bool} : Ev os (bAny [.lst (ys.map fun y => D.bl (p y))]) (.bl (ys.any p)) := fun st _ => by
  unfold bAny lstOf
  simp only [Option.bind_some, blsOf_mapf, List.any_map]
  rfl
theorem evb_sum {ys : List β} {p : β → Int} : Ev os (bSum [.lst (ys.map fun y => D.int (p y))]) (.int (ys.map p).sum) := fun st _ => by
  unfold bSum lstOf
  simp only [Option.bind_some, intsOf_mapf]
theorem evb_min {ys : List β} {p : β → Int} (h : ys ≠ []) : Ev os (bMin [.lst (ys.map fun y => D.int (p y))]) (.int (botI (ys.map p))) := fun st _ => by
  unfold bMin lstOf
  simp only [Option.bind_some, intsOf_mapf]
  cases ys with
  | nil => exact (h rfl).elim
  | cons y ys => rfl
theorem evb_max {ys : List β} {p : β → Int} (h : ys ≠ []) : Ev os (bMax [.lst (ys.map fun y => D.int (p y))]) (.int (topI (ys.map p))) := fun st _ => by
  unfold bMax lstOf
  simp only [Option.bind_some, intsOf_mapf]
  cases ys with
  | nil => exact (h rfl).elim
  | cons y ys => rfl
theorem evb_min2 {a b : Int} : Ev os (bMin [.int a, .int b]) (.int (if b < a then b else a)) := fun _ _ => rfl
theorem evb_max2 {a b : Int} : Ev os (bMax [.int a, .int b]) (.int (if b > a then b else a)) := fun _ _ => rfl
theorem evb_rngF {j : Int} (h : okR j = true) (h2 : j ≤ 1000) : Ev os (bListRngF [.int j]) (.lst ((List.range j.toNat).map fun (k : Nat) => D.int (k : Int))) := fun st _ => by
  show (if okR j = true ∧ j ≤ 1000 then _ else _) = _
  rw [if_pos ⟨h, h2⟩]
  rfl
/-- isinstance -/
theorem evo_isa {ans : Tg → Option Bool} {t : Tg} {b : Bool} (h1 : ∀ st, tagOf st d = some t := by intro _; rfl) (h2 : ans t = some b := by rfl) : Ev os (opIsa ans d) (.bl b) := fun st _ => by
  unfold opIsa
  rw [h1, Option.bind_some, h2]
/-! index -/
theorem opIx_seq {x : D} {ds : List D} {i : Int} {st : Store} (h : isSeq x = some ds) (e : L2.atI ds i = some d) : opIx x (.int i) st = .ok d st := by
  cases x <;> simp [isSeq] at h <;> subst h <;> simp [opIx, dicOf, seqOf, e]
theorem evo_ix {x : D} {ds : List D} {i : Int} (h : isSeq x = some ds) (e : L2.atI ds i = some d) : Ev os (opIx x (.int i)) d := fun _ _ => opIx_seq h e
theorem atI_nat {ys : List β} {f : β → D} {i : Int} (h0 : 0 ≤ i) (h : i.toNat < ys.length) : L2.atI (ys.map f) i = some (f ys[i.toNat]) := by
  have e : L2.ixN ys.length i = some i.toNat := by
    unfold L2.ixN
    rw [if_pos h0, if_pos (by omega)]
  unfold L2.atI
  rw [List.length_map, e]
  simp [h]
instance : Inhabited D := ⟨.non⟩
/-- x[i] of typed items -/
theorem evo_ix_t [Inhabited β] {ys : List β} {f : β → D} {i : Int} (h0 : 0 ≤ i) (h : i.toNat < ys.length) : Ev os (opIx (.tup (ys.map f)) (.int i)) (f (ys.getD i.toNat default)) := evo_ix rfl (by rw [atI_nat h0 h, List.getD_eq_getElem?_getD, List.getElem?_eq_getElem h]; rfl)
theorem evo_ix_l [Inhabited β] {ys : List β} {f : β → D} {i : Int} (h0 : 0 ≤ i) (h : i.toNat < ys.length) : Ev os (opIx (.lst (ys.map f)) (.int i)) (f (ys.getD i.toNat default)) := evo_ix rfl (by rw [atI_nat h0 h, List.getD_eq_getElem?_getD, List.getElem?_eq_getElem h]; rfl)
end
end SL
set_option maxRecDepth 100000
set_option maxHeartbeats 2000000
/-! Level 2: equality, membership, by data. -/
namespace SL
open PySem
mutual
def pyOf : D → PyData
  | .non => .none
  | .bl b => .bool b
  | .int i => .int i
  | .str x => .str x
  | .tup xs => .tuple (pyOfL xs)
  | .lst xs => .list (pyOfL xs)
  | _ => .none
def pyOfL : List D → List PyData
  | [] => []
  | d :: ds => pyOf d :: pyOfL ds
end
mutual
/-- plain data, not too deep -/
def okP : Nat → D → Bool
  | _, .non => true
  | _, .bl _ => true
  | _, .int _ => true
  | _, .str x => PyData.strOk x
  | 0, .tup _ => false
  | 0, .lst _ => false
  | n + 1, .tup xs => okPL n xs
  | n + 1, .lst xs => okPL n xs
  | _, _ => false
def okPL : Nat → List D → Bool
  | _, [] => true
  | n, d :: ds => okP n d && okPL n ds
end
theorem okPL_iff {n : Nat} : ∀ {ds : List D}, okPL n ds = true ↔ ∀ d ∈ ds, okP n d = true
  | [] => by simp [okPL]
  | d :: ds => by simp [okPL, okPL_iff (ds := ds)]
theorem okP_monoL : ∀ (ds : List D) {n m : Nat}, n ≤ m → (∀ d ∈ ds, okP n d = true → okP m d = true) → okPL n ds = true → okPL m ds = true := fun ds n m h k q => okPL_iff.mpr fun d hd => k d hd (okPL_iff.mp q d hd)
theorem okP_mono {n m : Nat} (h : n ≤ m) {d : D} (q : okP n d = true) : okP m d = true := by
  induction n generalizing m d with
  | zero => cases d <;> first | (cases m <;> exact q) | (simp [okP] at q)
  | succ n ih =>
    cases d with
    | tup xs =>
      obtain ⟨k, rfl⟩ : ∃ k, m = k + 1 := ⟨m - 1, by omega⟩
      exact okP_monoL xs (show n ≤ k by omega) (fun d _ z => ih (by omega) z) (show okPL n xs = true from q)
    | lst xs =>
      obtain ⟨k, rfl⟩ : ∃ k, m = k + 1 := ⟨m - 1, by omega⟩
      exact okP_monoL xs (show n ≤ k by omega) (fun d _ z => ih (by omega) z) (show okPL n xs = true from q)
    | dic t kvs => simp [okP] at q
    | obj c fs => simp [okP] at q
    | exc c fs => simp [okP] at q
    | fn x => simp [okP] at q
    | ref i => simp [okP] at q
    | _ => cases m <;> exact q
theorem okPL_map {β : Type} {n : Nat} {f : β → D} {ys : List β} : okPL n (ys.map f) = ys.all fun y => okP n (f y) := by
  rw [Bool.eq_iff_iff, okPL_iff]
  simp
theorem okPL_app {n : Nat} {a b : List D} : okPL n (a ++ b) = (okPL n a && okPL n b) := by
  rw [Bool.eq_iff_iff]
  simp only [okPL_iff, Bool.and_eq_true, List.mem_append, or_imp, forall_and]
theorem pyOfL_map {β : Type} {f : β → D} {ys : List β} : pyOfL (ys.map f) = ys.map fun y => pyOf (f y) := by
  induction ys with
  | nil => simp [pyOfL]
  | cons y ys ih => simp [pyOfL, ih]
mutual
theorem okP_ok : ∀ {n : Nat} {d : D}, okP n d = true → fzD (rfK st 0 6) d = some d ∧ toPy d = some (pyOf d) ∧ (pyOf d).canLay0 = true ∧ (pyOf d).depth ≤ n
  | n, .non, _ => by simp [fzD, toPy, pyOf, PyData.canLay0, PyData.depth]
  | n, .bl _, _ => by simp [fzD, toPy, pyOf, PyData.canLay0, PyData.depth]
  | n, .int _, _ => by simp [fzD, toPy, pyOf, PyData.canLay0, PyData.depth]
  | n, .str x, h => by
    have h1 : PyData.strOk x = true := by cases n <;> exact h
    simp [fzD, toPy, pyOf, PyData.canLay0, PyData.depth, h1]
  | 0, .tup _, h => by simp [okP] at h
  | 0, .lst _, h => by simp [okP] at h
  | n + 1, .tup xs, h => by
    obtain ⟨h1, h2, h3, h4⟩ := okPL_ok (st := st) (show okPL n xs = true from h)
    simp [fzD, toPy, pyOf, PyData.canLay0, PyData.depth, h1, h2, h3, h4]
  | n + 1, .lst xs, h => by
    obtain ⟨h1, h2, h3, h4⟩ := okPL_ok (st := st) (show okPL n xs = true from h)
    simp [fzD, toPy, pyOf, PyData.canLay0, PyData.depth, h1, h2, h3, h4]
  | n, .dic _ _, h => by cases n <;> simp [okP] at h
  | n, .obj _ _, h => by cases n <;> simp [okP] at h
  | n, .exc _ _, h => by cases n <;> simp [okP] at h
  | n, .fn _, h => by cases n <;> simp [okP] at h
  | n, .ref _, h => by cases n <;> simp [okP] at h
theorem okPL_ok : ∀ {n : Nat} {ds : List D}, okPL n ds = true → fzL (rfK st 0 6) ds = some ds ∧ toPyL ds = some (pyOfL ds) ∧ PyData.canLayAll0 (pyOfL ds) = true ∧ PyData.depthAll (pyOfL ds) ≤ n
  | n, [], _ => by simp [fzL, toPyL, pyOfL, PyData.canLayAll0, PyData.depthAll]
  | n, d :: ds, h => by
    obtain ⟨g1, g2⟩ := Bool.and_eq_true_iff.mp (show (okP n d && okPL n ds) = true from h)
    obtain ⟨h1, h2, h3, h4⟩ := okP_ok (st := st) g1
    obtain ⟨k1, k2, k3, k4⟩ := okPL_ok (st := st) g2
    simp [fzL, toPyL, pyOfL, PyData.canLayAll0, PyData.depthAll, h1, h2, h3, h4, k1, k2, k3, k4]
    omega
end
theorem okP_pyD {n : Nat} {st : Store} {d : D} (h : okP n d = true) : pyD st d = some (pyOf d) := by
  obtain ⟨h1, h2, _⟩ := okP_ok (st := st) h
  unfold pyD
  rw [h1, Option.bind_some, h2]
theorem okP_shaped {n : Nat} {d : D} (h : okP n d = true) (hn : n ≤ 64) : SeqAt.shaped (pyOf d) = true := by
  obtain ⟨h1, h2, h3, h4⟩ := okP_ok (st := []) h
  unfold SeqAt.shaped
  rw [h3, decide_eq_true (by omega)]
  rfl
/-- equality of data -/
def deq (a b : D) : Bool := PyData.eqv (pyOf a) (pyOf b)
def deqL (a b : List D) : Bool := PyData.eqvAll (pyOfL a) (pyOfL b)
section
variable {os : List (Nat × MO)} {a b x : D} {ds : List D} {β : Type}
theorem dEqP_ok {st : Store} (h1 : okP 60 a = true) (h2 : okP 60 b = true) : dEq st a b = some (deq a b) := by
  unfold dEq
  rw [okP_pyD h1, okP_pyD h2]
  dsimp only
  rw [if_pos ⟨okP_shaped h1 (by decide), okP_shaped h2 (by decide)⟩]
  rfl
theorem evo_eq (h1 : okP 60 a = true) (h2 : okP 60 b = true) : Ev os (opEq a b) (.bl (deq a b)) := fun st _ => by
  unfold opEq
  rw [dEqP_ok h1 h2]
theorem evo_ne (h1 : okP 60 a = true) (h2 : okP 60 b = true) : Ev os (opNe a b) (.bl (!deq a b)) := fun st _ => by
  unfold opNe
  rw [dEqP_ok h1 h2]
theorem dInP_ok {st : Store} (h : isSeq x = some ds) (h1 : okP 60 a = true) (h2 : okPL 60 ds = true) : dIn st a x = some (ds.any fun y => deq y a) := by
  have e : ∀ ds : List D, (pyOfL ds).any (fun z => PyData.eqv z (pyOf a)) = ds.any fun y => deq y a := by
    intro ds
    induction ds with
    | nil => simp [pyOfL]
    | cons d ds ih => simp [pyOfL, ih, deq]
  have h3 : okP 61 (.tup ds) = true := h2
  have h4 : okP 61 (.lst ds) = true := h2
  have h5 : SeqAt.shaped (PyData.list (pyOfL ds)) = true := okP_shaped h4 (by decide)
  unfold dIn
  rw [okP_pyD h1]
  cases x <;> simp [isSeq] at h <;> subst h
  · rw [okP_pyD h3]
    simp only [pyOf]
    rw [if_pos ⟨okP_shaped h1 (by decide), h5⟩, e]
  · rw [okP_pyD h4]
    simp only [pyOf]
    rw [if_pos ⟨okP_shaped h1 (by decide), h5⟩, e]
theorem dicOf_seq {st : Store} (h : isSeq x = some ds) : dicOf st x = none := by
  cases x <;> simp [isSeq] at h <;> rfl
theorem evo_in (h : isSeq x = some ds) (h1 : okP 60 a = true) (h2 : okPL 60 ds = true) : Ev os (opIn a x) (.bl (ds.any fun y => deq y a)) := fun st _ => by
  unfold opIn
  rw [dicOf_seq h]
  dsimp only
  rw [dInP_ok h h1 h2]
theorem evo_notIn (h : isSeq x = some ds) (h1 : okP 60 a = true) (h2 : okPL 60 ds = true) : Ev os (opNotIn a x) (.bl (!ds.any fun y => deq y a)) := fun st _ => by
  unfold opNotIn
  rw [dicOf_seq h]
  dsimp only
  rw [dInP_ok h h1 h2]
/-! what equality is -/
theorem deq_int {i j : Int} : deq (.int i) (.int j) = decide (i = j) := by
  simp only [deq, pyOf, PyData.eqv]
  rfl
theorem deq_str {i j : Str} : deq (.str i) (.str j) = decide (i = j) := by
  simp only [deq, pyOf, PyData.eqv]
  rw [Bool.eq_iff_iff]
  simp
theorem deq_tup {a b : List D} : deq (.tup a) (.tup b) = deqL a b := by simp only [deq, pyOf, PyData.eqv]; rfl
theorem deq_lst {a b : List D} : deq (.lst a) (.lst b) = deqL a b := by simp only [deq, pyOf, PyData.eqv]; rfl
theorem deqL_cons {a b : D} {as bs : List D} : deqL (a :: as) (b :: bs) = (deq a b && deqL as bs) := by simp only [deqL, pyOfL, PyData.eqvAll]; rfl
theorem deqL_nn : deqL [] [] = true := by simp only [deqL, pyOfL, PyData.eqvAll]
theorem deqL_nc {a : D} {as : List D} : deqL [] (a :: as) = false := by simp only [deqL, pyOfL, PyData.eqvAll]
theorem deqL_cn {a : D} {as : List D} : deqL (a :: as) [] = false := by simp only [deqL, pyOfL, PyData.eqvAll]
theorem deqL_nil {as : List D} : deqL as [] = as.isEmpty := by cases as <;> simp [deqL_nn, deqL_cn]
theorem deqL_nil' {as : List D} : deqL [] as = as.isEmpty := by cases as <;> simp [deqL_nn, deqL_nc]
theorem deq_nn : deq .non .non = true := by simp only [deq, pyOf, PyData.eqv]
theorem deq_ni {i : Int} : deq .non (.int i) = false := by simp only [deq, pyOf, PyData.eqv]
theorem deq_in {i : Int} : deq (.int i) .non = false := by simp only [deq, pyOf, PyData.eqv]
theorem deq_nt {i : List D} : deq .non (.tup i) = false := by simp only [deq, pyOf, PyData.eqv]
theorem deq_tn {i : List D} : deq (.tup i) .non = false := by simp only [deq, pyOf, PyData.eqv]
theorem deq_bl {i j : Bool} : deq (.bl i) (.bl j) = (i == j) := by simp only [deq, pyOf, PyData.eqv]
/-- an encoding that equality tells -/
class EqE (f : β → D) : Prop where
  eq : ∀ x y, deq (f x) (f y) = true ↔ x = y
instance : EqE D.int := ⟨fun x y => by rw [deq_int]; simp⟩
theorem deqL_iff {f : β → D} [h : EqE f] : ∀ {xs ys : List β}, deqL (xs.map f) (ys.map f) = true ↔ xs = ys
  | [], [] => by simp [deqL_nn]
  | [], _ :: _ => by simp [deqL_nc]
  | _ :: _, [] => by simp [deqL_cn]
  | x :: xs, y :: ys => by simp [deqL_cons, h.eq, deqL_iff (xs := xs) (ys := ys)]
instance {f : β → D} [EqE f] : EqE fun xs : List β => D.tup (xs.map f) := ⟨fun x y => by rw [deq_tup]; exact deqL_iff⟩
instance {f : β → D} [EqE f] : EqE fun xs : List β => D.lst (xs.map f) := ⟨fun x y => by rw [deq_lst]; exact deqL_iff⟩
instance : EqE iT := ⟨fun x y => by rw [deq_tup]; exact deqL_iff⟩
theorem deqL_map {f : β → D} [EqE f] [DecidableEq β] {xs ys : List β} : deqL (xs.map f) (ys.map f) = decide (xs = ys) := by
  rw [Bool.eq_iff_iff, deqL_iff, decide_eq_true_iff]
theorem deq_iT {r s : List Int} : deq (iT r) (iT s) = decide (r = s) := by rw [deq_tup]; exact deqL_map
theorem deq_TT {f : β → D} [EqE f] [DecidableEq β] {xs ys : List β} : deq (.tup (xs.map f)) (.tup (ys.map f)) = decide (xs = ys) := by rw [deq_tup, deqL_map]
theorem deq_LL {f : β → D} [EqE f] [DecidableEq β] {xs ys : List β} : deq (.lst (xs.map f)) (.lst (ys.map f)) = decide (xs = ys) := by rw [deq_lst, deqL_map]
theorem deq_tnil {f : β → D} {xs : List β} : deq (.tup (xs.map f)) (.tup []) = xs.isEmpty := by
  rw [deq_tup, deqL_nil]
  simp
theorem deq_lnil {f : β → D} {xs : List β} : deq (.lst (xs.map f)) (.lst []) = xs.isEmpty := by
  rw [deq_lst, deqL_nil]
  simp
theorem any_deq {f : β → D} [h : EqE f] [DecidableEq β] {xs : List β} {y : β} : (xs.map f).any (fun z => deq z (f y)) = decide (y ∈ xs) := by
  rw [Bool.eq_iff_iff, decide_eq_true_iff, List.any_eq_true]
  constructor
  · rintro ⟨d, hd, e⟩
    obtain ⟨z, hz, rfl⟩ := List.mem_map.mp hd
    rw [← (h.eq z y).mp e]
    exact hz
  · exact fun hy => ⟨f y, List.mem_map_of_mem hy, (h.eq y y).mpr rfl⟩
theorem okPL_int {n : Nat} : ∀ {r : List Int}, okPL n (r.map D.int) = true
  | [] => by simp [okPL]
  | i :: r => by
    show (okP n (.int i) && okPL n (r.map D.int)) = true
    rw [okPL_int]
    cases n <;> simp [okP]
theorem okPL_intf {n : Nat} {ys : List β} {f : β → Int} : okPL n (ys.map fun y => D.int (f y)) = true := by
  rw [okPL_map]
  exact List.all_eq_true.mpr fun _ _ => by cases n <;> rfl
theorem okP_ite {n : Nat} {c : Prop} [Decidable c] {x y : D} (h1 : okP n x = true) (h2 : okP n y = true) : okP n (if c then x else y) = true := by
  by_cases h : c
  · rw [if_pos h]; exact h1
  · rw [if_neg h]; exact h2
theorem okP_tmap {n : Nat} {f : β → D} {ys : List β} (h : ∀ y ∈ ys, okP n (f y) = true) : okP (n + 1) (.tup (ys.map f)) = true := by
  show okPL n (ys.map f) = true
  rw [okPL_map]
  exact List.all_eq_true.mpr h
theorem okP_lmap {n : Nat} {f : β → D} {ys : List β} (h : ∀ y ∈ ys, okP n (f y) = true) : okP (n + 1) (.lst (ys.map f)) = true := by
  show okPL n (ys.map f) = true
  rw [okPL_map]
  exact List.all_eq_true.mpr h
theorem okP_iT {n : Nat} {r : List Int} : okP (n + 1) (iT r) = true := okPL_int
theorem okPL_iT {n : Nat} : ∀ {rs : List (List Int)}, okPL (n + 1) (rs.map iT) = true := by
  intro rs
  rw [okPL_map]
  exact List.all_eq_true.mpr fun _ _ => okP_iT
/-! no refs -/
theorem bnd_ints {n : Nat} : ∀ {k : List Int}, bndL n (k.map D.int) = true
  | [] => rfl
  | i :: k => by
    show (bnd n (D.int i) && bndL n (k.map D.int)) = true
    rw [bnd_ints]
    rfl
theorem bnd_iT {n : Nat} {k : List Int} : bnd n (iT k) = true := bnd_ints
theorem bnd_rows {n : Nat} {rs : List (List Int)} : bndL n (rs.map iT) = true := bndL_of fun d hd => by
  obtain ⟨r, _, rfl⟩ := List.mem_map.mp hd
  exact bnd_iT
theorem bndL_map {n : Nat} {f : β → D} {ys : List β} (h : ∀ y ∈ ys, bnd n (f y) = true) : bndL n (ys.map f) = true := bndL_of fun d hd => by
  obtain ⟨r, hr, rfl⟩ := List.mem_map.mp hd
  exact h r hr
theorem bnd_tup_map {n : Nat} {f : β → D} {ys : List β} (h : ∀ y ∈ ys, bnd n (f y) = true) : bnd n (.tup (ys.map f)) = true := bndL_map h
theorem bnd_intf {n : Nat} {ys : List β} {f : β → Int} : bndL n (ys.map fun y => D.int (f y)) = true := bndL_map fun _ _ => rfl
theorem bnd_lst_map {n : Nat} {f : β → D} {ys : List β} (h : ∀ y ∈ ys, bnd n (f y) = true) : bnd n (.lst (ys.map f)) = true := bndL_map h
theorem bnd_ite {n : Nat} {c : Prop} [Decidable c] {x y : D} (h1 : bnd n x = true) (h2 : bnd n y = true) : bnd n (if c then x else y) = true := by
  by_cases h : c
  · rw [if_pos h]; exact h1
  · rw [if_neg h]; exact h2
theorem okR_le {i : Int} (h : 0 ≤ i) (h2 : i ≤ 1000000) : okR i = true := by
  simp only [okR, Bool.and_eq_true, decide_eq_true_eq]
  constructor
  · exact Int.le_trans (by decide) h
  · exact Int.lt_of_le_of_lt h2 (by decide)
end
end SL
namespace SL
theorem ev_fne {os : List (Nat × MO)} {N : Nat} {m : SM} {ds : List D} {d d' : D} (h : EvR os (m (startE N ds)) d') (e : d' = d) (hb : bnd 0 d = true) : Ev os (fnB N m ds) d := by
  subst e
  exact ev_fn h hb
end SL
namespace SL
open PySem
section
variable {os : List (Nat × MO)} {ρ : Env} {d d1 d2 a1 a2 a3 x1 x2 : D} {ds : List D} {ma mb mc : EM} {am : AM} {F : CF} {n m : Nat} {β γ : Type}
theorem evi_seq {ys : List β} {f : β → D} (h : Ev os (ma ρ) d) (e : isSeq d = some (ys.map f)) : EvI os (mIt (fSeq n) ma ρ) (ys.map f) := by
  cases d <;> simp only [isSeq, Option.some.injEq, reduceCtorEq] at e
  · subst e; exact evi_tup h
  · subst e; exact evi_lst h
theorem evi_seq0 (h : Ev os (ma ρ) d) (e : isSeq d = some ds) : EvI os (mIt (fSeq n) ma ρ) (ds.map fun d => d) := evi_seq h (by rw [e]; simp)
theorem evi_enum {ys : List β} {f : β → D} (h : Ev os (ma ρ) d) (e : isSeq d = some (ys.map f)) : EvI os (mIt (fEnum n) ma ρ) (ys.zipIdx.map fun p => .tup [.int (p.2 : Int), f p.1]) := by
  cases d <;> simp only [isSeq, Option.some.injEq, reduceCtorEq] at e
  · subst e; exact evi_enumT h
  · subst e; exact evi_enumL h
theorem evi_enum0 (h : Ev os (ma ρ) d) (e : isSeq d = some ds) : EvI os (mIt (fEnum n) ma ρ) (ds.zipIdx.map fun p => .tup [.int (p.2 : Int), p.1]) := evi_enum (f := fun d => d) h (by rw [e]; simp)
theorem evi_zip0 {ys : List β} {zs : List γ} {f : β → D} {f2 : γ → D} (h : Ev os (ma ρ) d1) (h2 : Ev os (mb ρ) d2) (e1 : isSeq d1 = some (ys.map f)) (e2 : isSeq d2 = some (zs.map f2)) :
    EvI os (mZip n ma mb ρ) ((ys.zip zs).map fun p => .tup [f p.1, f2 p.2]) := evi_zip h h2 e1 e2
theorem ev_call0 (h : Ev os (am ρ) ds) (h2 : Ev os (F ds) d) (hn : ds.length = n) : Ev os (mCall (arity n F) [] am ρ) d := ev_call h (by rw [List.append_nil]; exact h2) (by rw [List.append_nil]; exact hn)
theorem ev_call11 (h : Ev os (am ρ) [a1]) (h2 : Ev os (F [a1, x1]) d) : Ev os (mCall (arity 2 F) [x1] am ρ) d := ev_call h h2
theorem ev_call21 (h : Ev os (am ρ) [a1, a2]) (h2 : Ev os (F [a1, a2, x1]) d) : Ev os (mCall (arity 3 F) [x1] am ρ) d := ev_call h h2
theorem evx_call0 {c : Nat} {fs : List D} (h : Ev os (am ρ) ds) (h2 : EvX os (F ds) c fs) (hn : ds.length = n) : EvX os (mCall (arity n F) [] am ρ) c fs := evx_call h (by rw [List.append_nil]; exact h2) (by rw [List.append_nil]; exact hn)
theorem evx_call11 {c : Nat} {fs : List D} (h : Ev os (am ρ) [a1]) (h2 : EvX os (F [a1, x1]) c fs) : EvX os (mCall (arity 2 F) [x1] am ρ) c fs := evx_call h h2
theorem ev_methO0 {c : Nat} {fs : List D} (h : Ev os (ma ρ) d1) (h1 : Ev os (am ρ) ds) (h2 : Ev os (F (d1 :: ds)) d) (hi : ∀ st, insOf st c d1 = some fs) (hn : (d1 :: ds).length = n) : Ev os (mMethO c (arity n F) [] ma am ρ) d := ev_methO h h1 (by rw [List.append_nil]; exact h2) hi (by rw [List.append_nil]; exact hn)
theorem ev_prop0 {c : Nat} {fs : List D} (h : Ev os (ma ρ) d1) (h2 : Ev os (F [d1]) d) (hi : ∀ st, insOf st c d1 = some fs) : Ev os (mProp c F ma ρ) d := ev_prop h h2 hi
theorem mapId_ {l : List D} : l = l.map fun d => d := by simp
theorem evi_seqG {zs : List D} {ys : List β} {f : β → D} (h : Ev os (ma ρ) d) (e : isSeq d = some zs) (e2 : zs = ys.map f) : EvI os (mIt (fSeq n) ma ρ) (ys.map f) := evi_seq h (e2 ▸ e)
theorem evi_enumG {zs : List D} {ys : List β} {f : β → D} (h : Ev os (ma ρ) d) (e : isSeq d = some zs) (e2 : zs = ys.map f) : EvI os (mIt (fEnum n) ma ρ) (ys.zipIdx.map fun p => .tup [.int (p.2 : Int), f p.1]) := evi_enum h (e2 ▸ e)
theorem evi_zipG {xs' zs' : List D} {ys : List β} {zs : List γ} {f : β → D} {f2 : γ → D} (h : Ev os (ma ρ) d1) (h2 : Ev os (mb ρ) d2) (e1 : isSeq d1 = some xs') (e2 : isSeq d2 = some zs') (e3 : xs' = ys.map f) (e4 : zs' = zs.map f2) :
    EvI os (mZip n ma mb ρ) ((ys.zip zs).map fun p => .tup [f p.1, f2 p.2]) := evi_zip h h2 (e3 ▸ e1) (e4 ▸ e2)
theorem ev_callK1 (h : Ev os (am ρ) [a1]) (h2 : Ev os (F [a1]) d) : Ev os (mCallK (arity 1 F) [0] 1 am ρ) d := ev_callK h h2
theorem ev_callK2 (h : Ev os (am ρ) [a1, a2]) (h2 : Ev os (F [a1, a2]) d) : Ev os (mCallK (arity 2 F) [0, 1] 2 am ρ) d := ev_callK h h2
theorem ev_callK2' (h : Ev os (am ρ) [a1, a2]) (h2 : Ev os (F [a2, a1]) d) : Ev os (mCallK (arity 2 F) [1, 0] 2 am ρ) d := ev_callK h h2
theorem ev_callK3 (h : Ev os (am ρ) [a1, a2, a3]) (h2 : Ev os (F [a1, a2, a3]) d) : Ev os (mCallK (arity 3 F) [0, 1, 2] 3 am ρ) d := ev_callK h h2
end
end SL
set_option maxRecDepth 100000
set_option maxHeartbeats 2000000
/-! Level 2: dicts made by comprehensions; lists kept in the store. -/
namespace SL
open PySem
/-- storing, by keys -/
def dPut (kvs : List (D × D)) (p : D × D) : List (D × D) := match keyOf p.1 with
  | some k => dSet kvs p.1 k p.2
  | none => kvs
def dMk (ps : List (D × D)) : List (D × D) := ps.foldl dPut []
theorem dSet_len {kvs : List (D × D)} {kd vd : D} {k : NestedKey} : (dSet kvs kd k vd).length ≤ kvs.length + 1 := by
  unfold dSet
  split <;> simp
theorem dPut_len {kvs : List (D × D)} {p : D × D} : (dPut kvs p).length ≤ kvs.length + 1 := by
  unfold dPut
  split
  · exact dSet_len
  · omega
theorem dMk_app {ps : List (D × D)} {p : D × D} : dMk (ps ++ [p]) = dPut (dMk ps) p := by simp [dMk]
theorem dMk_len {ps : List (D × D)} : (dMk ps).length ≤ ps.length := by
  have key : ∀ (ps : List (D × D)) (kvs : List (D × D)), (ps.foldl dPut kvs).length ≤ kvs.length + ps.length := by
    intro ps
    induction ps with
    | nil => intro kvs; simp
    | cons p ps ih =>
      intro kvs
      have := ih (dPut kvs p)
      have := dPut_len (kvs := kvs) (p := p)
      simp only [List.foldl_cons, List.length_cons]
      omega
  have := key ps []
  rw [List.length_nil, Nat.zero_add] at this
  exact this
theorem bndK_iff {n : Nat} : ∀ {kvs : List (D × D)}, bndK n kvs = true ↔ ∀ p ∈ kvs, bnd n p.2 = true
  | [] => by simp [bndK]
  | (k, v) :: kvs => by
    show (bnd n v && bndK n kvs) = true ↔ _
    rw [Bool.and_eq_true, bndK_iff]
    simp
theorem dPut_bnd {n : Nat} {kvs : List (D × D)} {p : D × D} (h : bndK n kvs = true) (hp : bnd n p.2 = true) : bndK n (dPut kvs p) = true := by
  rw [bndK_iff] at h ⊢
  unfold dPut
  split
  · unfold dSet
    split
    · intro q hq
      obtain ⟨r, hr, rfl⟩ := List.mem_map.mp hq
      split
      · exact hp
      · exact h r hr
    · intro q hq
      rcases List.mem_append.mp hq with z | z
      · exact h q z
      · rw [List.mem_singleton.mp z]
        exact hp
  · exact h
theorem dMk_bnd {n : Nat} {ps : List (D × D)} (h : ∀ p ∈ ps, bnd n p.2 = true) : bndK n (dMk ps) = true := by
  have key : ∀ (ps : List (D × D)) (kvs : List (D × D)), bndK n kvs = true → (∀ p ∈ ps, bnd n p.2 = true) → bndK n (ps.foldl dPut kvs) = true := by
    intro ps
    induction ps with
    | nil => intro kvs h _; exact h
    | cons p ps ih =>
      intro kvs h hp
      exact ih _ (dPut_bnd h (hp p List.mem_cons_self)) fun q hq => hp q (List.mem_cons_of_mem _ hq)
  exact key ps [] rfl h
/-- a key of a dict of kind t -/
def okK (t : Bool) (d : D) : Bool := (dKey t d).isSome
theorem okK_key {t : Bool} {d : D} (h : okK t d = true) : ∃ k, dKey t d = some k ∧ keyOf d = some k := by
  unfold okK dKey at h
  unfold dKey
  by_cases c : keyKind t d = true
  · rw [if_pos c] at h ⊢
    cases e : keyOf d with
    | none => simp [e] at h
    | some k =>
      by_cases c2 : k.depth ≤ 8
      · exact ⟨k, by simp [c2], rfl⟩
      · simp [e, c2] at h
  · rw [if_neg c] at h; simp at h
theorem setDic_ok {st : Store} {n : Nat} {t : Bool} {kvs : List (D × D)} {k v : D} (e : st[n]? = some (.dic t kvs)) (hk : okK t k = true) (hz : kvs.length < sizeLine) : setDic n k v st = some (st.set n (.dic t (dPut kvs (k, v)))) := by
  obtain ⟨nk, h1, h2⟩ := okK_key hk
  unfold setDic dPut
  rw [e]
  dsimp only
  rw [h1, h2]
  dsimp only
  rw [if_pos hz]
section
variable {os : List (Nat × MO)} {ρ : Env} {mi : IM} {β : Type} {tg : TgM} {cm : TM} {mk mv e : EM} {vs : List Nat} {ys : List β} {h : β → D} {E : β → Env} {p : β → Bool} {k v f : β → D} {t : Bool}
theorem lst_last {st : Store} {o : MO} : (st ++ [o])[st.length]? = some o := by
  rw [List.getElem?_append_right (Nat.le_refl _), Nat.sub_self]
  rfl
theorem lst_set {st : Store} {o q : MO} : (st ++ [o]).set st.length q = st ++ [q] := by
  rw [List.set_append_right _ _ (Nat.le_refl _), Nat.sub_self]
  rfl
theorem dcomp_core {st : Store} (g : CG os st) (hi : EvI os (mi ρ) (ys.map h)) (ht : ∀ y ∈ ys, tg (h y) (wipeE ρ vs) = some (E y)) (hc : ∀ y ∈ ys, Ev os (cm (E y)) (p y)) (hk : ∀ y ∈ ys, p y = true → Ev os (mk (E y)) (k y)) (hv : ∀ y ∈ ys, p y = true → Ev os (mv (E y)) (v y))
    (hz : ys.length < sizeLine) (hkk : ∀ y ∈ ys, p y = true → okK t (k y) = true) (hb : ∀ y ∈ ys, p y = true → bnd 0 (v y) = true) :
    mDComp t mi tg cm mk mv vs ρ st = .ok (.ref st.length) (st ++ [.dic t (dMk ((ys.filter p).map fun y => (k y, v y)))]) := by
  obtain ⟨src, m, e0, hs, hm⟩ := hi st g
  rw [List.length_map] at hm
  have hbk : ∀ j n, bndK n (dMk (((ys.take j).filter p).map fun y => (k y, v y))) = true := fun j n => dMk_bnd fun q hq => by
    obtain ⟨y, hy, rfl⟩ := List.mem_map.mp hq
    obtain ⟨y1, y2⟩ := List.mem_filter.mp hy
    exact bnd_mono (Nat.zero_le _) (hb y (List.mem_of_mem_take y1) y2)
  have key : ∀ (f j : Nat), j ≤ ys.length → ys.length - j < f → dcompGo st.length src tg cm mk mv (wipeE ρ vs) f j (st ++ [.dic t (dMk (((ys.take j).filter p).map fun y => (k y, v y)))]) = .ok () (st ++ [.dic t (dMk ((ys.filter p).map fun y => (k y, v y)))]) := by
    intro f
    induction f with
    | zero => intro j _ z; exact absurd z (Nat.not_lt_zero _)
    | succ f ih =>
      intro j hj hf
      have g2 : CG os (st ++ [.dic t (dMk (((ys.take j).filter p).map fun y => (k y, v y)))]) := g.push (hbk j _)
      unfold dcompGo
      rw [hs j _ g2 (by rw [List.length_map]; exact hj)]
      by_cases cc : j < ys.length
      · have ey : ys[j]? = some ys[j] := List.getElem?_eq_getElem cc
        rw [List.getElem?_map, ey]
        have hm := List.mem_of_getElem? ey
        have tk : ys.take (j + 1) = ys.take j ++ [ys[j]] := by rw [List.take_succ, ey]; rfl
        dsimp only [Option.map_some]
        rw [ht _ hm]
        dsimp only
        rw [hc _ hm _ g2, bind_ok]
        cases hp : p ys[j] with
        | false =>
          rw [if_neg (by decide)]
          rw [← ih (j + 1) cc (by omega), tk, List.filter_append]
          simp [hp]
        | true =>
          rw [if_pos rfl, hk _ hm hp _ g2, bind_ok, hv _ hm hp _ g2, bind_ok, setDic_ok lst_last (hkk _ hm hp) (Nat.lt_of_le_of_lt dMk_len (by
            rw [List.length_map]
            exact Nat.lt_of_le_of_lt (Nat.le_trans (List.length_filter_le _ _) (by rw [List.length_take]; omega)) hz))]
          dsimp only
          rw [lst_set, ← ih (j + 1) cc (by omega), tk, List.filter_append]
          simp [hp, dMk_app]
      · have ej : j = ys.length := by omega
        subst ej
        rw [List.getElem?_eq_none (by simp), List.take_length]
  have k0 := key m 0 (Nat.zero_le _) (by omega)
  unfold mDComp
  rw [e0, bind_ok]
  dsimp only
  have e2 : dMk ((List.filter p (List.take 0 ys)).map fun y => (k y, v y)) = [] := rfl
  rw [e2] at k0
  rw [k0]
  rfl
theorem ev_dcomp (hi : EvI os (mi ρ) (ys.map h)) (ht : ∀ y ∈ ys, tg (h y) (wipeE ρ vs) = some (E y)) (hc : ∀ y ∈ ys, Ev os (cm (E y)) (p y)) (hk : ∀ y ∈ ys, p y = true → Ev os (mk (E y)) (k y)) (hv : ∀ y ∈ ys, p y = true → Ev os (mv (E y)) (v y))
    (hz : ys.length < sizeLine) (hkk : ∀ y ∈ ys, p y = true → okK t (k y) = true) (hb : ∀ y ∈ ys, p y = true → bnd 0 (v y) = true) :
    Ev os (closeE (mDComp t mi tg cm mk mv vs) ρ) (.dic t (dMk ((ys.filter p).map fun y => (k y, v y)))) := fun st g => by
  unfold closeE
  rw [dcomp_core g hi ht hc hk hv hz hkk hb, close_dic (Nat.le_refl _) lst_last (dMk_bnd fun q hq => by
    obtain ⟨y, hy, rfl⟩ := List.mem_map.mp hq
    obtain ⟨y1, y2⟩ := List.mem_filter.mp hy
    exact bnd_mono (Nat.zero_le _) (hb y y1 y2)) (by rw [take_append_one]; exact g.cl), take_append_one]
theorem ev_dcomp_t (hi : EvI os (mi ρ) (ys.map h)) (ht : ∀ y ∈ ys, tg (h y) (wipeE ρ vs) = some (E y)) (hk : ∀ y ∈ ys, Ev os (mk (E y)) (k y)) (hv : ∀ y ∈ ys, Ev os (mv (E y)) (v y))
    (hz : ys.length < sizeLine) (hkk : ∀ y ∈ ys, okK t (k y) = true) (hb : ∀ y ∈ ys, bnd 0 (v y) = true) :
    Ev os (closeE (mDComp t mi tg mTrue mk mv vs) ρ) (.dic t (dMk (ys.map fun y => (k y, v y)))) := by
  have z := ev_dcomp (p := fun _ => true) hi ht (fun _ _ => (fun _ _ => rfl : Ev os (mTrue _) true)) (fun y hy _ => hk y hy) (fun y hy _ => hv y hy) hz (fun y hy _ => hkk y hy) (fun y hy _ => hb y hy)
  rwa [List.filter_eq_self.mpr fun _ _ => rfl] at z
/-- a list comprehension, kept -/
theorem comp_keep {st : Store} (g : CG os st) (hi : EvI os (mi ρ) (ys.map h)) (ht : ∀ y ∈ ys, tg (h y) (wipeE ρ vs) = some (E y)) (hc : ∀ y ∈ ys, Ev os (cm (E y)) (p y)) (he : ∀ y ∈ ys, p y = true → Ev os (e (E y)) (f y))
    (hz : ys.length < sizeLine) (hb : ∀ y ∈ ys, p y = true → bnd 0 (f y) = true) : mComp mi tg cm e vs ρ st = .ok (.ref st.length) (st ++ [.lst ((ys.filter p).map f)]) := by
  obtain ⟨src, m, e0, hs, hm⟩ := hi st g
  rw [List.length_map] at hm
  have hacc : ∀ k, bndL st.length (((ys.take k).filter p).map f) = true := fun k => bndL_of fun x hx => by
    obtain ⟨y, hy, rfl⟩ := List.mem_map.mp hx
    obtain ⟨y1, y2⟩ := List.mem_filter.mp hy
    exact bnd_mono (Nat.zero_le _) (hb y (List.mem_of_mem_take y1) y2)
  have key := comp_sat (n := st.length) (G := CG os) (src := src) (xs := ys.map h) (tg := tg) (c := cm) (e := e) (ρ0 := wipeE ρ vs) (fun k base acc => base = st ∧ acc = ((ys.take k).filter p).map f ∧ k ≤ ys.length) hs (fun k base acc ⟨h1, h2, h3⟩ => by
      subst h1
      refine g.push ?_
      rw [h2]
      exact hacc k) (fun k base acc ⟨h1, h2, h3⟩ => ⟨by rw [h1], by
      rw [h2, List.length_map]
      exact Nat.lt_of_le_of_lt (Nat.le_trans (List.length_filter_le _ _) (by rw [List.length_take]; omega)) hz⟩)
    (fun k d base acc ex ⟨h1, h2, h3⟩ => by
      subst h1
      rw [List.getElem?_map] at ex
      cases ey : ys[k]? with
      | none => rw [ey] at ex; cases ex
      | some y =>
        rw [ey] at ex
        cases ex
        have hd := List.mem_of_getElem? ey
        have hk : k < ys.length := (List.getElem?_eq_some_iff.mp ey).1
        have tk : ys.take (k + 1) = ys.take k ++ [y] := by rw [List.take_succ, ey]; rfl
        have g2 : CG os (base ++ [MO.lst acc]) := g.push (by rw [h2]; exact hacc k)
        refine ⟨E y, ht y hd, ?_⟩
        rw [hc y hd _ g2]
        refine .ok ⟨base, rfl, rfl, fun hp => ⟨rfl, ?_, hk⟩, fun hp => ?_⟩
        · rw [tk, List.filter_append, h2]
          simp [hp]
        · rw [he y hd hp _ g2]
          refine .ok ⟨base, rfl, rfl, rfl, ?_, hk⟩
          rw [tk, List.filter_append, h2]
          simp [hp]) m 0 st [] (Nat.zero_le _) (by rw [List.length_map]; omega) ⟨rfl, by simp, Nat.zero_le _⟩
  obtain ⟨u, st', e1, base', acc', e2, h1, h2, h3⟩ := sat_iff.mp key
  subst h1
  rw [List.length_map, List.take_length] at h2
  unfold mComp
  rw [e0]
  simp only [bind_ok]
  rw [e1, e2, h2]
  rfl
end
/-! keys that are rows -/
theorem okK_iT {r : List Int} : okK true (iT r) = true := by
  unfold okK
  rw [dKey_iT]
  rfl
theorem okK_int {i : Int} : okK false (.int i) = true := rfl
theorem dMk_rows {rs : List (List Int)} {v : List Int → D} (h : rs.Nodup) : dMk (rs.map fun r => (iT r, v r)) = rs.map fun r => (iT r, v r) := by
  have key : ∀ (b a : List (List Int)), (a ++ b).Nodup → (b.map fun r => (iT r, v r)).foldl dPut (a.map fun r => (iT r, v r)) = (a ++ b).map fun r => (iT r, v r) := by
    intro b
    induction b with
    | nil => intro a _; simp
    | cons r b ih =>
      intro a hn
      have nin : r ∉ a := fun z => by
        have := List.nodup_append.mp hn
        exact this.2.2 r z r List.mem_cons_self rfl
      have e : dPut (a.map fun r => (iT r, v r)) (iT r, v r) = (a ++ [r]).map fun r => (iT r, v r) := by
        unfold dPut
        rw [keyOf_iT]
        dsimp only
        rw [dSet_new nin]
        simp
      rw [List.map_cons, List.foldl_cons, e, ih (a ++ [r]) (by simpa using hn)]
      simp
  have := key rs [] (by simpa using h)
  simpa [dMk] using this
end SL
set_option maxRecDepth 100000
set_option maxHeartbeats 2000000
/-! Level 2: what holds behind code that changes the store (sat), rule by rule. -/
namespace SL
open PySem
section
variable {os : List (Nat × MO)} {ρ ρ1 : Env} {st st1 : Store} {d : D} {ds dds : List D} {ma mb mc : EM} {am : AM} {F : CF} {n : Nat} {tm tk : TM} {m k mm : SM} {α β : Type}
theorem sw_pure {r : Store → Res α} {a : α} {Q : α → Store → Prop} (h : Ev os r a) (g : CG os st) (q : Q a st) : sat (r st) Q := by
  rw [h st g]
  exact .ok q
theorem sw_eq {r : Res α} {a : α} {Q : α → Store → Prop} (h : r = .ok a st) (q : Q a st) : sat r Q := by
  rw [h]
  exact .ok q
theorem sw_seq {Q : Fl × Env → Store → Prop} (h : sat (m ρ st) fun r st1 => match r with
    | (.nx, ρ1) => sat (k ρ1 st1) Q
    | (.rt d, ρ1) => Q (.rt d, ρ1) st1
    | (.bk, ρ1) => Q (.bk, ρ1) st1
    | (.ct, ρ1) => Q (.ct, ρ1) st1) : sat (sSeq m k ρ st) Q := by
  unfold sSeq
  refine sat_bind h fun r st1 q => ?_
  obtain ⟨fl, ρ1⟩ := r
  cases fl
  · exact q
  all_goals exact .ok q
/-- .. that goes on -/
theorem sw_sq {P : Env → Store → Prop} {Q : Fl × Env → Store → Prop} (h : sat (m ρ st) fun r st1 => r.1 = .nx ∧ P r.2 st1) (h2 : ∀ ρ1 st1, P ρ1 st1 → sat (k ρ1 st1) Q) : sat (sSeq m k ρ st) Q :=
  sw_seq (sat_mono h fun r st1 ⟨h3, h4⟩ => by
    obtain ⟨fl, ρ1⟩ := r
    obtain rfl : fl = .nx := h3
    exact h2 _ _ h4)
theorem sw_nil {Q : Fl × Env → Store → Prop} (h : Q (.nx, ρ) st) : sat (sNil ρ st) Q := .ok h
theorem sw_cont {Q : Fl × Env → Store → Prop} (h : Q (.ct, ρ) st) : sat (sCont ρ st) Q := .ok h
theorem sw_brk {Q : Fl × Env → Store → Prop} (h : Q (.bk, ρ) st) : sat (sBreak ρ st) Q := .ok h
theorem sw_asg {i : Nat} {Q : Fl × Env → Store → Prop} (h : sat (ma ρ st) fun d st1 => Q (.nx, ρ.set i (some d)) st1) : sat (sAsg ma (gmName i) ρ st) Q := by
  unfold sAsg
  refine sat_bind h fun d st1 q => ?_
  exact .ok q
theorem sw_asgG {g : GM} {Q : Fl × Env → Store → Prop} (h : sat (ma ρ st) fun d st1 => sat (g d ρ st1) fun ρ1 st2 => Q (.nx, ρ1) st2) : sat (sAsg ma g ρ st) Q := by
  unfold sAsg
  exact sat_bind h fun d st1 q => sat_bind q fun ρ1 st2 z => .ok z
theorem sw_expr {Q : Fl × Env → Store → Prop} (h : sat (ma ρ st) fun _ st1 => Q (.nx, ρ) st1) : sat (sExpr ma ρ st) Q := by
  unfold sExpr
  exact sat_bind h fun d st1 q => .ok q
theorem sw_ret {Q : Fl × Env → Store → Prop} (h : sat (ma ρ st) fun d st1 => Q (.rt d, ρ) st1) : sat (sRet ma ρ st) Q := by
  unfold sRet
  exact sat_bind h fun d st1 q => .ok q
theorem sw_if {Q : Fl × Env → Store → Prop} (h : sat (tm ρ st) fun b st1 => (b = true → sat (m ρ st1) Q) ∧ (b = false → sat (k ρ st1) Q)) : sat (sIf tm m k ρ st) Q := by
  unfold sIf
  refine sat_bind h fun b st1 ⟨q1, q2⟩ => ?_
  cases b with
  | true => exact q1 rfl
  | false => exact q2 rfl
theorem sw_bin {f : O2} {Q : D → Store → Prop} (h : sat (ma ρ st) fun x st1 => sat (mb ρ st1) fun y st2 => sat (f x y st2) Q) : sat (mBin f ma mb ρ st) Q := by
  unfold mBin
  exact sat_bind h fun x st1 q => sat_bind q fun y st2 z => z
theorem sw_un {f : D → Store → Res D} {Q : D → Store → Prop} (h : sat (ma ρ st) fun x st1 => sat (f x st1) Q) : sat (mUn f ma ρ st) Q := by
  unfold mUn
  exact sat_bind h fun x st1 q => q
theorem sw_call {Q : D → Store → Prop} (h : sat (am ρ st) fun xs st1 => (xs ++ dds).length = n ∧ sat (F (xs ++ dds) st1) Q) : sat (mCall (arity n F) dds am ρ st) Q := by
  unfold mCall arity
  exact sat_bind h fun x st1 ⟨q1, q2⟩ => by
    rw [if_pos q1]
    exact q2
theorem sw_call0 {Q : D → Store → Prop} (h : sat (am ρ st) fun xs st1 => xs.length = n ∧ sat (F xs st1) Q) : sat (mCall (arity n F) [] am ρ st) Q := sw_call (sat_mono h fun xs st1 ⟨q1, q2⟩ => by
  rw [List.append_nil]
  exact ⟨q1, q2⟩)
theorem sw_cb {Q : D → Store → Prop} (h : sat (am ρ st) fun xs st1 => sat (F xs st1) Q) : sat (mCB F am ρ st) Q := by
  unfold mCB
  exact sat_bind h fun x st1 q => q
theorem sw_anil {Q : List D → Store → Prop} (h : Q [] st) : sat (aNil ρ st) Q := .ok h
theorem sw_acons {Q : List D → Store → Prop} (h : sat (ma ρ st) fun x st1 => sat (am ρ st1) fun xs st2 => Q (x :: xs) st2) : sat (aCons ma am ρ st) Q := by
  unfold aCons
  exact sat_bind h fun x st1 q => sat_bind q fun y st2 z => .ok z
theorem sw_tup {Q : D → Store → Prop} (h : sat (am ρ st) fun xs st1 => xs.length ≤ sizeLine ∧ Q (.tup xs) st1) : sat (mTup am ρ st) Q := by
  unfold mTup
  exact sat_bind h fun x st1 ⟨q1, q2⟩ => by rw [if_pos q1]; exact .ok q2
theorem sw_lst {Q : D → Store → Prop} (h : sat (am ρ st) fun xs st1 => xs.length ≤ sizeLine ∧ Q (.lst xs) st1) : sat (mLst am ρ st) Q := by
  unfold mLst
  exact sat_bind h fun x st1 ⟨q1, q2⟩ => by rw [if_pos q1]; exact .ok q2
theorem sw_var {i : Nat} {Q : D → Store → Prop} (h : ρ[i]? = some (some d)) (q : Q d st) : sat (mVar i ρ st) Q := by
  unfold mVar
  rw [h]
  exact .ok q
theorem sw_c {Q : D → Store → Prop} (q : Q d st) : sat (mC d ρ st) Q := .ok q
theorem sw_test {Q : Bool → Store → Prop} (h : sat (ma ρ st) fun x st1 => ∃ b, x = .bl b ∧ Q b st1) : sat (mTest ma ρ st) Q := by
  unfold mTest toB
  refine sat_bind h fun x st1 ⟨b, e, q⟩ => ?_
  subst e
  exact .ok q
theorem sw_tand {Q : Bool → Store → Prop} (h : sat (tm ρ st) fun b st1 => (b = true → sat (tk ρ st1) Q) ∧ (b = false → Q false st1)) : sat (tmAnd tm tk ρ st) Q := by
  unfold tmAnd
  refine sat_bind h fun b st1 ⟨q1, q2⟩ => ?_
  cases b with
  | true => exact q1 rfl
  | false => exact .ok (q2 rfl)
theorem sw_tor {Q : Bool → Store → Prop} (h : sat (tm ρ st) fun b st1 => (b = true → Q true st1) ∧ (b = false → sat (tk ρ st1) Q)) : sat (tmOr tm tk ρ st) Q := by
  unfold tmOr
  refine sat_bind h fun b st1 ⟨q1, q2⟩ => ?_
  cases b with
  | true => exact .ok (q1 rfl)
  | false => exact q2 rfl
theorem sw_tnot {Q : Bool → Store → Prop} (h : sat (tm ρ st) fun b st1 => Q (!b) st1) : sat (tmNot tm ρ st) Q := by
  unfold tmNot
  exact sat_bind h fun b st1 q => .ok q
theorem sw_eif {Q : D → Store → Prop} (h : sat (tm ρ st) fun b st1 => (b = true → sat (ma ρ st1) Q) ∧ (b = false → sat (mb ρ st1) Q)) : sat (mIf tm ma mb ρ st) Q := by
  unfold mIf
  refine sat_bind h fun b st1 ⟨q1, q2⟩ => ?_
  cases b with
  | true => exact q1 rfl
  | false => exact q2 rfl
/-- for -/
theorem sw_for {mi : IM} {tg : GM} {b : SM} {ys : List β} {h : β → D} (I : Nat → Env → Store → Prop) {Q : Fl × Env → Store → Prop} (hi : EvI os (mi ρ) (ys.map h)) (hG : ∀ k ρ st, I k ρ st → CG os st) (h0 : I 0 ρ st)
    (step : ∀ k y ρ st, ys[k]? = some y → I k ρ st → sat ((tg (h y) ρ st).bind fun ρ1 st1 => b ρ1 st1) fun r st2 => match r with
      | (.nx, ρ2) => I (k + 1) ρ2 st2
      | (.ct, ρ2) => I (k + 1) ρ2 st2
      | (.bk, ρ2) => Q (.nx, ρ2) st2
      | (.rt d, ρ2) => Q (.rt d, ρ2) st2)
    (fin : ∀ ρ st, I ys.length ρ st → Q (.nx, ρ) st) : sat (sFor mi tg b ρ st) Q := by
  obtain ⟨src, m, e0, hs, hm⟩ := hi st (hG _ _ _ h0)
  rw [List.length_map] at hm
  unfold sFor
  rw [e0, bind_ok]
  refine for_sat (G := CG os) (xs := ys.map h) I (fun _ _ => True) hs hG (fun k d ρ s ex hI => ?_) (fun ρ s hI => fin ρ s (by rwa [List.length_map] at hI)) m 0 ρ st (Nat.zero_le _) (by rw [List.length_map]; omega) h0
  rw [List.getElem?_map] at ex
  cases ey : ys[k]? with
  | none => rw [ey] at ex; cases ex
  | some y =>
    rw [ey] at ex
    cases ex
    exact step k y ρ s ey hI
/-- a def whose code changes only what it made -/
theorem ev_fnS {N : Nat} (h : ∀ st, CG os st → sat (m (startE N ds) st) fun r st' => r.1 = .rt d ∧ st'.take st.length = st) (hb : bnd 0 d = true) : Ev os (fnB N m ds) d := fun st g => by
  obtain ⟨⟨fl, ρ'⟩, st', e, h1, h2⟩ := sat_iff.mp (h st g)
  obtain rfl : fl = .rt d := h1
  have z := fn_ret e (bnd_mono (Nat.zero_le _) hb) (by rw [h2]; exact g.cl)
  rwa [h2] at z
theorem ev_fnSN {N : Nat} (h : ∀ st, CG os st → sat (m (startE N ds) st) fun r st' => r.1 = .nx ∧ st'.take st.length = st) : Ev os (fnB N m ds) .non := fun st g => by
  obtain ⟨⟨fl, ρ'⟩, st', e, h1, h2⟩ := sat_iff.mp (h st g)
  obtain rfl : fl = .nx := h1
  have z := fn_nx e (by rw [h2]; exact g.cl)
  rwa [h2] at z
/-- .. that gives back a list of its own -/
theorem ev_fnSL {N : Nat} {xs : List D} (h : ∀ st, CG os st → sat (m (startE N ds) st) fun r st' => ∃ i, r.1 = .rt (.ref i) ∧ st.length ≤ i ∧ st'[i]? = some (.lst xs) ∧ st'.take st.length = st) (hb : bndL 0 xs = true) : Ev os (fnB N m ds) (.lst xs) := fun st g => by
  obtain ⟨⟨fl, ρ'⟩, st', e, i, h1, h2, h3, h4⟩ := sat_iff.mp (h st g)
  obtain rfl : fl = .rt (.ref i) := h1
  unfold fnB
  rw [e]
  have z := close_lst (st := st') h2 h3 (bndL_mono (Nat.zero_le _) hb) (by rw [h4]; exact g.cl)
  rw [h4] at z
  exact z
theorem ev_fnSD {N : Nat} {t : Bool} {kvs : List (D × D)} (h : ∀ st, CG os st → sat (m (startE N ds) st) fun r st' => ∃ i, r.1 = .rt (.ref i) ∧ st.length ≤ i ∧ st'[i]? = some (.dic t kvs) ∧ st'.take st.length = st) (hb : bndK 0 kvs = true) : Ev os (fnB N m ds) (.dic t kvs) := fun st g => by
  obtain ⟨⟨fl, ρ'⟩, st', e, i, h1, h2, h3, h4⟩ := sat_iff.mp (h st g)
  obtain rfl : fl = .rt (.ref i) := h1
  unfold fnB
  rw [e]
  have z := close_dic (st := st') h2 h3 (bndK_mono (Nat.zero_le _) hb) (by rw [h4]; exact g.cl)
  rw [h4] at z
  exact z
theorem CG.nil {st : Store} (h : clS st.length st = true) : CG [] st := ⟨h, by simp⟩
theorem CG.weak {st : Store} (h : CG os st) : CG [] st := ⟨h.1, by simp⟩
theorem Ev.of {r : Store → Res α} {a : α} (h : Ev [] r a) : Ev os r a := fun st g => h st g.weak
/-- a new thing at the end -/
theorem CG.new {o : MO} (g : CG [] st) (ho : bndM st.length o = true) : CG [(st.length, o)] (st ++ [o]) := ⟨(g.push ho).1, fun p hp => by
  rw [List.mem_singleton.mp hp]
  exact lst_last⟩
theorem fPop_ok {st : Store} {n : Nat} {xs : List D} {k : Int} (e : st[n]? = some (.lst xs)) (h0 : 0 ≤ k) (h : k.toNat < xs.length) : fPop (.ref n) [.int k] st = .ok xs[k.toNat] (st.set n (.lst (xs.eraseIdx k.toNat))) := by
  have e1 : L2.ixN xs.length k = some k.toNat := by
    unfold L2.ixN
    rw [if_pos h0, if_pos (by omega)]
  unfold fPop
  dsimp only
  rw [e]
  dsimp only
  rw [e1]
  dsimp only
  rw [List.getElem?_eq_getElem h]
theorem tyD_list {st : Store} {n : Nat} {xs : List D} (e : st[n]? = some (.lst xs)) : tyD "list" st (.ref n) = true := by simp [tyD, lstOf, e]
theorem sw_pop {mo : EM} {st : Store} {ρ : Env} {n : Nat} {xs : List D} {am : AM} {Q : D → Store → Prop} (ho : mo ρ st = .ok (.ref n) st) (e : st[n]? = some (.lst xs)) (h : sat (am ρ st) fun ds st2 => ∃ (k : Int) (ys : List D), ds = [.int k] ∧ st2[n]? = some (.lst ys) ∧ 0 ≤ k ∧ ∃ h : k.toNat < ys.length, Q ys[k.toNat] (st2.set n (.lst (ys.eraseIdx k.toNat)))) : sat (mMeth "list" fPop mo am ρ st) Q := by
  unfold mMeth
  rw [ho, bind_ok, if_pos (tyD_list e)]
  refine sat_bind h fun ds st2 ⟨k, ys, e1, e2, h0, h1, q⟩ => ?_
  subst e1
  rw [fPop_ok e2 h0 h1]
  exact .ok q
theorem sw_append {mo : EM} {st : Store} {ρ : Env} {n : Nat} {xs : List D} {am : AM} {Q : D → Store → Prop} (ho : mo ρ st = .ok (.ref n) st) (e : st[n]? = some (.lst xs)) (h : sat (am ρ st) fun ds st2 => ∃ (d : D) (ys : List D), ds = [d] ∧ st2[n]? = some (.lst ys) ∧ ys.length < sizeLine ∧ Q .non (st2.set n (.lst (ys ++ [d])))) : sat (mMeth "list" fAppend mo am ρ st) Q := by
  unfold mMeth
  rw [ho, bind_ok, if_pos (tyD_list e)]
  refine sat_bind h fun ds st2 ⟨d, ys, e1, e2, h1, q⟩ => ?_
  subst e1
  unfold fAppend
  dsimp only
  rw [e2]
  dsimp only
  rw [if_pos h1]
  exact .ok q
end
end SL
set_option maxRecDepth 100000
set_option maxHeartbeats 2000000
/-! Level 2: sorting; dicts with int keys. -/
namespace SL
open PySem PySem.Spec PyProof.Rows L2 PySem.W
def leD (a b : D) : Bool := dataLe false pyOf a b
theorem leD_tot : TotalLe leD := sortLe_total (listOrd itemOrd) false _
theorem leD_trans {a b c : D} : leD a b = true → leD b c = true → leD a c = true := leD_tot.trans a b c
theorem leD_total (a b : D) : (leD a b || leD b a) = true := by
  rcases leD_tot.total a b with z | z
  · exact Bool.or_eq_true_iff.mpr (.inl z)
  · exact Bool.or_eq_true_iff.mpr (.inr z)
section
variable {os : List (Nat × MO)} {β : Type}
theorem sorted_core {st : Store} {xs : List D} (h : ∀ x ∈ xs, okP 60 x = true) (ha : ∀ x ∈ xs, ∀ y ∈ xs, alike (pyOf x) (pyOf y) = true) (hc : (∀ x ∈ xs, isTc (pyOf x) = true) ∨ ∀ x ∈ xs, isOt (pyOf x) = true) : okSort st xs = true ∧ sortD st xs = xs.mergeSort leD := by
  have e : ∀ x ∈ xs, encS st x = pyOf x := fun x hx => by
    unfold encS
    rw [okP_pyD (h x hx)]
    rfl
  constructor
  · simp only [okSort, Bool.and_eq_true, List.all_eq_true, Bool.or_eq_true]
    refine ⟨fun x hx => ⟨by rw [okP_pyD (h x hx)]; rfl, by rw [e x hx]; exact okP_shaped (h x hx) (by decide)⟩, fun x hx y hy => by rw [e x hx, e y hy]; exact ha x hx y hy, ?_⟩
    rcases hc with hc | hc
    · exact .inl fun x hx => by rw [e x hx]; exact hc x hx
    · exact .inr fun x hx => by rw [e x hx]; exact hc x hx
  · unfold sortD
    have key := List.map_mergeSort (r := dataLe false (encS st)) (s := leD) (f := _root_.id) (l := xs) (fun a ha' b hb => by
      unfold leD dataLe sortLe
      simp only [_root_.id]
      rw [e a ha', e b hb])
    simpa using key
theorem sort_map {f : β → D} {ys : List β} : (ys.map f).mergeSort leD = (ys.mergeSort fun a b => leD (f a) (f b)).map f := (List.map_mergeSort (f := f) (r := fun a b => leD (f a) (f b)) (s := leD) fun a _ b _ => rfl).symm
theorem evb_sorted {ys : List β} {f : β → D} (h : ∀ x ∈ ys, okP 60 (f x) = true) (ha : ∀ x ∈ ys, ∀ y ∈ ys, alike (pyOf (f x)) (pyOf (f y)) = true) (hc : (∀ x ∈ ys, isTc (pyOf (f x)) = true) ∨ ∀ x ∈ ys, isOt (pyOf (f x)) = true) : Ev os (bSortedF [.lst (ys.map f)]) (.lst ((ys.mergeSort fun a b => leD (f a) (f b)).map f)) := fun st _ => by
  obtain ⟨h1, h2⟩ := sorted_core (st := st) (xs := ys.map f) (by simpa using h) (by simpa using ha) (by simpa using hc)
  unfold bSortedF itsOf seqOf
  dsimp only
  rw [if_pos h1, h2, sort_map]
/-- .. of a dict: its keys -/
theorem evb_sortedD {t : Bool} {kvs : List (D × D)} {ys : List β} {f : β → D} (e : kvs.map (·.1) = ys.map f) (h : ∀ x ∈ ys, okP 60 (f x) = true) (ha : ∀ x ∈ ys, ∀ y ∈ ys, alike (pyOf (f x)) (pyOf (f y)) = true) (hc : (∀ x ∈ ys, isTc (pyOf (f x)) = true) ∨ ∀ x ∈ ys, isOt (pyOf (f x)) = true) : Ev os (bSortedF [.dic t kvs]) (.lst ((ys.mergeSort fun a b => leD (f a) (f b)).map f)) := fun st _ => by
  obtain ⟨h1, h2⟩ := sorted_core (st := st) (xs := ys.map f) (by simpa using h) (by simpa using ha) (by simpa using hc)
  unfold bSortedF itsOf seqOf dicOf
  dsimp only
  rw [e, if_pos h1, h2, sort_map]
/-! ints -/
theorem leD_int {a b : Int} : leD (.int a) (.int b) = decide (a ≤ b) := by
  simp only [leD, dataLe, sortLe, pyOf, keyToks, cond_false]
  show (!PyProof.Rows.lexLt itemOrd [Sum.inl b] [Sum.inl a]) = _
  by_cases h : b < a
  · simp [PyProof.Rows.lexLt, itemLt, h]
  · simp [PyProof.Rows.lexLt, itemLt, h]
    omega
def srtI (ks : List Int) : List Int := ks.mergeSort fun a b => decide (a ≤ b)
theorem srtI_perm {ks : List Int} : (srtI ks).Perm ks := List.mergeSort_perm ks _
theorem int_alike {a b : Int} : alike (pyOf (.int a)) (pyOf (.int b)) = true := by simp [pyOf, alike]
theorem int_ot {a : Int} : isOt (pyOf (.int a)) = true := by simp [pyOf, isOt]
theorem evb_sortedI {ks : List Int} : Ev os (bSortedF [.lst (ks.map .int)]) (.lst ((srtI ks).map .int)) := by
  have z := evb_sorted (os := os) (ys := ks) (f := D.int) (fun _ _ => rfl) (fun _ _ _ _ => int_alike) (.inr fun _ _ => int_ot)
  simp only [leD_int] at z
  exact z
theorem evb_sortedDI {t : Bool} {kvs : List (D × D)} {ks : List Int} (e : kvs.map (·.1) = ks.map .int) : Ev os (bSortedF [.dic t kvs]) (.lst ((srtI ks).map .int)) := by
  have z := evb_sortedD (os := os) (t := t) (ys := ks) (f := D.int) e (fun _ _ => rfl) (fun _ _ _ _ => int_alike) (.inr fun _ _ => int_ot)
  simp only [leD_int] at z
  exact z
/-! dicts with int keys, one value -/
def dKs (l : List Int) : List Int := l.foldl (fun a x => if x ∈ a then a else a ++ [x]) []
theorem dKs_mem {l : List Int} {x : Int} : x ∈ dKs l ↔ x ∈ l := by
  have key : ∀ (l a : List Int), x ∈ l.foldl (fun a x => if x ∈ a then a else a ++ [x]) a ↔ x ∈ a ∨ x ∈ l := by
    intro l
    induction l with
    | nil => intro a; simp
    | cons y l ih =>
      intro a
      rw [List.foldl_cons, ih]
      by_cases h : y ∈ a
      · rw [if_pos h]
        constructor
        · rintro (q | q)
          · exact .inl q
          · exact .inr (List.mem_cons_of_mem _ q)
        · rintro (q | q)
          · exact .inl q
          · rcases List.mem_cons.mp q with rfl | q
            · exact .inl h
            · exact .inr q
      · rw [if_neg h]
        simp only [List.mem_append, List.mem_cons, List.not_mem_nil, or_false]
        constructor
        · rintro ((q | q) | q)
          · exact .inl q
          · exact .inr (.inl q)
          · exact .inr (.inr q)
        · rintro (q | q | q)
          · exact .inl (.inl q)
          · exact .inl (.inr q)
          · exact .inr q
  have := key l []
  simp only [List.not_mem_nil, false_or] at this
  exact this
theorem dKs_nd {l : List Int} : (dKs l).Nodup := by
  have key : ∀ (l a : List Int), a.Nodup → (l.foldl (fun a x => if x ∈ a then a else a ++ [x]) a).Nodup := by
    intro l
    induction l with
    | nil => intro a h; exact h
    | cons y l ih =>
      intro a h
      rw [List.foldl_cons]
      refine ih _ ?_
      by_cases c : y ∈ a
      · rw [if_pos c]; exact h
      · rw [if_neg c]
        refine List.nodup_append.mpr ⟨h, by simp, ?_⟩
        intro x hx z hz e
        rw [List.mem_singleton.mp hz] at e
        exact c (e ▸ hx)
  exact key l [] List.nodup_nil
theorem dLook_int {a : List Int} {v : D} {x : Int} : dLook (a.map fun i => (D.int i, v)) (.num x) = if x ∈ a then some v else none := by
  induction a with
  | nil => rfl
  | cons i a ih =>
    unfold dLook at ih ⊢
    rw [List.map_cons, List.find?_cons]
    by_cases h : i = x
    · subst h
      simp [keyOf]
    · have h2 : ¬ x = i := fun e => h e.symm
      simp only [keyOf, Option.some.injEq, NestedKey.num.injEq, h, decide_false]
      rw [ih]
      simp [h2]
theorem dPut_int {a : List Int} {v : D} {x : Int} : dPut (a.map fun i => (D.int i, v)) (.int x, v) = (if x ∈ a then a else a ++ [x]).map fun i => (D.int i, v) := by
  unfold dPut
  simp only [keyOf]
  unfold dSet
  rw [dLook_int]
  by_cases h : x ∈ a
  · rw [if_pos h, if_pos (by rfl), if_pos h, List.map_map]
    refine List.map_congr_left fun i _ => ?_
    simp
  · rw [if_neg h, if_neg (by simp), if_neg h]
    simp
theorem dMk_ints {ys : List β} {k : β → Int} {v : D} : dMk (ys.map fun y => (.int (k y), v)) = (dKs (ys.map k)).map fun i => (D.int i, v) := by
  have key : ∀ (ys : List β) (a : List Int), (ys.map fun y => (D.int (k y), v)).foldl dPut (a.map fun i => (D.int i, v)) = ((ys.map k).foldl (fun a x => if x ∈ a then a else a ++ [x]) a).map fun i => (D.int i, v) := by
    intro ys
    induction ys with
    | nil => intro a; rfl
    | cons y ys ih =>
      intro a
      rw [List.map_cons, List.foldl_cons, dPut_int, ih]
      rfl
  exact key ys []
theorem evb_sorted_keys {t : Bool} {ys : List β} {k : β → Int} {v : D} : Ev os (bSortedF [.dic t (dMk (ys.map fun y => (.int (k y), v)))]) (.lst ((srtI (dKs (ys.map k))).map .int)) := evb_sortedDI (by rw [dMk_ints, List.map_map]; rfl)
end
end SL
set_option maxRecDepth 100000
set_option maxHeartbeats 2000000
/-! Level 2: loops that gather. -/
namespace SL
open PySem
section
variable {os : List (Nat × MO)} {ρ : Env} {β : Type} {mi : IM} {e : EM}
/-- for y in ys: x = x + e -/
theorem acc_for {ys : List β} {h : β → D} {g : β → List D} {i j : Nat} {a0 : List D} (hij : i ≠ j) (hi : EvI os (mi ρ) (ys.map h)) (hρi : ρ[i]? = some (some (.lst a0))) (hρj : j < ρ.length)
    (he : ∀ y ∈ ys, ∀ acc, Ev os (e ((ρ.set i (some (.lst acc))).set j (some (h y)))) (.lst (g y))) (hz : a0.length + (ys.flatMap g).length ≤ sizeLine) {st : Store} (cg : CG os st) :
    sat (sFor mi (gmName j) (sAsg (mBin opAdd (mVar i) e) (gmName i)) ρ st) fun r st' => st' = st ∧ ∃ a, r = (.nx, (ρ.set i (some (.lst (a0 ++ ys.flatMap g)))).set j a) := by
  have hρi2 : i < ρ.length := (List.getElem?_eq_some_iff.mp hρi).1
  refine sw_for (os := os) (ys := ys) (h := h) (fun k ρ' s => s = st ∧ ∃ a, ρ' = (ρ.set i (some (.lst (a0 ++ (ys.take k).flatMap g)))).set j a) hi ?_ ?_ ?_ ?_
  · rintro _ _ _ ⟨rfl, _⟩
    exact cg
  · refine ⟨rfl, ρ[j], ?_⟩
    simp only [List.take_zero, List.flatMap_nil, List.append_nil]
    rw [show ρ.set i (some (.lst a0)) = ρ by
      refine List.ext_getElem? fun k => ?_
      by_cases c : i = k
      · subst c
        rw [List.getElem?_set_self hρi2, hρi]
      · rw [List.getElem?_set_ne c]]
    simp
  · rintro k y ρ' s ey ⟨rfl, a, rfl⟩
    have hk : k < ys.length := (List.getElem?_eq_some_iff.mp ey).1
    have tk : ys.take (k + 1) = ys.take k ++ [y] := by rw [List.take_succ, ey]; rfl
    show sat (Res.bind (.ok (((ρ.set i (some (.lst (a0 ++ (ys.take k).flatMap g)))).set j a).set j (some (h y))) s) _) _
    rw [bind_ok, List.set_set]
    refine sw_asg (sw_pure (os := os) (ev_bin (d1 := .lst (a0 ++ (ys.take k).flatMap g)) (ev_var ?_) (he y (List.mem_of_getElem? ey) _) (evo_add_lst ?_)) cg ⟨rfl, some (h y), ?_⟩)
    · rw [List.getElem?_set_ne (Ne.symm hij), List.getElem?_set_self hρi2]
    · have e1 : ys = ys.take (k + 1) ++ ys.drop (k + 1) := (List.take_append_drop _ _).symm
      have e2 : (ys.flatMap g).length = ((ys.take k).flatMap g).length + (g y).length + ((ys.drop (k + 1)).flatMap g).length := by
        conv => lhs; rw [e1, tk]
        simp
        omega
      rw [List.length_append]
      omega
    · rw [List.set_comm _ _ hij.symm, List.set_set, tk]
      simp
  · rintro ρ' s ⟨rfl, a, rfl⟩
    exact ⟨rfl, a, by rw [List.take_length]⟩
/-- while -/
theorem sw_while {c : TM} {b : SM} {Q : Fl × Env → Store → Prop} (I : Nat → Env → Store → Prop) (step : ∀ m ρ st, I m ρ st → sat (c ρ st) fun t st1 => (t = true → sat (b ρ st1) fun r st2 => match r with
      | (.nx, ρ2) => ∃ m', m' < m ∧ I m' ρ2 st2
      | (.ct, ρ2) => ∃ m', m' < m ∧ I m' ρ2 st2
      | (.bk, ρ2) => Q (.nx, ρ2) st2
      | (.rt d, ρ2) => Q (.rt d, ρ2) st2) ∧ (t = false → Q (.nx, ρ) st1)) : ∀ (fuel m : Nat) (ρ : Env) (st : Store), m < fuel → I m ρ st → sat (sWhile fuel c b ρ st) Q := by
  intro fuel
  induction fuel with
  | zero => intro m ρ st h; exact absurd h (Nat.not_lt_zero _)
  | succ f ih =>
    intro m ρ st hm hI
    show sat (whileGo c b (f + 1) ρ st) Q
    unfold whileGo
    refine sat_bind (step m ρ st hI) fun t st1 ⟨h1, h2⟩ => ?_
    cases t with
    | true =>
      rw [if_pos rfl]
      refine sat_bind (h1 rfl) fun r st2 q => ?_
      obtain ⟨fl, ρ2⟩ := r
      cases fl with
      | nx =>
        obtain ⟨m', hm', hI'⟩ := q
        exact ih m' ρ2 st2 (by omega) hI'
      | ct =>
        obtain ⟨m', hm', hI'⟩ := q
        exact ih m' ρ2 st2 (by omega) hI'
      | bk => exact .ok q
      | rt d => exact .ok q
    | false =>
      rw [if_neg (by decide)]
      exact .ok (h2 rfl)
theorem fz_ref {st : Store} {n : Nat} {xs : List D} (e : st[n]? = some (.lst xs)) (h : bndL 0 xs = true) : fzD (rfK st 0 6) (.ref n) = some (.lst xs) := by
  show rfK st 0 6 n = _
  rw [rfK, if_neg (Nat.not_lt_zero _), e]
  dsimp only
  rw [fzL_id (n := 0) (fun i hi => absurd hi (Nat.not_lt_zero _)) h]
  rfl
theorem pyD_ref {st : Store} {n : Nat} {xs : List D} (e : st[n]? = some (.lst xs)) (h : bndL 0 xs = true) : pyD st (.ref n) = pyD st (.lst xs) := by
  unfold pyD
  rw [fz_ref e h, fzD_id (n := 0) (fun i hi => absurd hi (Nat.not_lt_zero _)) (show bnd 0 (.lst xs) = true from h)]
theorem opNe_ref {st : Store} {n : Nat} {xs : List D} {y : D} (e : st[n]? = some (.lst xs)) (h : bndL 0 xs = true) : opNe (.ref n) y st = opNe (.lst xs) y st := by
  unfold opNe dEq
  rw [pyD_ref e h]
theorem opEq_ref {st : Store} {n : Nat} {xs : List D} {y : D} (e : st[n]? = some (.lst xs)) (h : bndL 0 xs = true) : opEq (.ref n) y st = opEq (.lst xs) y st := by
  unfold opEq dEq
  rw [pyD_ref e h]
theorem dIn_ref {st : Store} {n : Nat} {xs : List D} {y : D} (e : st[n]? = some (.lst xs)) (h : bndL 0 xs = true) : dIn st y (.ref n) = dIn st y (.lst xs) := by
  unfold dIn
  rw [pyD_ref e h]
/-- xs != [] of a list in the store -/
theorem ne_nil_ref {st : Store} {n : Nat} {xs : List D} (e : st[n]? = some (.lst xs)) (h : okPL 59 xs = true) (hb : bndL 0 xs = true) : opNe (.ref n) (.lst []) st = .ok (.bl (!xs.isEmpty)) st := by
  rw [opNe_ref e hb]
  unfold opNe
  rw [dEqP_ok (show okP 60 (.lst xs) = true from h) rfl, deq_lst, deqL_nil]
theorem len_ref {st : Store} {n : Nat} {xs : List D} (e : st[n]? = some (.lst xs)) : bLen [.ref n] st = .ok (.int xs.length) st := by
  unfold bLen
  simp [seqOf, e]
mutual
theorem okP_bnd : ∀ {n : Nat} {d : D}, okP n d = true → bnd 0 d = true
  | _, .non, _ => rfl
  | _, .bl _, _ => rfl
  | _, .int _, _ => rfl
  | _, .str _, _ => rfl
  | 0, .tup _, h => by simp [okP] at h
  | 0, .lst _, h => by simp [okP] at h
  | n + 1, .tup xs, h => okPL_bnd (show okPL n xs = true from h)
  | n + 1, .lst xs, h => okPL_bnd (show okPL n xs = true from h)
  | n, .dic _ _, h => by cases n <;> simp [okP] at h
  | n, .obj _ _, h => by cases n <;> simp [okP] at h
  | n, .exc _ _, h => by cases n <;> simp [okP] at h
  | n, .fn _, h => by cases n <;> simp [okP] at h
  | n, .ref _, h => by cases n <;> simp [okP] at h
theorem okPL_bnd : ∀ {n : Nat} {ds : List D}, okPL n ds = true → bndL 0 ds = true
  | _, [], _ => rfl
  | n, d :: ds, h => by
    obtain ⟨h1, h2⟩ := Bool.and_eq_true_iff.mp (show (okP n d && okPL n ds) = true from h)
    show (bnd 0 d && bndL 0 ds) = true
    rw [okP_bnd h1, okPL_bnd h2]
    rfl
end
theorem okPL_perm {n : Nat} {xs ys : List D} (p : xs.Perm ys) (h : okPL n ys = true) : okPL n xs = true := by
  rw [okPL_iff] at h ⊢
  exact fun d hd => h d (p.mem_iff.mp hd)
theorem okPL_sub {n : Nat} {xs ys : List D} (p : ∀ x ∈ xs, x ∈ ys) (h : okPL n ys = true) : okPL n xs = true := by
  rw [okPL_iff] at h ⊢
  exact fun d hd => h d (p d hd)
end
end SL
namespace SL
open PySem
section
variable {os : List (Nat × MO)} {ρ : Env} {st : Store} {β : Type}
/-- for k in range(..), the bound an expression of any kind -/
theorem sw_for_rng {me : EM} {tg : GM} {b : SM} (I : Nat → Nat → Env → Store → Prop) {Q : Fl × Env → Store → Prop} (h0 : sat (me ρ st) fun d st1 => ∃ N : Nat, d = .int N ∧ N ≤ 1000000 ∧ I N 0 ρ st1)
    (step : ∀ N k ρ st, k < N → I N k ρ st → sat ((tg (.int (k : Int)) ρ st).bind fun ρ1 st1 => b ρ1 st1) fun r st2 => match r with
      | (.nx, ρ2) => I N (k + 1) ρ2 st2
      | (.ct, ρ2) => I N (k + 1) ρ2 st2
      | (.bk, ρ2) => Q (.nx, ρ2) st2
      | (.rt d, ρ2) => Q (.rt d, ρ2) st2)
    (fin : ∀ N ρ st, I N N ρ st → Q (.nx, ρ) st) : sat (sFor (mRng1 me) tg b ρ st) Q := by
  unfold sFor mRng1
  obtain ⟨d, st1, e, N, rfl, hN, hI⟩ := sat_iff.mp h0
  rw [e, bind_ok]
  dsimp only
  rw [if_pos (okR_le (by omega) (by omega)), bind_ok]
  have hs : Stat (fun _ => True) (rngS 0 (N : Int).toNat) ((List.range N).map fun (k : Nat) => D.int (k : Int)) := by
    have z := stat_rng (G := fun _ => True) (lo := 0) (n := N)
    simpa using z
  refine for_sat (G := fun _ => True) (xs := (List.range N).map fun (k : Nat) => D.int (k : Int)) (I N) (fun _ _ => True) hs (fun _ _ _ _ => trivial) (fun k d ρ s ex hI => ?_) (fun ρ s hI => fin N ρ s (by rwa [List.length_map, List.length_range] at hI)) _ 0 ρ st1 (Nat.zero_le _) (by simp) hI
  rw [List.getElem?_map] at ex
  by_cases hk : k < N
  · rw [List.getElem?_range hk] at ex
    cases ex
    exact step N k ρ s hk hI
  · rw [List.getElem?_eq_none (by simpa using hk)] at ex
    cases ex
/-- a comprehension over what an expression of any kind gives -/
theorem sw_compIt {f : D → Store → Res (Src × Nat)} {me : EM} {tg : TgM} {cm : TM} {e : EM} {vs : List Nat} {Q : D → Store → Prop} (h : sat (me ρ st) fun d st1 => st1.length = st.length ∧ sat (closeE (mComp (mIt f (mC d)) tg cm e vs) ρ st1) Q) : sat (closeE (mComp (mIt f me) tg cm e vs) ρ st) Q := by
  obtain ⟨d, st1, e1, hl, q⟩ := sat_iff.mp h
  have e2 : closeE (mComp (mIt f me) tg cm e vs) ρ st = closeE (mComp (mIt f (mC d)) tg cm e vs) ρ st1 := by
    unfold closeE mComp mIt
    rw [e1, hl]
    rfl
  rw [e2]
  exact q
theorem sw_new {am : AM} {Q : D → Store → Prop} (h : sat (am ρ st) fun xs st1 => xs.length ≤ sizeLine ∧ Q (.ref st1.length) (st1 ++ [.lst xs])) : sat (mNew am ρ st) Q := by
  unfold mNew
  exact sat_bind h fun x st1 ⟨q1, q2⟩ => by rw [if_pos q1]; exact .ok q2
theorem seq_noDic {st : Store} {x : D} {xs : List D} (h : seqOf st x = some xs) : dicOf st x = none := by
  cases x with
  | ref n =>
    unfold seqOf at h
    unfold dicOf
    dsimp only at h ⊢
    cases e : st[n]? with
    | none => rfl
    | some o => cases o <;> simp [e] at h ⊢
  | _ => first | rfl | simp [seqOf] at h
theorem len_seq {st : Store} {x : D} {xs : List D} (h : seqOf st x = some xs) : bLen [x] st = .ok (.int xs.length) st := by
  unfold bLen
  cases x with
  | str s => simp [seqOf] at h
  | _ => simp [h]
theorem ix_seq {st : Store} {x : D} {xs : List D} {i : Int} (h : seqOf st x = some xs) (h0 : 0 ≤ i) (h1 : i.toNat < xs.length) : opIx x (.int i) st = .ok xs[i.toNat] st := by
  unfold opIx
  rw [seq_noDic h]
  dsimp only
  rw [h]
  dsimp only
  have e : L2.ixN xs.length i = some i.toNat := by
    unfold L2.ixN
    rw [if_pos h0, if_pos (by omega)]
  unfold L2.atI
  rw [e, Option.bind_some, List.getElem?_eq_getElem h1]
theorem add_lst {st : Store} {x y : D} {a b : List D} (h1 : lstOf st x = some a) (h2 : lstOf st y = some b) (hz : a.length + b.length ≤ sizeLine) : opAdd x y st = .ok (.lst (a ++ b)) st := by
  cases x <;> first | (simp [lstOf] at h1; done) | skip
  all_goals cases y <;> first | (simp [lstOf] at h2; done) | skip
  all_goals
    unfold opAdd
    dsimp only
    rw [h1, h2]
    simp [hz]
end
end SL
namespace SL
open PySem
section
variable {os : List (Nat × MO)} {ρ : Env} {st : Store} {β : Type} {d : D} {ds : List D} {am : AM} {ma mb : EM} {F : CF} {n : Nat}
theorem ev_caught_x {okC : Nat → Bool} {c : Nat} {fs : List D} (h : EvX os (mb ρ) c fs) (hc : okC c = true) : Ev os (mCaught okC mb ρ) (.exc c fs) := fun st g => by
  unfold mCaught
  rw [h st g]
  dsimp only
  rw [if_pos hc]
theorem ev_caught_n {okC : Nat → Bool} (h : Ev os (mb ρ) d) : Ev os (mCaught okC mb ρ) .non := fun st g => by
  unfold mCaught
  rw [h st g]
theorem evx_callV {i j : Nat} {Fs : Nat → Option CF} {c : Nat} {fs : List D} (h0 : ρ[i]? = some (some (.fn j))) (h1 : Fs j = some (arity n F)) (h : Ev os (am ρ) ds) (hn : ds.length = n) (h2 : EvX os (F ds) c fs) : EvX os (mCallV i Fs am ρ) c fs := fun st g => by
  unfold mCallV
  rw [h0]
  dsimp only
  rw [h1]
  dsimp only
  rw [h st g, bind_ok]
  unfold arity
  rw [if_pos hn, h2 st g]
theorem ev_callV {i j : Nat} {Fs : Nat → Option CF} (h0 : ρ[i]? = some (some (.fn j))) (h1 : Fs j = some (arity n F)) (h : Ev os (am ρ) ds) (hn : ds.length = n) (h2 : Ev os (F ds) d) : Ev os (mCallV i Fs am ρ) d := fun st g => by
  unfold mCallV
  rw [h0]
  dsimp only
  rw [h1]
  dsimp only
  rw [h st g, bind_ok]
  unfold arity
  rw [if_pos hn, h2 st g]
theorem mul_tup1 {k : Nat} (hk : k ≤ 1000) : Ev os (opMul (.tup [d]) (.int k)) (.tup (List.replicate k d)) := fun st _ => by
  show (if okMulT 1 (k : Int) = true then Res.ok (D.tup (List.replicate (k : Int).toNat [d]).flatten) st else .bad) = _
  rw [if_pos (by
    simp only [okMulT, Bool.and_eq_true, decide_eq_true_eq]
    refine ⟨⟨⟨by decide, by decide⟩, Int.le_trans (by decide) (Int.natCast_nonneg k)⟩, by omega⟩)]
  congr 2
  rw [Int.toNat_natCast]
  induction k with
  | zero => rfl
  | succ k ih => rw [List.replicate_succ, List.replicate_succ, List.flatten_cons, ih (by omega)]; rfl
theorem evi_zip_ref {L : Nat} {xs zs : List D} {d2 : D} (hm : (L, MO.lst xs) ∈ os) (h : ∀ st, CG os st → ma ρ st = .ok (.ref L) st) (h2 : Ev os (mb ρ) d2) (e : isSeq d2 = some zs) : EvI os (mZip n ma mb ρ) ((List.zipWith (fun x y => D.tup [x, y]) xs zs).map fun d => d) := fun st g => ⟨_, _, by
  unfold mZip
  rw [h st g, bind_ok, h2 st g, bind_ok, isSeq_src e]
  have q := g.2 _ hm
  unfold srcL
  dsimp only at q ⊢
  rw [q], by
  rw [← mapId_]
  exact stat_zip (fun st' g' => by
    have q := g'.2 _ hm
    dsimp only at q ⊢
    rw [q]) (fun _ _ => rfl), by simp; omega⟩
end
end SL
namespace SL
open PySem
section
variable {os : List (Nat × MO)} {ρ : Env} {st : Store} {β : Type} {d : D} {ma mb : EM} {lo hi : OM}
theorem sw_sl {Q : D → Store → Prop} (h : sat (ma ρ st) fun d st1 => sat (lo ρ st1) fun l st2 => sat (hi ρ st2) fun u st3 => sat (opSl d l u st3) Q) : sat (mSl ma lo hi ρ st) Q := by
  unfold mSl
  exact sat_bind h fun x st1 q => sat_bind q fun y st2 z => sat_bind z fun w st3 v => v
theorem ev_sl {l u : Option Int} {r : D} (h : Ev os (ma ρ) d) (h1 : Ev os (lo ρ) l) (h2 : Ev os (hi ρ) u) (h3 : Ev os (opSl d l u) r) : Ev os (mSl ma lo hi ρ) r := fun st g => by
  unfold mSl
  rw [h st g, bind_ok, h1 st g, bind_ok, h2 st g, bind_ok, h3 st g]
theorem ev_pno : Ev os (pNo ρ) none := fun _ _ => rfl
theorem ev_psome {i : Int} (h : Ev os (ma ρ) (.int i)) : Ev os (pSome ma ρ) (some i) := fun st g => by
  unfold pSome
  rw [h st g, bind_ok]
theorem cut_take {ys : List D} {k : Nat} (h : k ≤ ys.length) : cutD ys none (some (k : Int)) = ys.take k := by
  unfold cutD
  rw [HT.sIx_nat, HT.sIx_none, Nat.min_eq_left h]
  simp
theorem cut_drop {ys : List D} {k : Nat} (h : k ≤ ys.length) : cutD ys (some (k : Int)) none = ys.drop k := by
  unfold cutD
  rw [HT.sIx_nat, HT.sIx_none, Nat.min_eq_left h]
  rw [List.take_of_length_le (by simp)]
theorem evo_sl_t {ds : List D} {l u : Option Int} : Ev os (opSl (.tup ds) l u) (.tup (cutD ds l u)) := fun _ _ => rfl
theorem evo_sl_l {ds : List D} {l u : Option Int} : Ev os (opSl (.lst ds) l u) (.lst (cutD ds l u)) := fun _ _ => rfl
theorem sw_if_f {tm : TM} {m k : SM} {Q : Fl × Env → Store → Prop} (h : tm ρ st = .ok false st) (q : sat (k ρ st) Q) : sat (sIf tm m k ρ st) Q := sw_if (sw_eq h ⟨(fun z => by cases z), fun _ => q⟩)
end
end SL
set_option maxRecDepth 100000
set_option maxHeartbeats 2000000
namespace Lk63
open SL PySem
def okC : Nat → Bool := fun c => [0, 1, 2, 3, 4, 5, 10, 16].contains c
def okX_index : Nat → Bool := fun c => [2, 5].contains c
def okX_part : Nat → Bool := fun c => [1, 3, 4].contains c
def isa_bool : List (Tg × Bool) := [(.non, false), (.bl, true), (.int, false), (.str, false), (.tup, false), (.lst, false), (.dic, false), (.exc 0, false), (.exc 1, false), (.exc 2, false), (.exc 3, false), (.exc 4, false), (.exc 5, false), (.exc 10, false), (.exc 16, false), (.obj 34, false)]
def isa_int : List (Tg × Bool) := [(.non, false), (.bl, true), (.int, true), (.str, false), (.tup, false), (.lst, false), (.dic, false), (.exc 0, false), (.exc 1, false), (.exc 2, false), (.exc 3, false), (.exc 4, false), (.exc 5, false), (.exc 10, false), (.exc 16, false), (.obj 34, false)]
def isa_list_tuple : List (Tg × Bool) := [(.non, false), (.bl, false), (.int, false), (.str, false), (.tup, true), (.lst, true), (.dic, false), (.exc 0, false), (.exc 1, false), (.exc 2, false), (.exc 3, false), (.exc 4, false), (.exc 5, false), (.exc 10, false), (.exc 16, false), (.obj 34, false)]
def isa_tuple : List (Tg × Bool) := [(.non, false), (.bl, false), (.int, false), (.str, false), (.tup, true), (.lst, false), (.dic, false), (.exc 0, false), (.exc 1, false), (.exc 2, false), (.exc 3, false), (.exc 4, false), (.exc 5, false), (.exc 10, false), (.exc 16, false), (.obj 34, false)]
def isa_NoLot : List (Tg × Bool) := [(.non, false), (.bl, false), (.int, false), (.str, false), (.tup, false), (.lst, false), (.dic, false), (.exc 0, false), (.exc 1, false), (.exc 2, false), (.exc 3, false), (.exc 4, true), (.exc 5, false), (.exc 10, false), (.exc 16, false), (.obj 34, false)]
def isa_BadTold : List (Tg × Bool) := [(.non, false), (.bl, false), (.int, false), (.str, false), (.tup, false), (.lst, false), (.dic, false), (.exc 0, false), (.exc 1, false), (.exc 2, false), (.exc 3, false), (.exc 4, false), (.exc 5, false), (.exc 10, false), (.exc 16, true), (.obj 34, false)]
def isa_BadNumber : List (Tg × Bool) := [(.non, false), (.bl, false), (.int, false), (.str, false), (.tup, false), (.lst, false), (.dic, false), (.exc 0, false), (.exc 1, false), (.exc 2, false), (.exc 3, true), (.exc 4, false), (.exc 5, false), (.exc 10, false), (.exc 16, false), (.obj 34, false)]
def isa_Lot : List (Tg × Bool) := [(.non, false), (.bl, false), (.int, false), (.str, false), (.tup, false), (.lst, false), (.dic, false), (.exc 0, false), (.exc 1, false), (.exc 2, false), (.exc 3, false), (.exc 4, false), (.exc 5, false), (.exc 10, false), (.exc 16, false), (.obj 34, true)]
def m_is_number : SM := (sRet (mAnd (mUn (opIsa (ansL isa_int)) (mVar 0)) (mNot (mUn (opIsa (ansL isa_bool)) (mVar 0)))))
def F_is_number : CF := fnB 1 m_is_number
def m_is_between : SM := (sRet (mAnd (mCall (arity 1 F_is_number) [] (aCons (mVar 0) aNil)) (mChain opLeI opLeI (mVar 1) (mVar 0) (mVar 2))))
def F_is_between : CF := fnB 3 m_is_between
def m_is_list : SM := (sRet (mUn (opIsa (ansL isa_list_tuple)) (mVar 0)))
def F_is_list : CF := fnB 1 m_is_list
def m_is_tuple_of : SM := (sRet (mAnd (mUn (opIsa (ansL isa_tuple)) (mVar 0)) (mAnd (mBin opEq (mCB bLen (aCons (mVar 0) aNil)) (mVar 1)) (mCB bAll (aCons (closeE (mComp (mIt (fSeq FU) (mVar 0)) (tgName 4) mTrue (mCall (arity 3 F_is_between) [] (aCons (mVar 4) (aCons (mVar 2) (aCons (mVar 3) aNil)))) [4])) aNil)))))
def F_is_tuple_of : CF := fnB 5 m_is_tuple_of
def m_is_row : SM := (sRet (mCall (arity 4 F_is_tuple_of) [] (aCons (mVar 1) (aCons (mVar 0) (aCons (mC (.int 0)) (aCons (mC (.int 1)) aNil))))))
def F_is_row : CF := fnB 2 m_is_row
def m_need_rows : SM := (sSeq (sIf (tmNot (mTest (mCall (arity 1 F_is_list) [] (aCons (mVar 1) aNil))))
  (sRaise1 5 (aCons (mC .non) aNil))
  sNil)
  (sSeq (sAsg (mNewD true) (gmName 2))
  (sFor (mIt (fEnum 0) (mVar 1)) (gmTup 2 (gmsCons (gmName 3) (gmsCons (gmName 4) gmsNil)))
  (sSeq (sIf (tmOr (tmNot (mTest (mCall (arity 2 F_is_row) [] (aCons (mVar 0) (aCons (mVar 4) aNil))))) (mTest (mBin opIn (mVar 4) (mVar 2))))
  (sRaise1 5 (aCons (mVar 3) aNil))
  sNil)
  (sAsg (mC (.bl true)) (gmSub (mVar 2) (mVar 4)))))))
def F_need_rows : CF := fnB 5 m_need_rows
def m_Lot___init__ : SM := (sSeq (sIf (tmNot (mTest (mCall (arity 3 F_is_between) [] (aCons (mVar 1) (aCons (mC (.int 1)) (aCons (mC (.int 6)) aNil))))))
  (sRaise0 10)
  sNil)
  (sSeq (sExpr (mCall (arity 2 F_need_rows) [] (aCons (mVar 1) (aCons (mVar 2) aNil))))
  (sSeq (sFldD 34 0 (mVar 1) (mVar 0))
  (sSeq (sFldD 34 1 (mCB bTuple (aCons (mCB bSortedF (aCons (mVar 2) aNil)) aNil)) (mVar 0))
  (sFldD 34 2 (mDComp true (mIt (fSeq FU) (mUn (opFld 34 1) (mVar 0))) (tgName 3) mTrue (mVar 3) (mC (.bl true)) [3]) (mVar 0))))))
def F_Lot___init__ : CF := fnB 4 m_Lot___init__
def m__law_begun : SM := (sSeq (sAsg (mComp (mIt (fSeq FU) (mVar 0)) (tgName 2) (mTest (mBin opGeI (mCB bAbs (aCons (mVar 2) aNil)) (mBin opPow (mC (.int 10)) (mC (.int 18))))) (mBin opSub (mCB bAbs (aCons (mVar 2) aNil)) (mBin opPow (mC (.int 10)) (mC (.int 18)))) [2]) (gmName 1))
  (sRet (mDict false (pCons (mC (.str "large")) (mVar 1) (pCons (mC (.str "rest")) (mC (.int 0)) (pCons (mC (.str "cells")) (mComp (mIt (fSeq FU) (mVar 0)) (tgName 2) mTrue (mCB bAbs (aCons (mVar 2) aNil)) [2]) (pCons (mC (.str "turn")) (mC (.int 0)) pNil)))))))
def F__law_begun : CF := fnK 3 m__law_begun
def m__law_blend : SM := (sSeq (sAsg (mBin opAdd (mBin opIx (mVar 0) (mC (.str "turn"))) (mC (.int 1))) (gmSub (mVar 0) (mC (.str "turn"))))
  (sSeq (sPar 1 2 (aCons (mCB bInt (aCons (mBin opIx (mVar 0) (mC (.str "turn"))) aNil)) (aCons (mC (.int 0)) aNil)))
  (sSeq (sFor (mIt (fSeq FU) (mLst (aCons (mC (.int 2147483629)) (aCons (mC (.int 2147483587)) (aCons (mC (.int 2147483579)) aNil))))) (gmName 3)
  (sSeq (sAsg (mBin opMod (mBin opAdd (mBin opMul (mVar 1) (mC (.int 69621))) (mBin opDiv (mVar 3) (mC (.int 7)))) (mVar 3)) (gmName 4))
  (sSeq (sFor (mIt (fSeq FU) (mBin opIx (mVar 0) (mC (.str "cells")))) (gmName 5)
  (sAsg (mBin opMod (mBin opAdd (mBin opMul (mVar 4) (mC (.int 48271))) (mCB bInt (aCons (mVar 5) aNil))) (mVar 3)) (gmName 4)))
  (sAsg (mBin opAdd (mBin opMul (mVar 2) (mC (.int 2147483647))) (mBin opMod (mBin opPow (mVar 4) (mC (.int 5))) (mVar 3))) (gmName 2)))))
  (sRet (mVar 2)))))
def F__law_blend : CF := fnB 6 m__law_blend
def m__law_draw : SM := (sSeq (sIf (mTest (mBin opEq (mBin opIx (mVar 0) (mC (.str "rest"))) (mC (.int 0))))
  (sAsg (mIf (mTest (mBin opNe (mBin opIx (mVar 0) (mC (.str "large"))) (mLst aNil))) (mMeth "list" fPop (mBin opIx (mVar 0) (mC (.str "large"))) (aCons (mC (.int 0)) aNil)) (mCall (arity 1 F__law_blend) [] (aCons (mVar 0) aNil))) (gmSub (mVar 0) (mC (.str "rest"))))
  sNil)
  (sSeq (sAsg (mBin opMod (mCB bInt (aCons (mBin opIx (mVar 0) (mC (.str "rest"))) aNil)) (mVar 1)) (gmName 2))
  (sSeq (sAsg (mBin opDiv (mCB bInt (aCons (mBin opIx (mVar 0) (mC (.str "rest"))) aNil)) (mVar 1)) (gmSub (mVar 0) (mC (.str "rest"))))
  (sRet (mVar 2)))))
def F__law_draw : CF := fnB 3 m__law_draw
def m__law_is_of : SM := (sSeq (sIf (mTest (mBin opEq (mVar 1) (mC (.str "lot"))))
  (sRet (mUn (opIsa (ansL isa_NoLot)) (mVar 0)))
  sNil)
  (sSeq (sIf (mTest (mBin opEq (mVar 1) (mC (.str "told"))))
  (sRet (mUn (opIsa (ansL isa_BadTold)) (mVar 0)))
  sNil)
  (sRet (mUn (opIsa (ansL isa_BadNumber)) (mVar 0)))))
def F__law_is_of : CF := fnB 2 m__law_is_of
def m_Lot_rows : SM := (sRet (mUn (opFld 34 1) (mVar 0)))
def F_Lot_rows : CF := fnB 1 m_Lot_rows
def m_lies_in : SM := (sRet (mCB bLen (aCons (closeE (mComp (mZip 0 (mVar 0) (mVar 1)) (tgTup [2, 3]) (tmAnd (mTest (mBin opNotN (mVar 2) (mC .non))) (mTest (mBin opNe (mVar 2) (mVar 3)))) (mC (.int 1)) [2, 3])) aNil)))
def F_lies_in : CF := fnB 4 m_lies_in
def m_need_lot : SM := (sIf (tmNot (mTest (mUn (opIsa (ansL isa_Lot)) (mVar 0))))
  (sRaise1 4 (aCons (mVar 1) aNil))
  sNil)
def F_need_lot : CF := fnB 2 m_need_lot
def m_Lot_places : SM := (sRet (mUn (opFld 34 0) (mVar 0)))
def F_Lot_places : CF := fnB 1 m_Lot_places
def m_is_told : SM := (sSeq (sIf (tmOr (tmNot (mTest (mUn (opIsa (ansL isa_tuple)) (mVar 1)))) (mTest (mBin opNe (mCB bLen (aCons (mVar 1) aNil)) (mVar 0))))
  (sRet (mC (.bl false)))
  sNil)
  (sRet (mCB bAll (aCons (closeE (mComp (mIt (fSeq FU) (mVar 1)) (tgName 2) mTrue (mOr (mBin opIsN (mVar 2) (mC .non)) (mCall (arity 3 F_is_between) [] (aCons (mVar 2) (aCons (mC (.int 0)) (aCons (mC (.int 1)) aNil))))) [2])) aNil))))
def F_is_told : CF := fnB 3 m_is_told
def m_need_told : SM := (sIf (tmNot (mTest (mCall (arity 2 F_is_told) [] (aCons (mProp 34 F_Lot_places (mVar 0)) (aCons (mVar 1) aNil)))))
  (sRaise0 16)
  sNil)
def F_need_told : CF := fnB 2 m_need_told
def m_fewest_lies : SM := (sSeq (sExpr (mCall (arity 2 F_need_lot) [.non] (aCons (mVar 0) aNil)))
  (sSeq (sExpr (mCall (arity 2 F_need_told) [] (aCons (mVar 0) (aCons (mVar 1) aNil))))
  (sSeq (sAsg (closeE (mComp (mIt (fSeq FU) (mProp 34 F_Lot_rows (mVar 0))) (tgName 3) mTrue (mCall (arity 2 F_lies_in) [] (aCons (mVar 1) (aCons (mVar 3) aNil))) [3])) (gmName 2))
  (sRet (mIf (mTest (mBin opNe (mVar 2) (mLst aNil))) (mCB bMin (aCons (mVar 2) aNil)) (mC .non))))))
def F_fewest_lies : CF := fnB 4 m_fewest_lies
def m_left_by : SM := (sRet (mCB bTuple (aCons (closeE (mComp (mIt (fSeq FU) (mProp 34 F_Lot_rows (mVar 0))) (tgName 3) (mTest (mBin opLeI (mCall (arity 2 F_lies_in) [] (aCons (mVar 1) (aCons (mVar 3) aNil))) (mVar 2))) (mVar 3) [3])) aNil)))
def F_left_by : CF := fnB 4 m_left_by
def m_need_lies : SM := (sSeq (sExpr (mCall (arity 2 F_need_lot) [.non] (aCons (mVar 0) aNil)))
  (sIf (tmNot (mTest (mCall (arity 3 F_is_between) [] (aCons (mVar 1) (aCons (mC (.int 0)) (aCons (mC (.int 6)) aNil))))))
  (sRaise1 3 (aCons (mC (.str "lies")) aNil))
  sNil))
def F_need_lies : CF := fnB 2 m_need_lies
def m_need_told_lies : SM := (sSeq (sExpr (mCall (arity 2 F_need_lot) [.non] (aCons (mVar 0) aNil)))
  (sSeq (sExpr (mCall (arity 2 F_need_told) [] (aCons (mVar 0) (aCons (mVar 1) aNil))))
  (sExpr (mCall (arity 2 F_need_lies) [] (aCons (mVar 0) (aCons (mVar 2) aNil))))))
def F_need_told_lies : CF := fnB 3 m_need_told_lies
def m_left_with : SM := (sSeq (sExpr (mCall (arity 3 F_need_told_lies) [] (aCons (mVar 0) (aCons (mVar 1) (aCons (mVar 2) aNil)))))
  (sRet (mCall (arity 3 F_left_by) [] (aCons (mVar 0) (aCons (mVar 1) (aCons (mVar 2) aNil))))))
def F_left_with : CF := fnB 3 m_left_with
def m_wrong_places : SM := (sRet (mCB bTuple (aCons (closeE (mComp (mIt (fEnum 0) (mVar 0)) (tgTup [2, 3]) (tmAnd (mTest (mBin opNotN (mVar 3) (mC .non))) (mTest (mBin opNe (mVar 3) (mBin opIx (mVar 1) (mVar 2))))) (mVar 2) [2, 3])) aNil)))
def F_wrong_places : CF := fnB 4 m_wrong_places
def m_lies_told : SM := (sSeq (sExpr (mCall (arity 3 F_need_told_lies) [] (aCons (mVar 0) (aCons (mVar 1) (aCons (mVar 2) aNil)))))
  (sSeq (sAsg (mCall (arity 3 F_left_by) [] (aCons (mVar 0) (aCons (mVar 1) (aCons (mVar 2) aNil)))) (gmName 3))
  (sSeq (sIf (mTest (mBin opEq (mVar 3) (mTup aNil)))
  (sRet (mC .non))
  sNil)
  (sSeq (sAsg (closeE (mComp (mIt (fSeq FU) (mVar 3)) (tgName 5) mTrue (mCall (arity 2 F_wrong_places) [] (aCons (mVar 1) (aCons (mVar 5) aNil))) [5])) (gmName 4))
  (sRet (mCB bTuple (aCons (closeE (mComp (mIt (fSeq FU) (mBin opIx (mVar 4) (mC (.int 0)))) (tgName 6) (mTest (mCB bAll (aCons (closeE (mComp (mIt (fSeq FU) (mVar 4)) (tgName 7) mTrue (mBin opIn (mVar 6) (mVar 7)) [7])) aNil))) (mVar 6) [6])) aNil)))))))
def F_lies_told : CF := fnB 8 m_lies_told
def m_sure_with : SM := (sSeq (sExpr (mCall (arity 3 F_need_told_lies) [] (aCons (mVar 0) (aCons (mVar 1) (aCons (mVar 2) aNil)))))
  (sSeq (sAsg (mCall (arity 3 F_left_by) [] (aCons (mVar 0) (aCons (mVar 1) (aCons (mVar 2) aNil)))) (gmName 3))
  (sSeq (sIf (mTest (mBin opEq (mVar 3) (mTup aNil)))
  (sRet (mC .non))
  sNil)
  (sSeq (sAsg (closeE (mComp (mRng1 (mProp 34 F_Lot_places (mVar 0))) (tgName 5) mTrue (mCB bSortedF (aCons (closeE (mDComp false (mIt (fSeq FU) (mVar 3)) (tgName 7) mTrue (mBin opIx (mVar 7) (mVar 5)) (mC .non) [7])) aNil)) [5])) (gmName 4))
  (sRet (mCB bTuple (aCons (closeE (mComp (mIt (fSeq FU) (mVar 4)) (tgName 6) mTrue (mIf (mTest (mBin opEq (mCB bLen (aCons (mVar 6) aNil)) (mC (.int 1)))) (mBin opIx (mVar 6) (mC (.int 0))) (mC .non)) [6])) aNil)))))))
def F_sure_with : CF := fnB 8 m_sure_with
def m__law_errors_right : SM := (sSeq (sAsg (mBin opMul (mTup (aCons (mC .non) aNil)) (mVar 1)) (gmName 2))
  (sSeq (sFor (mIt (fSeq FU) (mLst (aCons (mC (.fn 13)) (aCons (mC (.fn 14)) (aCons (mC (.fn 17)) aNil))))) (gmName 3)
  (sSeq (sAsg (mNew (aCons (mCaught okC (mCallV 3 (fun j => [(13, arity 3 F_left_with), (14, arity 3 F_sure_with), (17, arity 3 F_lies_told)].lookup j) (aCons (mC .non) (aCons (mC .non) (aCons (mC .non) aNil))))) aNil)) (gmName 4))
  (sSeq (sExpr (mMeth "list" fAppend (mVar 4) (aCons (mCaught okC (mCallV 3 (fun j => [(13, arity 3 F_left_with), (14, arity 3 F_sure_with), (17, arity 3 F_lies_told)].lookup j) (aCons (mVar 0) (aCons (mC .non) (aCons (mC .non) aNil))))) aNil)))
  (sSeq (sExpr (mMeth "list" fAppend (mVar 4) (aCons (mCaught okC (mCallV 3 (fun j => [(13, arity 3 F_left_with), (14, arity 3 F_sure_with), (17, arity 3 F_lies_told)].lookup j) (aCons (mVar 0) (aCons (mCB bListF (aCons (mVar 2) aNil)) (aCons (mC (.int 0)) aNil))))) aNil)))
  (sSeq (sExpr (mMeth "list" fAppend (mVar 4) (aCons (mCaught okC (mCallV 3 (fun j => [(13, arity 3 F_left_with), (14, arity 3 F_sure_with), (17, arity 3 F_lies_told)].lookup j) (aCons (mVar 0) (aCons (mBin opAdd (mVar 2) (mTup (aCons (mC (.int 0)) aNil))) (aCons (mC (.int 0)) aNil))))) aNil)))
  (sSeq (sExpr (mMeth "list" fAppend (mVar 4) (aCons (mCaught okC (mCallV 3 (fun j => [(13, arity 3 F_left_with), (14, arity 3 F_sure_with), (17, arity 3 F_lies_told)].lookup j) (aCons (mVar 0) (aCons (mBin opMul (mTup (aCons (mC (.bl true)) aNil)) (mVar 1)) (aCons (mC (.int 0)) aNil))))) aNil)))
  (sSeq (sExpr (mMeth "list" fAppend (mVar 4) (aCons (mCaught okC (mCallV 3 (fun j => [(13, arity 3 F_left_with), (14, arity 3 F_sure_with), (17, arity 3 F_lies_told)].lookup j) (aCons (mVar 0) (aCons (mVar 2) (aCons (mC (.int 7)) aNil))))) aNil)))
  (sSeq (sExpr (mMeth "list" fAppend (mVar 4) (aCons (mCaught okC (mCallV 3 (fun j => [(13, arity 3 F_left_with), (14, arity 3 F_sure_with), (17, arity 3 F_lies_told)].lookup j) (aCons (mVar 0) (aCons (mVar 2) (aCons (mUn opNeg (mC (.int 1))) aNil))))) aNil)))
  (sSeq (sExpr (mMeth "list" fAppend (mVar 4) (aCons (mCaught okC (mCallV 3 (fun j => [(13, arity 3 F_left_with), (14, arity 3 F_sure_with), (17, arity 3 F_lies_told)].lookup j) (aCons (mVar 0) (aCons (mVar 2) (aCons (mC (.bl true)) aNil))))) aNil)))
  (sSeq (sIf (mTest (mBin opNe (closeE (mComp (mZip 0 (mVar 4) (mLst (aCons (mC (.str "lot")) (aCons (mC (.str "told")) (aCons (mC (.str "told")) (aCons (mC (.str "told")) (aCons (mC (.str "told")) (aCons (mC (.str "number")) (aCons (mC (.str "number")) (aCons (mC (.str "number")) aNil)))))))))) (tgTup [5, 6]) (tmNot (mTest (mCall (arity 2 F__law_is_of) [] (aCons (mVar 5) (aCons (mVar 6) aNil))))) (mC (.int 1)) [5, 6])) (mLst aNil)))
  (sRet (mC (.bl false)))
  sNil)
  (sIf (mTest (mBin opNe (closeE (mComp (mIt (fSeq FU) (mSl (mVar 4) (pSome (mC (.int 5))) pNo)) (tgName 5) mTrue (mUn (opXf okX_part) (mVar 5)) [5])) (mLst (aCons (mC (.str "lies")) (aCons (mC (.str "lies")) (aCons (mC (.str "lies")) aNil))))))
  (sRet (mC (.bl false)))
  sNil)))))))))))
  (sRet (mUn (opIsa (ansL isa_BadTold)) (mCaught okC (mCall (arity 2 F_fewest_lies) [] (aCons (mVar 0) (aCons (mBin opMul (mTup (aCons (mC (.int 2)) aNil)) (mVar 1)) aNil))))))))
def F__law_errors_right : CF := fnB 7 m__law_errors_right
def m__law_flip : SM := (sRet (mCB bTuple (aCons (closeE (mComp (mIt (fEnum 0) (mVar 0)) (tgTup [2, 3]) mTrue (mIf (mTest (mBin opIn (mVar 2) (mVar 1))) (mBin opSub (mC (.int 1)) (mVar 3)) (mVar 3)) [2, 3])) aNil)))
def F__law_flip : CF := fnB 4 m__law_flip
def m__law_lies : SM := (sRet (mCB bLen (aCons (closeE (mComp (mZip 0 (mVar 0) (mVar 1)) (tgTup [2, 3]) (tmAnd (mTest (mBin opNotN (mVar 2) (mC .non))) (mTest (mBin opNe (mVar 2) (mVar 3)))) (mC (.int 1)) [2, 3])) aNil)))
def F__law_lies : CF := fnB 4 m__law_lies
def m__law_below : SM := (sSeq (sAsg (mLst (aCons (mTup aNil) aNil)) (gmName 1))
  (sSeq (sFor (mIt (fSeq FU) (mVar 0)) (gmName 2)
  (sSeq (sAsg (mLst aNil) (gmName 3))
  (sSeq (sFor (mIt (fSeq FU) (mVar 1)) (gmName 4)
  (sAsg (mBin opAdd (mVar 3) (mIf (mTest (mBin opEq (mVar 2) (mC (.int 1)))) (mLst (aCons (mBin opAdd (mVar 4) (mTup (aCons (mC (.int 0)) aNil))) (aCons (mBin opAdd (mVar 4) (mTup (aCons (mC (.int 1)) aNil))) aNil))) (mLst (aCons (mBin opAdd (mVar 4) (mTup (aCons (mC (.int 0)) aNil))) aNil)))) (gmName 3)))
  (sAsg (mVar 3) (gmName 1)))))
  (sRet (mVar 1))))
def F__law_below : CF := fnB 5 m__law_below
def m__law_pick : SM := (sRet (mBin opIx (mVar 1) (mCall (arity 2 F__law_draw) [] (aCons (mVar 0) (aCons (mCB bLen (aCons (mVar 1) aNil)) aNil)))))
def F__law_pick : CF := fnB 2 m__law_pick
def m__law_rows : SM := (sSeq (sAsg (mLst (aCons (mTup aNil) aNil)) (gmName 1))
  (sSeq (sFor (mRng1 (mVar 0)) (gmName 2)
  (sSeq (sAsg (mLst aNil) (gmName 3))
  (sSeq (sFor (mIt (fSeq FU) (mVar 1)) (gmName 4)
  (sAsg (mBin opAdd (mVar 3) (mLst (aCons (mBin opAdd (mVar 4) (mTup (aCons (mC (.int 0)) aNil))) (aCons (mBin opAdd (mVar 4) (mTup (aCons (mC (.int 1)) aNil))) aNil)))) (gmName 3)))
  (sAsg (mVar 3) (gmName 1)))))
  (sRet (mVar 1))))
def F__law_rows : CF := fnB 5 m__law_rows
def m__law_lot : SM := (sSeq (sPar 2 3 (aCons (mBin opAdd (mC (.int 1)) (mCall (arity 2 F__law_draw) [] (aCons (mVar 0) (aCons (mVar 1) aNil)))) (aCons (mCall (arity 2 F__law_draw) [] (aCons (mVar 0) (aCons (mC (.int 8)) aNil))) aNil)))
  (sSeq (sAsg (mCall (arity 1 F__law_rows) [] (aCons (mVar 2) aNil)) (gmName 4))
  (sSeq (sIf (mTest (mBin opEq (mVar 3) (mC (.int 0))))
  (sAsg (mComp (mIt (fSeq FU) (mVar 4)) (tgName 11) (mTest (mBin opEq (mCall (arity 2 F__law_draw) [] (aCons (mVar 0) (aCons (mC (.int 2)) aNil))) (mC (.int 0)))) (mVar 11) [11]) (gmName 5))
  (sIf (mTest (mBin opEq (mVar 3) (mC (.int 1))))
  (sAsg (mComp (mIt (fSeq FU) (mVar 4)) (tgName 11) (mTest (mBin opEq (mCall (arity 2 F__law_draw) [] (aCons (mVar 0) (aCons (mC (.int 4)) aNil))) (mC (.int 0)))) (mVar 11) [11]) (gmName 5))
  (sIf (mTest (mBin opLtI (mVar 3) (mC (.int 4))))
  (sSeq (sAsg (mNew (aCons (mCall (arity 2 F__law_pick) [] (aCons (mVar 0) (aCons (mVar 4) aNil))) aNil)) (gmName 5))
  (sFor (mRng1 (mCall (arity 2 F__law_draw) [] (aCons (mVar 0) (aCons (mCB bLen (aCons (mVar 4) aNil)) aNil)))) (gmName 6)
  (sExpr (mMeth "list" fAppend (mVar 5) (aCons (mCall (arity 2 F__law_flip) [] (aCons (mCall (arity 2 F__law_pick) [] (aCons (mVar 0) (aCons (mVar 5) aNil))) (aCons (mTup (aCons (mCall (arity 2 F__law_draw) [] (aCons (mVar 0) (aCons (mVar 2) aNil))) aNil)) aNil))) aNil)))))
  (sIf (mTest (mBin opLtI (mVar 3) (mC (.int 6))))
  (sSeq (sAsg (mTup (aCons (mNew aNil) (aCons (mCB bTuple (aCons (closeE (mComp (mRng1 (mVar 2)) (tgName 12) (mTest (mBin opEq (mCall (arity 2 F__law_draw) [] (aCons (mVar 0) (aCons (mC (.int 2)) aNil))) (mC (.int 0)))) (mVar 12) [12])) aNil)) aNil))) (gmTup 2 (gmsCons (gmName 5) (gmsCons (gmName 7) gmsNil))))
  (sFor (mRng1 (mBin opAdd (mC (.int 1)) (mCall (arity 2 F__law_draw) [] (aCons (mVar 0) (aCons (mC (.int 4)) aNil))))) (gmName 6)
  (sAsg (mBin opAdd (mVar 5) (closeE (mComp (mIt (fSeq FU) (mCall (arity 1 F__law_below) [] (aCons (mCall (arity 2 F__law_pick) [] (aCons (mVar 0) (aCons (mVar 4) aNil))) aNil))) (tgName 11) mTrue (mCall (arity 2 F__law_flip) [] (aCons (mVar 11) (aCons (mVar 7) aNil))) [11]))) (gmName 5))))
  (sIf (tmAnd (mTest (mBin opEq (mVar 3) (mC (.int 6)))) (mTest (mBin opGtI (mVar 2) (mC (.int 1)))))
  (sSeq (sAsg (mBin opAdd (mC (.int 1)) (mCall (arity 2 F__law_draw) [] (aCons (mVar 0) (aCons (mBin opSub (mVar 2) (mC (.int 1))) aNil)))) (gmName 8))
  (sSeq (sPar 9 10 (aCons (closeE (mComp (mIt (fSeq FU) (mCall (arity 1 F__law_rows) [] (aCons (mVar 8) aNil))) (tgName 11) (mTest (mBin opGtI (mCall (arity 2 F__law_draw) [] (aCons (mVar 0) (aCons (mC (.int 3)) aNil))) (mC (.int 0)))) (mVar 11) [11])) (aCons (closeE (mComp (mIt (fSeq FU) (mCall (arity 1 F__law_rows) [] (aCons (mBin opSub (mVar 2) (mVar 8)) aNil))) (tgName 11) (mTest (mBin opEq (mCall (arity 2 F__law_draw) [] (aCons (mVar 0) (aCons (mC (.int 2)) aNil))) (mC (.int 0)))) (mVar 11) [11])) aNil)))
  (sSeq (sAsg (mNew aNil) (gmName 5))
  (sFor (mIt (fSeq FU) (mVar 9)) (gmName 11)
  (sAsg (mBin opAdd (mVar 5) (closeE (mComp (mIt (fSeq FU) (mVar 10)) (tgName 13) mTrue (mBin opAdd (mVar 11) (mVar 13)) [13]))) (gmName 5))))))
  (sAsg (mCall (arity 2 F__law_pick) [] (aCons (mVar 0) (aCons (mLst (aCons (mVar 4) (aCons (mLst aNil) (aCons (mLst (aCons (mCall (arity 2 F__law_pick) [] (aCons (mVar 0) (aCons (mVar 4) aNil))) aNil)) (aCons (mLst (aCons (mCall (arity 2 F__law_pick) [] (aCons (mVar 0) (aCons (mVar 4) aNil))) (aCons (mCall (arity 2 F__law_pick) [] (aCons (mVar 0) (aCons (mVar 4) aNil))) aNil))) aNil))))) aNil))) (gmName 5)))))))
  (sRet (mTup (aCons (mVar 2) (aCons (mCB bTuple (aCons (mCB bSortSet (aCons (mVar 5) aNil)) aNil)) aNil)))))))
def F__law_lot : CF := fnB 14 m__law_lot
def m__law_made : SM := (sRet (closeE (mMake 34 (arity 3 F_Lot___init__) [] (aCons (mBin opIx (mVar 0) (mC (.int 0))) (aCons (mCB bListF (aCons (mBin opIx (mVar 0) (mC (.int 1))) aNil)) aNil)))))
def F__law_made : CF := fnB 1 m__law_made
def m__law_shuffled : SM := (sSeq (sPar 2 3 (aCons (mCB bList (aCons (mVar 1) aNil)) (aCons (mNew aNil) aNil)))
  (sSeq (sWhile FU (mTest (mBin opNe (mVar 2) (mLst aNil)))
  (sExpr (mMeth "list" fAppend (mVar 3) (aCons (mMeth "list" fPop (mVar 2) (aCons (mCall (arity 2 F__law_draw) [] (aCons (mVar 0) (aCons (mCB bLen (aCons (mVar 2) aNil)) aNil))) aNil)) aNil))))
  (sRet (mVar 3))))
def F__law_shuffled : CF := fnB 4 m__law_shuffled
def m__law_told : SM := (sRet (mCB bTuple (aCons (closeE (mComp (mRng1 (mVar 1)) (tgName 2) mTrue (mCall (arity 2 F__law_pick) [] (aCons (mVar 0) (aCons (mLst (aCons (mC .non) (aCons (mC (.int 0)) (aCons (mC (.int 1)) aNil)))) aNil))) [2])) aNil)))
def F__law_told : CF := fnB 3 m__law_told
def m__law_told_right : SM := (sSeq (sAsg (mCB bTuple (aCons (closeE (mComp (mIt (fSeq FU) (mBin opIx (mVar 0) (mC (.int 1)))) (tgName 9) (mTest (mBin opLeI (mCall (arity 2 F__law_lies) [] (aCons (mVar 2) (aCons (mVar 9) aNil))) (mVar 3))) (mVar 9) [9])) aNil)) (gmName 4))
  (sSeq (sIf (tmOr (mTest (mBin opNe (mCall (arity 3 F_left_with) [] (aCons (mVar 1) (aCons (mVar 2) (aCons (mVar 3) aNil)))) (mVar 4))) (mTest (mBin opNe (mCallK (arity 3 F_left_with) [0, 1, 2] 3 (aCons (mVar 1) (aCons (mVar 2) (aCons (mVar 3) aNil)))) (mVar 4))))
  (sRet (mC (.bl false)))
  sNil)
  (sSeq (sIf (mTest (mBin opEq (mVar 4) (mTup aNil)))
  (sRet (mAnd (mBin opIsN (mCall (arity 3 F_sure_with) [] (aCons (mVar 1) (aCons (mVar 2) (aCons (mVar 3) aNil)))) (mC .non)) (mBin opIsN (mCall (arity 3 F_lies_told) [] (aCons (mVar 1) (aCons (mVar 2) (aCons (mVar 3) aNil)))) (mC .non))))
  sNil)
  (sSeq (sAsg (mCB bTuple (aCons (closeE (mComp (mRng1 (mBin opIx (mVar 0) (mC (.int 0)))) (tgName 7) mTrue (mIf (mTest (mBin opEq (closeE (mComp (mIt (fSeq FU) (mVar 4)) (tgName 9) (mTest (mBin opNe (mBin opIx (mVar 9) (mVar 7)) (mBin opIx (mBin opIx (mVar 4) (mC (.int 0))) (mVar 7)))) (mVar 9) [9])) (mLst aNil))) (mBin opIx (mBin opIx (mVar 4) (mC (.int 0))) (mVar 7)) (mC .non)) [7])) aNil)) (gmName 5))
  (sSeq (sAsg (closeE (mComp (mIt (fEnum 0) (mVar 2)) (tgTup [7, 8]) (tmAnd (mTest (mBin opNotN (mVar 8) (mC .non))) (mTest (mBin opEq (closeE (mComp (mIt (fSeq FU) (mVar 4)) (tgName 9) (mTest (mBin opEq (mBin opIx (mVar 9) (mVar 7)) (mVar 8))) (mVar 9) [9])) (mLst aNil)))) (mVar 7) [7, 8])) (gmName 6))
  (sRet (mAnd (mBin opEq (mCall (arity 3 F_sure_with) [] (aCons (mVar 1) (aCons (mVar 2) (aCons (mVar 3) aNil)))) (mVar 5)) (mBin opEq (mCall (arity 3 F_lies_told) [] (aCons (mVar 1) (aCons (mVar 2) (aCons (mVar 3) aNil)))) (mCB bTuple (aCons (mVar 6) aNil))))))))))
def F__law_told_right : CF := fnB 10 m__law_told_right
def q_law_1 : SM := (sAsg (mCall (arity 1 F__law_begun) [] (aCons (mVar 0) aNil)) (gmName 1))
def q_law_2 : SM := (sAsg (mCall (arity 2 F__law_lot) [] (aCons (mVar 1) (aCons (mC (.int 6)) aNil))) (gmName 3))
def q_law_3 : SM := (sAsg (mTup (aCons (mCall (arity 1 F__law_made) [] (aCons (mVar 3) aNil)) (aCons (mCall (arity 2 F__law_told) [] (aCons (mVar 1) (aCons (mBin opIx (mVar 3) (mC (.int 0))) aNil))) aNil))) (gmTup 2 (gmsCons (gmName 4) (gmsCons (gmName 5) gmsNil))))
def q_law_4 : SM := (sAsg (closeE (mComp (mIt (fSeq FU) (mBin opIx (mVar 3) (mC (.int 1)))) (tgName 8) mTrue (mCall (arity 2 F__law_lies) [] (aCons (mVar 5) (aCons (mVar 8) aNil))) [8])) (gmName 6))
def q_law_5 : SM := (sRet (mC (.bl false)))
def q_law_6 : SM := (sIf (tmOr (mTest (mBin opNe (mCall (arity 2 F_fewest_lies) [] (aCons (mVar 4) (aCons (mVar 5) aNil))) (mIf (mTest (mBin opNe (mVar 6) (mLst aNil))) (mCB bMin (aCons (mVar 6) aNil)) (mC .non)))) (tmNot (mTest (mCall (arity 2 F__law_errors_right) [] (aCons (mVar 4) (aCons (mBin opIx (mVar 3) (mC (.int 0))) aNil))))))
  q_law_5
  sNil)
def q_law_7 : SM := (sRet (mC (.bl false)))
def q_law_8 : SM := (sIf (tmNot (mTest (mCall (arity 4 F__law_told_right) [] (aCons (mVar 3) (aCons (mVar 4) (aCons (mVar 5) (aCons (mVar 7) aNil)))))))
  q_law_7
  sNil)
def q_law_9 : SM := (sRet (mC (.bl false)))
def q_law_10 : SM := (sIf (tmAnd (mTest (mBin opGtI (mVar 7) (mC (.int 0)))) (mTest (mBin opNe (closeE (mComp (mIt (fSeq FU) (mCall (arity 3 F_left_with) [] (aCons (mVar 4) (aCons (mVar 5) (aCons (mBin opSub (mVar 7) (mC (.int 1))) aNil))))) (tgName 8) (mTest (mBin opNotIn (mVar 8) (mCall (arity 3 F_left_with) [] (aCons (mVar 4) (aCons (mVar 5) (aCons (mVar 7) aNil)))))) (mVar 8) [8])) (mLst aNil))))
  q_law_9
  sNil)
def q_law_11 : SM := (sFor (mRng1 (mC (.int 7))) (gmName 7)
  (sSeq q_law_8
  q_law_10))
def q_law_12 : SM := (sIf (mTest (mBin opEq (mBin opIx (mVar 3) (mC (.int 1))) (mTup aNil)))
  sCont
  sNil)
def q_law_13 : SM := (sAsg (mTup (aCons (mCall (arity 2 F__law_pick) [] (aCons (mVar 1) (aCons (mBin opIx (mVar 3) (mC (.int 1))) aNil))) (aCons (mCall (arity 2 F__law_draw) [] (aCons (mVar 1) (aCons (mBin opAdd (mBin opIx (mVar 3) (mC (.int 0))) (mC (.int 1))) aNil))) aNil))) (gmTup 2 (gmsCons (gmName 8) (gmsCons (gmName 7) gmsNil))))
def q_law_14 : SM := (sAsg (mCB bTuple (aCons (mSl (mCall (arity 2 F__law_shuffled) [] (aCons (mVar 1) (aCons (mCB bListRngF (aCons (mBin opIx (mVar 3) (mC (.int 0))) aNil)) aNil))) pNo (pSome (mVar 7))) aNil)) (gmName 9))
def q_law_15 : SM := (sAsg (mCall (arity 2 F__law_flip) [] (aCons (mVar 8) (aCons (mVar 9) aNil))) (gmName 10))
def q_law_16 : SM := (sRet (mC (.bl false)))
def q_law_17 : SM := (sIf (tmOr (mTest (mBin opNotIn (mVar 8) (mCall (arity 3 F_left_with) [] (aCons (mVar 4) (aCons (mVar 10) (aCons (mVar 7) aNil)))))) (tmOr (tmNot (mTest (mCall (arity 4 F__law_told_right) [] (aCons (mVar 3) (aCons (mVar 4) (aCons (mVar 10) (aCons (mVar 7) aNil))))))) (mTest (mBin opGtI (mCall (arity 2 F_fewest_lies) [] (aCons (mVar 4) (aCons (mVar 10) aNil))) (mVar 7)))))
  q_law_16
  sNil)
def q_law_18 : SM := (sPar 11 12 (aCons (mCall (arity 2 F__law_draw) [] (aCons (mVar 1) (aCons (mBin opIx (mVar 3) (mC (.int 0))) aNil))) (aCons (mCall (arity 2 F_fewest_lies) [] (aCons (mVar 4) (aCons (mVar 5) aNil))) aNil)))
def q_law_19 : SM := (sAsg (mBin opAdd (mBin opAdd (mSl (mVar 5) pNo (pSome (mVar 11))) (mTup (aCons (mCall (arity 2 F__law_draw) [] (aCons (mVar 1) (aCons (mC (.int 2)) aNil))) aNil))) (mSl (mVar 5) (pSome (mBin opAdd (mVar 11) (mC (.int 1)))) pNo)) (gmName 13))
def q_law_20 : SM := (sRet (mC (.bl false)))
def q_law_21 : SM := (sIf (tmAnd (mTest (mBin opIsN (mBin opIx (mVar 5) (mVar 11)) (mC .non))) (mTest (mBin opNe (closeE (mComp (mIt (fSeq FU) (mCall (arity 3 F_left_with) [] (aCons (mVar 4) (aCons (mVar 13) (aCons (mVar 7) aNil))))) (tgName 17) (mTest (mBin opNotIn (mVar 17) (mCall (arity 3 F_left_with) [] (aCons (mVar 4) (aCons (mVar 5) (aCons (mVar 7) aNil)))))) (mVar 17) [17])) (mLst aNil))))
  q_law_20
  sNil)
def q_law_22 : SM := (sRet (mC (.bl false)))
def q_law_23 : SM := (sIf (tmOr (mTest (mBin opEq (mCall (arity 3 F_left_with) [] (aCons (mVar 4) (aCons (mVar 5) (aCons (mVar 12) aNil)))) (mTup aNil))) (tmAnd (mTest (mBin opGtI (mVar 12) (mC (.int 0)))) (mTest (mBin opNe (mCall (arity 3 F_left_with) [] (aCons (mVar 4) (aCons (mVar 5) (aCons (mBin opSub (mVar 12) (mC (.int 1))) aNil)))) (mTup aNil)))))
  q_law_22
  sNil)
def q_law_24 : SM := (sAsg (mCB bTuple (aCons (closeE (mComp (mIt (fSeq FU) (mVar 10)) (tgName 16) mTrue (mBin opSub (mC (.int 1)) (mVar 16)) [16])) aNil)) (gmName 14))
def q_law_25 : SM := (sRet (mC (.bl false)))
def q_law_26 : SM := (sIf (tmOr (mTest (mBin opNe (closeE (mComp (mIt (fSeq FU) (mBin opIx (mVar 3) (mC (.int 1)))) (tgName 17) (mTest (mBin opNe (mBin opAdd (mCall (arity 2 F__law_lies) [] (aCons (mVar 10) (aCons (mVar 17) aNil))) (mCall (arity 2 F__law_lies) [] (aCons (mVar 14) (aCons (mVar 17) aNil)))) (mBin opIx (mVar 3) (mC (.int 0))))) (mVar 17) [17])) (mLst aNil))) (mTest (mBin opEq (mCall (arity 3 F_left_with) [] (aCons (mVar 4) (aCons (mVar 14) (aCons (mBin opSub (mBin opIx (mVar 3) (mC (.int 0))) (mVar 7)) aNil)))) (mTup aNil))))
  q_law_25
  sNil)
def q_law_27 : SM := (sFor (mRng1 (mBin opAdd (mC (.int 4)) (mCB bMin (aCons (mCB bLen (aCons (mVar 0) aNil)) (aCons (mC (.int 9)) aNil))))) (gmName 2)
  (sSeq q_law_2
  (sSeq q_law_3
  (sSeq q_law_4
  (sSeq q_law_6
  (sSeq q_law_11
  (sSeq q_law_12
  (sSeq q_law_13
  (sSeq q_law_14
  (sSeq q_law_15
  (sSeq q_law_17
  (sSeq q_law_18
  (sSeq q_law_19
  (sSeq q_law_21
  (sSeq q_law_23
  (sSeq q_law_24
  q_law_26))))))))))))))))
def q_law_28 : SM := (sAsg (closeE (mMake 34 (arity 3 F_Lot___init__) [] (aCons (mC (.int 2)) (aCons (mLst (aCons (mTup (aCons (mC (.int 0)) (aCons (mC (.int 0)) aNil))) (aCons (mTup (aCons (mC (.int 0)) (aCons (mC (.int 1)) aNil))) (aCons (mTup (aCons (mC (.int 1)) (aCons (mC (.int 0)) aNil))) aNil)))) aNil)))) (gmName 15))
def q_law_29 : SM := (sRet (mC (.bl false)))
def q_law_30 : SM := (sIf (tmOr (mTest (mBin opNe (mCallK (arity 3 F_left_with) [0, 1, 2] 3 (aCons (mVar 15) (aCons (mTup (aCons (mC (.int 1)) (aCons (mC (.int 1)) aNil))) (aCons (mC (.int 1)) aNil)))) (mTup (aCons (mTup (aCons (mC (.int 0)) (aCons (mC (.int 1)) aNil))) (aCons (mTup (aCons (mC (.int 1)) (aCons (mC (.int 0)) aNil))) aNil))))) (tmOr (mTest (mBin opNe (mCall (arity 3 F_sure_with) [] (aCons (mVar 15) (aCons (mTup (aCons (mC (.int 1)) (aCons (mC (.int 1)) aNil))) (aCons (mC (.int 1)) aNil)))) (mTup (aCons (mC .non) (aCons (mC .non) aNil))))) (mTest (mBin opNe (mCallK (arity 2 F_fewest_lies) [0, 1] 2 (aCons (mVar 15) (aCons (mTup (aCons (mC (.int 1)) (aCons (mC (.int 1)) aNil))) aNil))) (mC (.int 1))))))
  q_law_29
  sNil)
def q_law_31 : SM := (sRet (mAnd (mBin opIsN (mCall (arity 3 F_lies_told) [] (aCons (mVar 15) (aCons (mTup (aCons (mC (.int 1)) (aCons (mC (.int 1)) aNil))) (aCons (mC (.int 0)) aNil)))) (mC .non)) (mAnd (mBin opEq (mCall (arity 3 F_lies_told) [] (aCons (mVar 15) (aCons (mTup (aCons (mC (.int 1)) (aCons (mC .non) aNil))) (aCons (mC (.int 1)) aNil)))) (mTup aNil)) (mAnd (mBin opEq (mCall (arity 3 F_sure_with) [] (aCons (mVar 15) (aCons (mTup (aCons (mC .non) (aCons (mC (.int 1)) aNil))) (aCons (mC (.int 0)) aNil)))) (mTup (aCons (mC (.int 0)) (aCons (mC (.int 1)) aNil)))) (mBin opEq (mCall (arity 3 F_lies_told) [] (aCons (mVar 15) (aCons (mTup (aCons (mC (.int 1)) (aCons (mC (.int 1)) aNil))) (aCons (mC (.int 1)) aNil)))) (mTup aNil))))))
def m_law : SM := (sSeq q_law_1
  (sSeq q_law_27
  (sSeq q_law_28
  (sSeq q_law_30
  q_law_31))))
def F_law : CF := fnB 18 m_law
end Lk63
set_option maxRecDepth 100000
set_option maxHeartbeats 2000000
namespace Lk63
open SL PySem
local macro_rules | `(tactic| nofun) => `(tactic| first | ((with_reducible apply nat_le_g) <;> first | (show (_ : Prop); assumption) | (have hz := sz_val; (try simp only [Int.toNat_natCast, List.length_cons, List.length_nil, List.length_map, List.length_append, List.length_range, List.length_zip, List.length_zipIdx, List.length_replicate]); omega) | skip) | ((with_reducible apply nat_lt_g) <;> first | (show (_ : Prop); assumption) | (have hz := sz_val; (try simp only [Int.toNat_natCast, List.length_cons, List.length_nil, List.length_map, List.length_append, List.length_range, List.length_zip, List.length_zipIdx, List.length_replicate]); omega) | skip) | ((with_reducible apply int_le_g) <;> first | (show (_ : Prop); assumption) | (have hz := sz_val; (try simp only [Int.toNat_natCast, List.length_cons, List.length_nil, List.length_map, List.length_append, List.length_range, List.length_zip, List.length_zipIdx, List.length_replicate]); omega) | skip) | ((with_reducible apply int_lt_g) <;> first | (show (_ : Prop); assumption) | (have hz := sz_val; (try simp only [Int.toNat_natCast, List.length_cons, List.length_nil, List.length_map, List.length_append, List.length_range, List.length_zip, List.length_zipIdx, List.length_replicate]); omega) | skip) | ((with_reducible apply okR_le) <;> first | omega | skip) | rfl' | (intro _; rfl') | (intro _ _; rfl') | (intro _ _ _; rfl') | (intro _ _; exact bnd_ints) | (intro _ _; exact bnd_ite rfl rfl) | (intro _ _; exact bnd_iT) | exact bnd_ints | exact rfl | exact mapId_ | exact okP_iT | exact okPL_iT | exact okPL_int | exact okPL_intf | exact okK_iT | exact okK_int | (intro _ _; exact okK_iT) | (intro _ _; exact okK_int) | ((with_reducible apply okP_ite) <;> first | exact rfl | exact okP_iT | nofun) | ((with_reducible apply okP_tmap) <;> nofun) | (intro _ _; exact okP_ite rfl rfl) | (intro _ _; exact okP_iT) | (intro _ _; exact rfl) | (show (_ : Prop); assumption) | decide | (intro _ _; exact rfl) | (intro _ _ _; exact rfl) | (intro _ _; exact bnd_iT) | (intro _ _ _; exact bnd_iT) | (intros; have hz := sz_val; (try simp only [Int.toNat_natCast, List.length_cons, List.length_nil, List.length_map, List.length_append, List.length_range, List.length_zip, List.length_zipIdx]); omega) | skip)
local macro_rules | `(tactic| rfl') => `(tactic| first
  | with_reducible assumption
  | with_reducible exact ev_pno
  | with_reducible exact evo_sl_t
  | with_reducible exact evo_sl_l
  | with_reducible exact ev_nil
  | with_reducible exact ev_c
  | with_reducible exact evo_add_int
  | with_reducible exact evo_sub_int
  | with_reducible exact evo_lt
  | with_reducible exact evo_le
  | with_reducible exact evo_gt
  | with_reducible exact evo_ge
  | with_reducible exact evo_isN
  | with_reducible exact evo_notN
  | with_reducible exact evo_neg
  | with_reducible exact evb_len_t
  | with_reducible exact evb_len_l
  | with_reducible exact evb_len_d
  | with_reducible exact evb_tuple_l
  | with_reducible exact evb_tuple_t
  | with_reducible exact evb_list_l
  | with_reducible exact evb_list_t
  | with_reducible exact evb_int
  | with_reducible exact evb_abs
  | with_reducible exact evb_all
  | with_reducible exact evb_any
  | with_reducible exact evb_sum
  | with_reducible exact evb_min2
  | with_reducible exact evb_max2
  | (with_reducible apply ev_fn) <;> nofun
  | (with_reducible apply ev_cons) <;> nofun
  | (with_reducible apply ev_tup) <;> nofun
  | (with_reducible apply ev_lst) <;> nofun
  | (with_reducible apply ev_bin) <;> nofun
  | (with_reducible apply ev_un) <;> nofun
  | (with_reducible apply ev_cb) <;> nofun
  | (with_reducible apply ev_call0) <;> nofun
  | (with_reducible apply ev_call11) <;> nofun
  | (with_reducible apply ev_call21) <;> nofun
  | (with_reducible apply ev_callK1) <;> nofun
  | (with_reducible apply ev_callK2) <;> nofun
  | (with_reducible apply ev_callK2') <;> nofun
  | (with_reducible apply ev_callK3) <;> nofun
  | (with_reducible apply ev_prop0) <;> nofun
  | (with_reducible apply ev_methO0) <;> nofun
  | (with_reducible apply ev_test) <;> nofun
  | (with_reducible apply ev_tnot) <;> nofun
  | (with_reducible apply ev_tand) <;> nofun
  | (with_reducible apply ev_tor) <;> nofun
  | (with_reducible apply ev_and) <;> nofun
  | (with_reducible apply ev_or) <;> nofun
  | (with_reducible apply ev_not) <;> nofun
  | (with_reducible apply ev_if) <;> nofun
  | (with_reducible apply ev_chain) <;> nofun
  | (with_reducible apply ev_comp_t) <;> nofun
  | (with_reducible apply ev_comp) <;> nofun
  | (with_reducible apply evr_ret) <;> nofun
  | (with_reducible apply evr_asg) <;> nofun
  | (with_reducible apply evr_expr) <;> nofun
  | (with_reducible apply evr_ifr) <;> nofun
  | (with_reducible apply evi_rng1) <;> nofun
  | (with_reducible apply evi_rng2) <;> nofun
  | (with_reducible apply evi_seqG) <;> nofun
  | (with_reducible apply evi_enumG) <;> nofun
  | (with_reducible apply evi_zipG) <;> nofun
  | (with_reducible apply ev_sl) <;> nofun
  | (with_reducible apply ev_psome) <;> nofun
  | (with_reducible apply ev_sexpr) <;> nofun
  | (with_reducible apply ev_sseq) <;> nofun
  | (with_reducible apply ev_sifn) <;> nofun
  | (with_reducible apply ev_sasg) <;> nofun
  | (with_reducible apply evr_snil) <;> nofun
  | (with_reducible apply evr_assoc) <;> nofun
  | (with_reducible apply evb_sorted_keys) <;> nofun
  | (with_reducible apply evb_sortedI) <;> nofun
  | (with_reducible apply ev_dcomp_t) <;> nofun
  | (with_reducible apply ev_dcomp) <;> nofun
  | (with_reducible apply ev_var) <;> nofun
  | (with_reducible apply evo_add_tup) <;> nofun
  | (with_reducible apply evo_add_lst) <;> nofun
  | (with_reducible apply evo_eq) <;> nofun
  | (with_reducible apply evo_ne) <;> nofun
  | (with_reducible apply evo_in) <;> nofun
  | (with_reducible apply evo_notIn) <;> nofun
  | (with_reducible apply evb_min) <;> nofun
  | (with_reducible apply evb_max) <;> nofun
  | (with_reducible apply evb_rngF) <;> nofun
  | (with_reducible apply evo_mod) <;> nofun
  | (with_reducible apply evo_div) <;> nofun
  | (with_reducible apply evo_fld) <;> nofun
  | (with_reducible apply evo_isa) <;> nofun
  | (with_reducible apply evo_ix_t) <;> nofun
  | (with_reducible apply evo_ix_l) <;> nofun
  | (with_reducible apply evo_ix) <;> nofun
  | (with_reducible apply evo_mul_int) <;> nofun)
/-- data that isinstance knows -/
def plainD : D → Bool
  | .ref _ => false
  | .fn _ => false
  | .obj c _ => c == 34
  | .exc _ _ => false
  | _ => true
def isI : D → Bool
  | .int _ => true
  | _ => false
def betw (lo hi : Int) : D → Bool
  | .int i => decide (lo ≤ i) && decide (i ≤ hi)
  | _ => false
def isLT : D → Bool
  | .lst _ => true
  | .tup _ => true
  | _ => false
/-- a tuple of n of which p -/
def tupOf (n : Int) (p : D → Bool) : D → Bool
  | .tup ds => decide ((ds.length : Int) = n) && ds.all p
  | _ => false
theorem plain_ints {r : List Int} : ∀ d ∈ r.map D.int, plainD d = true := fun d hd => by
  obtain ⟨i, _, rfl⟩ := List.mem_map.mp hd
  rfl
structure IsRow (n : Nat) (r : List Int) : Prop where
  len : r.length = n
  bit : ∀ a ∈ r, a = 0 ∨ a = 1
theorem all_betw {r : List Int} {lo hi : Int} : (r.map D.int).all (betw lo hi) = r.all fun a => decide (lo ≤ a) && decide (a ≤ hi) := by
  rw [List.all_map]
  rfl
theorem bit_iff {r : List Int} : (r.all fun a => decide ((0 : Int) ≤ a) && decide (a ≤ 1)) = true ↔ ∀ a ∈ r, a = 0 ∨ a = 1 := by
  rw [List.all_eq_true]
  constructor
  · intro h a ha
    have := h a ha
    simp at this
    omega
  · intro h a ha
    rcases h a ha with rfl | rfl <;> rfl
theorem IsRow.tupOf {n : Nat} {r : List Int} (h : IsRow n r) : tupOf n (betw 0 1) (iT r) = true := by
  unfold Lk63.tupOf
  simp only [List.length_map, h.len, decide_true, all_betw, Bool.true_and]
  exact bit_iff.mpr h.bit
abbrev known (rs : List (List Int)) : List (D × D) := rs.map fun r => (iT r, D.bl true)
theorem bnd_known {n : Nat} : ∀ {rs : List (List Int)}, bndK n (known rs) = true
  | [] => rfl
  | r :: rs => by
    show (bnd n (D.bl true) && bndK n (known rs)) = true
    rw [bnd_known]
    rfl
/-- a lot -/
def lotD (n : Nat) (rs : List (List Int)) : D := .obj 34 [.int n, .tup (rs.map iT), .dic true (known rs)]
theorem bnd_lot {k n : Nat} {rs : List (List Int)} : bnd k (lotD n rs) = true := by
  show (bnd k (D.int n) && (bnd k (.tup (rs.map iT)) && (bnd k (.dic true (known rs)) && true))) = true
  rw [show bnd k (.tup (rs.map iT)) = true from bnd_rows, show bnd k (.dic true (known rs)) = true from bnd_known]
  rfl
structure IsLot (n : Nat) (rs : List (List Int)) : Prop where
  pos : 1 ≤ n
  le : n ≤ 6
  row : ∀ r ∈ rs, IsRow n r
  nd : rs.Nodup
  srt : srt rs = rs
def allR : Nat → List (List Int)
  | 0 => [[]]
  | n + 1 => (allR n).flatMap fun r => [r ++ [0], r ++ [1]]
theorem allR_len : ∀ n, (allR n).length = 2 ^ n
  | 0 => rfl
  | n + 1 => by
    have : ∀ l : List (List Int), (l.flatMap fun r => [r ++ [0], r ++ [1]]).length = 2 * l.length := by
      intro l
      induction l with
      | nil => rfl
      | cons a l ih => simp [ih]; omega
    rw [allR, this, allR_len n]
    omega
theorem mem_allR {n : Nat} : ∀ {r : List Int}, r ∈ allR n ↔ IsRow n r := by
  induction n with
  | zero =>
    intro r
    constructor
    · intro h
      rw [List.mem_singleton.mp h]
      exact ⟨rfl, by simp⟩
    · intro h
      rw [List.length_eq_zero_iff.mp h.len]
      exact List.mem_singleton.mpr rfl
  | succ n ih =>
    intro r
    rw [allR, List.mem_flatMap]
    constructor
    · rintro ⟨s, hs, h⟩
      have z := ih.mp hs
      clear ih
      have h : r = s ++ [0] ∨ r = s ++ [1] := by simpa using h
      rcases h with rfl | rfl
      · exact ⟨by simp [z.len], fun a ha => by
          rcases List.mem_append.mp ha with q | q
          · exact z.bit a q
          · exact .inl (List.mem_singleton.mp q)⟩
      · exact ⟨by simp [z.len], fun a ha => by
          rcases List.mem_append.mp ha with q | q
          · exact z.bit a q
          · exact .inr (List.mem_singleton.mp q)⟩
    · intro h
      rcases List.eq_nil_or_concat r with rfl | ⟨s, a, rfl⟩
      · exact absurd h.len (by simp)
      · refine ⟨s, ih.mpr ⟨by have := h.len; simp at this; exact this, fun b hb => h.bit b (by simp [hb])⟩, ?_⟩
        rcases h.bit a (by simp) with rfl | rfl <;> simp
theorem nodup_mapI {α β : Type} {f : α → β} {l : List α} (inj : ∀ x y, f x = f y → x = y) (h : l.Nodup) : (l.map f).Nodup := List.pairwise_map.mpr (h.imp fun hne e => hne (inj _ _ e))
theorem nodup_ofmap {α β : Type} {f : α → β} {l : List α} (h : (l.map f).Nodup) : l.Nodup := (List.pairwise_map.mp h).imp fun hne e => hne (by rw [e])
theorem nodup_sub_len {α : Type} [DecidableEq α] : ∀ {xs ys : List α}, xs.Nodup → (∀ x ∈ xs, x ∈ ys) → xs.length ≤ ys.length
  | [], _, _, _ => Nat.zero_le _
  | x :: xs, ys, h, s => by
    have h1 := List.nodup_cons.mp h
    have z := nodup_sub_len (ys := ys.erase x) h1.2 fun y hy => (List.mem_erase_of_ne (fun e => h1.1 (by rw [← e]; exact hy))).mpr (s y (List.mem_cons_of_mem _ hy))
    have := List.length_erase_of_mem (s x List.mem_cons_self)
    have := List.length_pos_of_mem (s x List.mem_cons_self)
    simp only [List.length_cons]
    omega
theorem IsLot.len {n : Nat} {rs : List (List Int)} (h : IsLot n rs) : rs.length ≤ 64 := by
  have z := nodup_sub_len h.nd fun r hr => mem_allR.mpr (h.row r hr)
  rw [allR_len] at z
  have := Nat.pow_le_pow_right (n := 2) (by decide) h.le
  omega
theorem IsLot.sz {n : Nat} {rs : List (List Int)} (h : IsLot n rs) : rs.length < sizeLine := Nat.lt_of_le_of_lt h.len (by decide)
theorem IsRow.sz {n : Nat} {r : List Int} (h : IsRow n r) (hn : n ≤ 6) : r.length < sizeLine := Nat.lt_of_le_of_lt (by rw [h.len]; exact hn) (show 6 < sizeLine by decide)
/-- a told answer -/
def oI : Option Int → D
  | none => .non
  | some i => .int i
structure IsTold (n : Nat) (t : List (Option Int)) : Prop where
  len : t.length = n
  bit : ∀ a ∈ t, a = none ∨ a = some 0 ∨ a = some 1
theorem IsTold.sz {n : Nat} {r : List (Option Int)} (h : IsTold n r) (hn : n ≤ 6) : r.length < sizeLine := Nat.lt_of_le_of_lt (by rw [h.len]; exact hn) (show 6 < sizeLine by decide)
theorem isNon_oI {x : Option Int} : isNon (oI x) = x.isNone := by cases x <;> rfl
theorem deq_oI_int {x : Option Int} {i : Int} : deq (oI x) (.int i) = decide (x = some i) := by
  cases x with
  | none => simp [oI, deq_ni]
  | some j => simp [oI, deq_int]
theorem deq_int_oI {x : Option Int} {i : Int} : deq (.int i) (oI x) = decide (x = some i) := by
  cases x with
  | none => simp [oI, deq_in]
  | some j => simp [oI, deq_int, eq_comm]
instance : EqE oI := ⟨fun x y => by cases x <;> cases y <;> simp [oI, deq_nn, deq_ni, deq_in, deq_int]⟩
theorem okP_oI {n : Nat} {x : Option Int} : okP n (oI x) = true := by cases n <;> cases x <;> rfl
theorem okPL_oI {n : Nat} {t : List (Option Int)} : okPL n (t.map oI) = true := by
  rw [okPL_map]
  exact List.all_eq_true.mpr fun _ _ => okP_oI
theorem okP_told {n : Nat} {t : List (Option Int)} : okP (n + 1) (.tup (t.map oI)) = true := okPL_oI
theorem bnd_oI {n : Nat} {x : Option Int} : bnd n (oI x) = true := by cases x <;> rfl
theorem plain_oI {x : Option Int} : plainD (oI x) = true := by cases x <;> rfl
theorem plain_told {r : List (Option Int)} : ∀ d ∈ r.map oI, plainD d = true := fun d hd => by
  obtain ⟨i, _, rfl⟩ := List.mem_map.mp hd
  exact plain_oI
theorem get_last {st : Store} {o : MO} : (st ++ [o])[st.length]? = some o := by
  rw [List.getElem?_append_right (Nat.le_refl _), Nat.sub_self]
  rfl
theorem set_last {st : Store} {o p : MO} : (st ++ [o]).set st.length p = st ++ [p] := by
  rw [List.set_append_right _ _ (Nat.le_refl _), Nat.sub_self]
  rfl
theorem lot_fld0 {os} {n : Nat} {rs : List (List Int)} : Ev os (opFld 34 0 (lotD n rs)) (.int n) := fun _ _ => rfl
theorem lot_fld1 {os} {n : Nat} {rs : List (List Int)} : Ev os (opFld 34 1 (lotD n rs)) (.tup (rs.map iT)) := fun _ _ => rfl
theorem lot_fld2 {os} {n : Nat} {rs : List (List Int)} : Ev os (opFld 34 2 (lotD n rs)) (.dic true (known rs)) := fun _ _ => rfl
local macro_rules | `(tactic| nofun) => `(tactic| with_reducible exact okP_oI)
local macro_rules | `(tactic| nofun) => `(tactic| with_reducible exact okPL_oI)
local macro_rules | `(tactic| nofun) => `(tactic| with_reducible exact bnd_oI)
local macro_rules | `(tactic| nofun) => `(tactic| with_reducible exact okP_told)
local macro_rules | `(tactic| rfl') => `(tactic| (with_reducible apply lot_fld0) <;> nofun)
local macro_rules | `(tactic| rfl') => `(tactic| (with_reducible apply lot_fld1) <;> nofun)
local macro_rules | `(tactic| rfl') => `(tactic| (with_reducible apply lot_fld2) <;> nofun)
/-- no lot -/
def noLot : D → Bool
  | .obj _ _ => false
  | d => plainD d
def told1 (d : D) : Bool := isNon d || betw 0 1 d
theorem IsTold.tupOf {n : Nat} {t : List (Option Int)} (h : IsTold n t) : tupOf n told1 (.tup (t.map oI)) = true := by
  unfold Lk63.tupOf
  simp only [List.length_map, h.len, decide_true, Bool.true_and, List.all_map]
  refine List.all_eq_true.mpr fun x hx => ?_
  rcases h.bit x hx with rfl | rfl | rfl <;> rfl
def liesN (told : List (Option Int)) (row : List Int) : Int := ((told.zip row).filter fun p => p.1.isSome && !decide (p.1 = some p.2)).length
def wrongP (told : List (Option Int)) (row : List Int) : List Int := (told.zipIdx.filter fun p => p.1.isSome && !decide (p.1 = some (row.getD p.2 0))).map fun p => (p.2 : Int)
def leftR (rs : List (List Int)) (told : List (Option Int)) (l : Int) : List (List Int) := rs.filter fun r => decide (liesN told r ≤ l)
local macro_rules | `(tactic| rfl') => `(tactic| with_reducible assumption)
-- is_number
theorem is_number_ev {os} {d : D} (h : plainD d = true) : Ev os (F_is_number [d]) (.bl (isI d)) := fun st g => by
  cases d with
  | obj c fs =>
    obtain rfl : c = 34 := by simpa [plainD] using h
    exact fn_pure (ρ := _) rfl rfl g.cl
  | exc c fs => cases h
  | ref i => cases h
  | fn x => cases h
  | _ => exact fn_pure (ρ := _) rfl rfl g.cl
local macro_rules | `(tactic| rfl') => `(tactic| (with_reducible apply is_number_ev) <;> nofun)
-- is_between
theorem is_between_ev {os} {d : D} {lo hi : Int} (h : plainD d = true) : Ev os (F_is_between [d, .int lo, .int hi]) (.bl (betw lo hi d)) := by
  unfold F_is_between m_is_between
  cases d with
  | int i =>
    apply ev_fne
    · rfl'
    · simp [isI, betw]
    · rfl
  | _ =>
    refine ev_fn (evr_ret (fun st g => e_and_f (is_number_ev h st g))) rfl
local macro_rules | `(tactic| rfl') => `(tactic| (with_reducible apply is_between_ev) <;> nofun)
-- is_list
theorem is_list_ev {os} {d : D} (h : plainD d = true) : Ev os (F_is_list [d]) (.bl (isLT d)) := fun st g => by
  cases d with
  | obj c fs =>
    obtain rfl : c = 34 := by simpa [plainD] using h
    exact fn_pure (ρ := _) rfl rfl g.cl
  | exc c fs => cases h
  | ref i => cases h
  | fn x => cases h
  | _ => exact fn_pure (ρ := _) rfl rfl g.cl
local macro_rules | `(tactic| rfl') => `(tactic| (with_reducible apply is_list_ev) <;> nofun)
-- is_tuple_of
theorem isa_tuple_no {os} {d : D} (h : plainD d = true) (hn : ∀ ds, d ≠ .tup ds) : Ev os (opIsa (ansL isa_tuple) d) (.bl false) := fun st g => by
  cases d with
  | obj c fs =>
    obtain rfl : c = 34 := by simpa [plainD] using h
    rfl
  | exc c fs => cases h
  | ref i => cases h
  | fn x => cases h
  | tup ds => exact (hn ds rfl).elim
  | _ => rfl
theorem is_tuple_of_tup {os} {ds : List D} {n lo hi : Int} (h : ∀ d ∈ ds, plainD d = true) (hz : ds.length < sizeLine) : Ev os (F_is_tuple_of [.tup ds, .int n, .int lo, .int hi]) (.bl (tupOf n (betw lo hi) (.tup ds))) := by
  unfold F_is_tuple_of m_is_tuple_of
  apply ev_fne
  · rfl'
    all_goals exact h _ (by assumption)
  · simp [tupOf, deq_int]
  · rfl
local macro_rules | `(tactic| rfl') => `(tactic| (with_reducible apply is_tuple_of_tup) <;> nofun)
theorem is_tuple_of_no {os} {d : D} {n lo hi : Int} (h : plainD d = true) (hn : ∀ ds, d ≠ .tup ds) : Ev os (F_is_tuple_of [d, .int n, .int lo, .int hi]) (.bl false) :=
  ev_fn (evr_ret (fun st g => e_and_f (isa_tuple_no h hn st g))) rfl
-- is_row
theorem is_row_tup {os} {ds : List D} {n : Int} (h : ∀ d ∈ ds, plainD d = true) (hz : ds.length < sizeLine) : Ev os (F_is_row [.int n, .tup ds]) (.bl (tupOf n (betw 0 1) (.tup ds))) := by
  unfold F_is_row m_is_row
  apply ev_fne
  · rfl'
  · rfl
  · rfl
theorem is_row_no {os} {d : D} {n : Int} (h : plainD d = true) (hn : ∀ ds, d ≠ .tup ds) : Ev os (F_is_row [.int n, d]) (.bl false) := by
  refine ev_fn (evr_ret (ev_call0 (ds := [d, .int n, .int 0, .int 1]) ?_ (is_tuple_of_no h hn) rfl)) rfl
  rfl'
theorem is_row_yes {os} {n : Nat} {r : List Int} (h : IsRow n r) (hz : r.length < sizeLine) : Ev os (F_is_row [.int n, iT r]) (.bl true) := ev_eq (is_row_tup plain_ints (by simpa using hz)) (by rw [show tupOf n (betw 0 1) (.tup (r.map D.int)) = true from h.tupOf])
local macro_rules | `(tactic| rfl') => `(tactic| (with_reducible apply is_row_tup) <;> nofun)
-- need_rows
theorem need_rows_ev {n : Nat} {rs : List (List Int)} (hr : ∀ r ∈ rs, IsRow n r) (hn : n ≤ 6) (hd : rs.Nodup) (hz : rs.length < sizeLine) : Ev [] (F_need_rows [.int n, .lst (rs.map iT)]) .non := by
  unfold F_need_rows m_need_rows
  refine ev_fnSN fun st g => ?_
  refine sw_seq (sw_eq (st := st) (s_if_f (st1 := st) (t_not (b := true) (t_test (e_call (ds := [.lst (rs.map iT)]) rfl rfl (is_list_ev (os := []) rfl st g)))) rfl) ?_)
  refine sw_seq (sw_eq (a := (.nx, [some (.int n), some (.lst (rs.map iT)), some (.ref st.length), none, none])) (st := st ++ [.dic true []]) rfl ?_)
  refine sw_for (os := []) (ys := rs.zipIdx) (h := fun p => .tup [.int (p.2 : Int), iT p.1]) (fun k ρ s => (∃ a3 a4, ρ = [some (.int n), some (.lst (rs.map iT)), some (.ref st.length), a3, a4]) ∧ s = st ++ [.dic true (known (rs.take k))]) ?_ ?_ ?_ ?_ ?_
  · rfl'
  · rintro k ρ s ⟨_, rfl⟩
    exact g.push bnd_known
  · exact ⟨⟨_, _, rfl⟩, rfl⟩
  · rintro k ⟨r, j⟩ ρ s ex ⟨⟨a3, a4, rfl⟩, rfl⟩
    rw [List.getElem?_zipIdx] at ex
    cases er : rs[k]? with
    | none => rw [er] at ex; cases ex
    | some r' =>
      rw [er] at ex
      simp at ex
      obtain ⟨rfl, rfl⟩ := ex
      have hm := List.mem_of_getElem? er
      have hk : k < rs.length := (List.getElem?_eq_some_iff.mp er).1
      have nin : r' ∉ rs.take k := fun z => by
        obtain ⟨j, hj, e⟩ := List.getElem_of_mem z
        rw [List.length_take] at hj
        rw [List.getElem_take] at e
        have e2 : rs[j]? = some r' := by rw [← e]; exact List.getElem?_eq_getElem (by omega)
        have := (List.getElem?_inj (by omega) hd).mp (e2.trans er.symm)
        omega
      have cg : CG [(st.length, .dic true (known (rs.take k)))] (st ++ [MO.dic true (known (rs.take k))]) := g.new bnd_known
      show sat (Res.bind (.ok [some (.int n), some (.lst (rs.map iT)), some (.ref st.length), some (.int k), some (iT r')] _) _) _
      rw [bind_ok]
      refine sw_seq (sw_eq (s_if_f (st1 := st ++ [MO.dic true (known (rs.take k))]) (t_or_f (st1 := st ++ [MO.dic true (known (rs.take k))]) (t_not (b := true) (t_test ((?_ : Ev [(st.length, .dic true (known (rs.take k)))] _ _) _ cg))) (t_test (e_bin (d1 := iT r') (d2 := .ref st.length) rfl rfl ?_))) rfl) ?_)
      · rw [show D.bl true = D.bl (tupOf n (betw 0 1) (.tup (r'.map D.int))) by rw [show tupOf n (betw 0 1) (.tup (r'.map D.int)) = true from (hr r' hm).tupOf]]
        rfl'
        · exact plain_ints
        · simpa using (hr r' hm).sz hn
      · unfold opIn dicOf
        dsimp only
        rw [lst_last]
        dsimp only
        rw [dKey_iT]
        dsimp only
        rw [dLook_map, if_neg nin]
        rfl
      · refine sw_asgG (sw_c (sw_eq (a := [some (.int n), some (.lst (rs.map iT)), some (.ref st.length), some (.int k), some (iT r')]) (st := st ++ [.dic true (known (rs.take (k + 1)))]) ?_ ⟨⟨_, _, rfl⟩, rfl⟩))
        have e1 : setD (.ref st.length) (iT r') (.bl true) (st ++ [MO.dic true (known (rs.take k))]) = some (st ++ [MO.dic true (known (rs.take (k + 1)))]) := by
          unfold setD
          dsimp only
          rw [lst_last]
          dsimp only
          rw [dKey_iT]
          dsimp only
          rw [if_pos (by rw [List.length_map, List.length_take]; omega), dSet_new nin, lst_set, List.take_succ, er]
          simp [known]
        show (match setD (.ref st.length) (iT r') (.bl true) (st ++ [MO.dic true (known (rs.take k))]) with
          | some st3 => Res.ok _ st3
          | none => .bad) = _
        rw [e1]
  · rintro ρ s ⟨⟨a3, a4, rfl⟩, rfl⟩
    exact ⟨rfl, by simp⟩
-- Lot.__init__
theorem fzS_app {rf : Nat → Option D} {o o' : MO} : ∀ {st st' : Store}, fzS rf st = some st' → fzM rf o = some o' → fzS rf (st ++ [o]) = some (st' ++ [o'])
  | [], st', h, h2 => by
    simp only [fzS, Option.some.injEq] at h
    subst h
    simp [fzS, h2]
  | a :: st, st', h, h2 => by
    cases e : fzM rf a with
    | none => simp [fzS, e] at h
    | some a' =>
      cases e2 : fzS rf st with
      | none => simp [fzS, e, e2] at h
      | some s' =>
        simp only [fzS, e, e2, Option.some.injEq] at h
        subst h
        simp only [List.cons_append, fzS, e, fzS_app e2 h2]
theorem set_end {st : Store} {o q : MO} {l : Store} : (st ++ o :: l).set st.length q = st ++ q :: l := by
  rw [List.set_append_right _ _ (Nat.le_refl _), Nat.sub_self]
  rfl
theorem get_end {st : Store} {o : MO} {l : Store} : (st ++ o :: l)[st.length]? = some o := by
  rw [List.getElem?_append_right (Nat.le_refl _), Nat.sub_self]
  rfl
theorem srt_ne {n : Nat} {rs : List (List Int)} (hn : 1 ≤ n) (hr : ∀ r ∈ rs, IsRow n r) : ∀ r ∈ rs, r ≠ [] := fun r h e => by
  have := (hr r h).len
  rw [e] at this
  simp at this
  omega
theorem sorted_rows_ev {os} {rs : List (List Int)} (h : ∀ r ∈ rs, r ≠ []) : Ev os (bSortedF [.lst (rs.map iT)]) (.lst ((srt rs).map iT)) := fun st _ => by
  unfold bSortedF itsOf seqOf
  dsimp only
  rw [if_pos (okSort_iT h), sortD_iT]
theorem mem_srt {rs : List (List Int)} {r : List Int} : r ∈ srt rs ↔ r ∈ rs := (srt_perm rs).mem_iff
theorem lot_init {n : Nat} {rs : List (List Int)} {st : Store} (g : CG [] st) (h1 : 1 ≤ n) (h6 : n ≤ 6) (hr : ∀ r ∈ rs, IsRow n r) (hd : rs.Nodup) (hz : rs.length < sizeLine) :
    F_Lot___init__ [.ref st.length, .int n, .lst (rs.map iT)] (st ++ [.ins 34 []]) = .ok .non (st ++ [.ins 34 [.int n, .tup ((srt rs).map iT), .dic true (known (srt rs))]]) := by
  have g2 : CG [] (st ++ [MO.ins 34 []]) := g.push rfl
  have e1 : m_Lot___init__ (startE 4 [.ref st.length, .int n, .lst (rs.map iT)]) (st ++ [.ins 34 []]) = .ok (.nx, startE 4 [.ref st.length, .int n, .lst (rs.map iT)]) (st ++ [.ins 34 [.int n, .tup ((srt rs).map iT), .ref (st.length + 1)], .dic true (known (srt rs))]) := by
    unfold m_Lot___init__
    refine s_seq (s_if_f (st1 := st ++ [.ins 34 []]) (t_not (b := true) (t_test (e_call (ds := [.int n, .int 1, .int 6]) rfl rfl ((is_between_ev (os := []) rfl _ g2).trans (by simp [betw]; omega))))) rfl) ?_
    refine s_seq (ρ1 := startE 4 [.ref st.length, .int n, .lst (rs.map iT)]) (st1 := st ++ [.ins 34 []]) (ev_sexpr (os := []) (ev_call0 (ds := [.int n, .lst (rs.map iT)]) (fun _ _ => rfl) (need_rows_ev hr h6 hd hz) rfl) _ g2) ?_
    refine s_seq (ρ1 := startE 4 [.ref st.length, .int n, .lst (rs.map iT)]) (st1 := st ++ [.ins 34 [.int n]]) ?_ ?_
    · show (match (st ++ [MO.ins 34 []])[st.length]? with
        | some (.ins k fs) => if k = 34 then (if 0 = fs.length then Res.ok (Fl.nx, _) ((st ++ [MO.ins 34 []]).set st.length (.ins 34 (fs ++ [D.int n]))) else if 0 < fs.length then .ok (.nx, _) ((st ++ [MO.ins 34 []]).set st.length (.ins 34 (fs.set 0 (.int n)))) else .bad) else .bad
        | _ => .bad) = _
      rw [lst_last]
      simp only [lst_set]
      rfl
    have g3 : CG [] (st ++ [MO.ins 34 [.int n]]) := g.push rfl
    refine s_seq (ρ1 := startE 4 [.ref st.length, .int n, .lst (rs.map iT)]) (st1 := st ++ [.ins 34 [.int n, .tup ((srt rs).map iT)]]) ?_ ?_
    · have e : mCB bTuple (aCons (mCB bSortedF (aCons (mVar 2) aNil)) aNil) (startE 4 [.ref st.length, .int n, .lst (rs.map iT)]) (st ++ [MO.ins 34 [.int n]]) = .ok (.tup ((srt rs).map iT)) (st ++ [MO.ins 34 [.int n]]) := e_cb (a_cons (e_cb (a_cons rfl rfl) (sorted_rows_ev (os := []) (srt_ne h1 hr) _ g3)) rfl) rfl
      unfold sFldD
      rw [e, bind_ok]
      show (match (st ++ [MO.ins 34 [D.int n]])[st.length]? with
        | some (.ins k fs) => if k = 34 then (if 1 = fs.length then Res.ok (Fl.nx, _) ((st ++ [MO.ins 34 [D.int n]]).set st.length (.ins 34 (fs ++ [D.tup ((srt rs).map iT)]))) else if 1 < fs.length then .ok (.nx, _) ((st ++ [MO.ins 34 [D.int n]]).set st.length (.ins 34 (fs.set 1 (.tup ((srt rs).map iT))))) else .bad) else .bad
        | _ => .bad) = _
      rw [lst_last]
      simp only [lst_set]
      rfl
    have g4 : CG [(st.length, .ins 34 [.int n, .tup ((srt rs).map iT)])] (st ++ [MO.ins 34 [.int n, .tup ((srt rs).map iT)]]) := g.new (by
      show (bnd st.length (D.int n) && (bnd st.length (D.tup ((srt rs).map iT)) && true)) = true
      rw [show bnd st.length (D.tup ((srt rs).map iT)) = true from bnd_rows]
      rfl)
    have e : mDComp true (mIt (fSeq FU) (mUn (opFld 34 1) (mVar 0))) (tgName 3) mTrue (mVar 3) (mC (.bl true)) [3] (startE 4 [.ref st.length, .int n, .lst (rs.map iT)]) (st ++ [MO.ins 34 [.int n, .tup ((srt rs).map iT)]]) = .ok (.ref (st.length + 1)) (st ++ [MO.ins 34 [.int n, .tup ((srt rs).map iT)], .dic true (known (srt rs))]) := by
      have z := dcomp_core (os := [(st.length, .ins 34 [.int n, .tup ((srt rs).map iT)])]) (ρ := startE 4 [.ref st.length, .int n, .lst (rs.map iT)]) (mi := mIt (fSeq FU) (mUn (opFld 34 1) (mVar 0))) (tg := tgName 3) (cm := mTrue) (mk := mVar 3) (mv := mC (.bl true)) (vs := [3]) (ys := srt rs) (h := iT) (E := fun r => [some (.ref st.length), some (.int n), some (.lst (rs.map iT)), some (iT r)]) (p := fun _ => true) (k := iT) (v := fun _ => .bl true) (t := true) g4
        (evi_tup (f := iT) (ev_un (d1 := .ref st.length) (fun _ _ => rfl) (fun s gs => by
          have q := gs.2 _ List.mem_cons_self
          unfold opFld insOf
          dsimp only at q ⊢
          rw [q]
          rfl))) (fun _ _ => rfl) (fun _ _ _ _ => rfl) (fun _ _ _ _ _ => rfl) (fun _ _ _ _ _ => rfl) (by rw [(srt_perm rs).length_eq]; exact hz) (fun _ _ _ => okK_iT) (fun _ _ _ => rfl)
      rw [z, List.filter_eq_self.mpr fun _ _ => rfl, dMk_rows (v := fun _ => .bl true) (srt_nodup hd)]
      simp [known]
    unfold sFldD
    rw [e, bind_ok]
    show (match (st ++ [MO.ins 34 [D.int n, .tup ((srt rs).map iT)], .dic true (known (srt rs))])[st.length]? with
      | some (.ins k fs) => if k = 34 then (if 2 = fs.length then Res.ok (Fl.nx, _) ((st ++ [MO.ins 34 [D.int n, .tup ((srt rs).map iT)], .dic true (known (srt rs))]).set st.length (.ins 34 (fs ++ [D.ref (st.length + 1)]))) else if 2 < fs.length then .ok (.nx, _) ((st ++ [MO.ins 34 [D.int n, .tup ((srt rs).map iT)], .dic true (known (srt rs))]).set st.length (.ins 34 (fs.set 2 (.ref (st.length + 1))))) else .bad) else .bad
      | _ => .bad) = _
    rw [get_end]
    simp only [set_end]
    rfl
  unfold F_Lot___init__ fnB
  rw [e1]
  generalize hs' : (st ++ [MO.ins 34 [.int n, .tup ((srt rs).map iT), .ref (st.length + 1)], .dic true (known (srt rs))] : Store) = st'
  have hl : (st ++ [MO.ins 34 []]).length = st.length + 1 := by simp
  have ht : st'.take (st.length + 1) = st ++ [MO.ins 34 [.int n, .tup ((srt rs).map iT), .ref (st.length + 1)]] := by
    rw [← hs']
    simp [List.take_append, List.take_of_length_le]
  have hd1 : st'[st.length + 1]? = some (.dic true (known (srt rs))) := by
    rw [← hs', List.getElem?_append_right (by omega)]
    simp
  have hk : rfK st' (st.length + 1) 6 (st.length + 1) = some (.dic true (known (srt rs))) := by
    rw [rfK, if_neg (by omega), hd1]
    dsimp only
    rw [fzK_id (n := 0) (fun i hi => absurd hi (Nat.not_lt_zero _)) bnd_known]
    rfl
  have hf : fzS (rfK st' (st.length + 1) 6) (st'.take (st.length + 1)) = some (st ++ [MO.ins 34 [.int n, .tup ((srt rs).map iT), .dic true (known (srt rs))]]) := by
    rw [ht]
    refine fzS_app (fzS_id (n := st.length + 1) (rfK_id 6) (clS_mono (by omega) g.cl)) ?_
    have e2 : fzD (rfK st' (st.length + 1) 6) (.tup ((srt rs).map iT)) = some (.tup ((srt rs).map iT)) := fzD_id (n := st.length + 1) (rfK_id 6) bnd_rows
    simp only [fzM, fzL, e2, show fzD (rfK st' (st.length + 1) 6) (.ref (st.length + 1)) = _ from hk, show fzD (rfK st' (st.length + 1) 6) (.int (n : Int)) = some (.int n) from rfl]
    rfl
  show closeR (st ++ [MO.ins 34 []]).length (.ok .non st') = _
  rw [hl]
  simp only [closeR, show fzD (rfK st' (st.length + 1) 6) .non = some .non from rfl, hf]
/-- Lot(n, rows) -/
theorem lot_make {os} {am : AM} {ρ : SL.Env} {n : Nat} {rs : List (List Int)} (h : Ev os (am ρ) [.int n, .lst (rs.map iT)]) (h1 : 1 ≤ n) (h6 : n ≤ 6) (hr : ∀ r ∈ rs, IsRow n r) (hd : rs.Nodup) : Ev os (closeE (mMake 34 (arity 3 F_Lot___init__) [] am) ρ) (lotD n (srt rs)) := fun st g => by
  have hz : rs.length < sizeLine := by
    have z := nodup_sub_len hd fun r hr' => mem_allR.mpr (hr r hr')
    rw [allR_len] at z
    have := Nat.pow_le_pow_right (n := 2) (by decide) h6
    exact Nat.lt_of_le_of_lt (Nat.le_trans z this) (by decide)
  unfold closeE mMake
  rw [h st g, bind_ok]
  have e : arity 3 F_Lot___init__ (D.ref st.length :: ([D.int n, .lst (rs.map iT)] ++ [])) (st ++ [.ins 34 []]) = .ok .non (st ++ [.ins 34 [.int n, .tup ((srt rs).map iT), .dic true (known (srt rs))]]) := (if_pos rfl).trans (lot_init g.weak h1 h6 hr hd hz)
  rw [e, bind_ok]
  have hk : ∀ k, rfK (st ++ [.ins 34 [.int n, .tup ((srt rs).map iT), .dic true (known (srt rs))]]) st.length (k + 1) st.length = some (lotD n (srt rs)) := fun k => by
    rw [rfK, if_neg (by omega), lst_last]
    dsimp only
    rw [fzL_id (n := 0) (fun i hi => absurd hi (Nat.not_lt_zero _)) (by
      show (bnd 0 (D.int n) && (bnd 0 (.tup ((srt rs).map iT)) && (bnd 0 (.dic true (known (srt rs))) && true))) = true
      rw [show bnd 0 (.tup ((srt rs).map iT)) = true from bnd_rows, show bnd 0 (.dic true (known (srt rs))) = true from bnd_known]
      rfl)]
    rfl
  show closeR st.length (.ok (.ref st.length) _) = _
  simp only [closeR, show fzD (rfK (st ++ [.ins 34 [.int n, .tup ((srt rs).map iT), .dic true (known (srt rs))]]) st.length 6) (.ref st.length) = _ from hk 5, take_append_one, fzS_id (rfK_id 6) g.cl]
end Lk63
set_option maxRecDepth 100000
set_option maxHeartbeats 2000000
namespace Lk63
open SL PySem
local macro_rules | `(tactic| nofun) => `(tactic| first | ((with_reducible apply nat_le_g) <;> first | (show (_ : Prop); assumption) | (have hz := sz_val; (try simp only [Int.toNat_natCast, List.length_cons, List.length_nil, List.length_map, List.length_append, List.length_range, List.length_zip, List.length_zipIdx, List.length_replicate]); omega) | skip) | ((with_reducible apply nat_lt_g) <;> first | (show (_ : Prop); assumption) | (have hz := sz_val; (try simp only [Int.toNat_natCast, List.length_cons, List.length_nil, List.length_map, List.length_append, List.length_range, List.length_zip, List.length_zipIdx, List.length_replicate]); omega) | skip) | ((with_reducible apply int_le_g) <;> first | (show (_ : Prop); assumption) | (have hz := sz_val; (try simp only [Int.toNat_natCast, List.length_cons, List.length_nil, List.length_map, List.length_append, List.length_range, List.length_zip, List.length_zipIdx, List.length_replicate]); omega) | skip) | ((with_reducible apply int_lt_g) <;> first | (show (_ : Prop); assumption) | (have hz := sz_val; (try simp only [Int.toNat_natCast, List.length_cons, List.length_nil, List.length_map, List.length_append, List.length_range, List.length_zip, List.length_zipIdx, List.length_replicate]); omega) | skip) | ((with_reducible apply okR_le) <;> first | omega | skip) | rfl' | (intro _; rfl') | (intro _ _; rfl') | (intro _ _ _; rfl') | (intro _ _; exact bnd_ints) | (intro _ _; exact bnd_ite rfl rfl) | (intro _ _; exact bnd_iT) | exact bnd_ints | exact rfl | exact mapId_ | exact okP_iT | exact okPL_iT | exact okPL_int | exact okPL_intf | exact okK_iT | exact okK_int | (intro _ _; exact okK_iT) | (intro _ _; exact okK_int) | ((with_reducible apply okP_ite) <;> first | exact rfl | exact okP_iT | nofun) | ((with_reducible apply okP_tmap) <;> nofun) | (intro _ _; exact okP_ite rfl rfl) | (intro _ _; exact okP_iT) | (intro _ _; exact rfl) | (show (_ : Prop); assumption) | decide | (intro _ _; exact rfl) | (intro _ _ _; exact rfl) | (intro _ _; exact bnd_iT) | (intro _ _ _; exact bnd_iT) | (intros; have hz := sz_val; (try simp only [Int.toNat_natCast, List.length_cons, List.length_nil, List.length_map, List.length_append, List.length_range, List.length_zip, List.length_zipIdx]); omega) | skip)
local macro_rules | `(tactic| rfl') => `(tactic| first
  | with_reducible assumption
  | with_reducible exact ev_pno
  | with_reducible exact evo_sl_t
  | with_reducible exact evo_sl_l
  | with_reducible exact ev_nil
  | with_reducible exact ev_c
  | with_reducible exact evo_add_int
  | with_reducible exact evo_sub_int
  | with_reducible exact evo_lt
  | with_reducible exact evo_le
  | with_reducible exact evo_gt
  | with_reducible exact evo_ge
  | with_reducible exact evo_isN
  | with_reducible exact evo_notN
  | with_reducible exact evo_neg
  | with_reducible exact evb_len_t
  | with_reducible exact evb_len_l
  | with_reducible exact evb_len_d
  | with_reducible exact evb_tuple_l
  | with_reducible exact evb_tuple_t
  | with_reducible exact evb_list_l
  | with_reducible exact evb_list_t
  | with_reducible exact evb_int
  | with_reducible exact evb_abs
  | with_reducible exact evb_all
  | with_reducible exact evb_any
  | with_reducible exact evb_sum
  | with_reducible exact evb_min2
  | with_reducible exact evb_max2
  | (with_reducible apply ev_fn) <;> nofun
  | (with_reducible apply ev_cons) <;> nofun
  | (with_reducible apply ev_tup) <;> nofun
  | (with_reducible apply ev_lst) <;> nofun
  | (with_reducible apply ev_bin) <;> nofun
  | (with_reducible apply ev_un) <;> nofun
  | (with_reducible apply ev_cb) <;> nofun
  | (with_reducible apply ev_call0) <;> nofun
  | (with_reducible apply ev_call11) <;> nofun
  | (with_reducible apply ev_call21) <;> nofun
  | (with_reducible apply ev_callK1) <;> nofun
  | (with_reducible apply ev_callK2) <;> nofun
  | (with_reducible apply ev_callK2') <;> nofun
  | (with_reducible apply ev_callK3) <;> nofun
  | (with_reducible apply ev_prop0) <;> nofun
  | (with_reducible apply ev_methO0) <;> nofun
  | (with_reducible apply ev_test) <;> nofun
  | (with_reducible apply ev_tnot) <;> nofun
  | (with_reducible apply ev_tand) <;> nofun
  | (with_reducible apply ev_tor) <;> nofun
  | (with_reducible apply ev_and) <;> nofun
  | (with_reducible apply ev_or) <;> nofun
  | (with_reducible apply ev_not) <;> nofun
  | (with_reducible apply ev_if) <;> nofun
  | (with_reducible apply ev_chain) <;> nofun
  | (with_reducible apply ev_comp_t) <;> nofun
  | (with_reducible apply ev_comp) <;> nofun
  | (with_reducible apply evr_ret) <;> nofun
  | (with_reducible apply evr_asg) <;> nofun
  | (with_reducible apply evr_expr) <;> nofun
  | (with_reducible apply evr_ifr) <;> nofun
  | (with_reducible apply evi_rng1) <;> nofun
  | (with_reducible apply evi_rng2) <;> nofun
  | (with_reducible apply evi_seqG) <;> nofun
  | (with_reducible apply evi_enumG) <;> nofun
  | (with_reducible apply evi_zipG) <;> nofun
  | (with_reducible apply ev_sl) <;> nofun
  | (with_reducible apply ev_psome) <;> nofun
  | (with_reducible apply ev_sexpr) <;> nofun
  | (with_reducible apply ev_sseq) <;> nofun
  | (with_reducible apply ev_sifn) <;> nofun
  | (with_reducible apply ev_sasg) <;> nofun
  | (with_reducible apply evr_snil) <;> nofun
  | (with_reducible apply evr_assoc) <;> nofun
  | (with_reducible apply evb_sorted_keys) <;> nofun
  | (with_reducible apply evb_sortedI) <;> nofun
  | (with_reducible apply ev_dcomp_t) <;> nofun
  | (with_reducible apply ev_dcomp) <;> nofun
  | (with_reducible apply ev_var) <;> nofun
  | (with_reducible apply evo_add_tup) <;> nofun
  | (with_reducible apply evo_add_lst) <;> nofun
  | (with_reducible apply evo_eq) <;> nofun
  | (with_reducible apply evo_ne) <;> nofun
  | (with_reducible apply evo_in) <;> nofun
  | (with_reducible apply evo_notIn) <;> nofun
  | (with_reducible apply evb_min) <;> nofun
  | (with_reducible apply evb_max) <;> nofun
  | (with_reducible apply evb_rngF) <;> nofun
  | (with_reducible apply evo_mod) <;> nofun
  | (with_reducible apply evo_div) <;> nofun
  | (with_reducible apply evo_fld) <;> nofun
  | (with_reducible apply evo_isa) <;> nofun
  | (with_reducible apply evo_ix_t) <;> nofun
  | (with_reducible apply evo_ix_l) <;> nofun
  | (with_reducible apply evo_ix) <;> nofun
  | (with_reducible apply evo_mul_int) <;> nofun)
local macro_rules | `(tactic| nofun) => `(tactic| with_reducible exact okP_oI)
local macro_rules | `(tactic| nofun) => `(tactic| with_reducible exact okPL_oI)
local macro_rules | `(tactic| nofun) => `(tactic| with_reducible exact bnd_oI)
local macro_rules | `(tactic| nofun) => `(tactic| with_reducible exact okP_told)
local macro_rules | `(tactic| rfl') => `(tactic| (with_reducible apply lot_fld0) <;> nofun)
local macro_rules | `(tactic| rfl') => `(tactic| (with_reducible apply lot_fld1) <;> nofun)
local macro_rules | `(tactic| rfl') => `(tactic| (with_reducible apply lot_fld2) <;> nofun)
local macro_rules | `(tactic| rfl') => `(tactic| (with_reducible apply is_number_ev) <;> nofun)
local macro_rules | `(tactic| rfl') => `(tactic| (with_reducible apply is_between_ev) <;> nofun)
local macro_rules | `(tactic| rfl') => `(tactic| (with_reducible apply is_list_ev) <;> nofun)
local macro_rules | `(tactic| rfl') => `(tactic| (with_reducible apply is_tuple_of_tup) <;> nofun)
local macro_rules | `(tactic| rfl') => `(tactic| (with_reducible apply is_row_tup) <;> nofun)
local macro_rules | `(tactic| rfl') => `(tactic| with_reducible assumption)
-- _law_begun
/-! the tape -/
structure Tape where
  large : List Int
  rest : Int
  cells : List Int
  turn : Int
structure GoodT (t : Tape) : Prop where
  large : ∀ z ∈ t.large, 0 ≤ z
  rest : 0 ≤ t.rest
  cells : ∀ z ∈ t.cells, 0 ≤ z
def tapeKvs (t : Tape) : List (D × D) := [(.str "large", .ref 0), (.str "rest", .int t.rest), (.str "cells", .ref 2), (.str "turn", .int t.turn)]
def TP (t : Tape) (more : Store) : Store := .lst (t.large.map .int) :: .dic false (tapeKvs t) :: .lst (t.cells.map .int) :: more
theorem TP_app {t : Tape} {more l : Store} : TP t more ++ l = TP t (more ++ l) := rfl
theorem TP_len {t : Tape} {more : Store} : (TP t more).length = more.length + 3 := rfl
theorem clS_TP {n : Nat} {t : Tape} {more : Store} (hn : 3 ≤ n) : clS n (TP t more) = clS n more := by
  show (bndL n (t.large.map .int) && (bndK n (tapeKvs t) && (bndL n (t.cells.map .int) && more.all (bndM n)))) = more.all (bndM n)
  rw [bnd_ints, bnd_ints]
  have : bndK n (tapeKvs t) = true := by
    show (decide (0 < n) && (true && (decide (2 < n) && (true && true)))) = true
    simp
    omega
  rw [this]
  simp
theorem cl_TP {t t' : Tape} {more : Store} (h : clS (TP t more).length (TP t more) = true) : clS (TP t' more).length (TP t' more) = true := by
  rw [TP_len, clS_TP (by omega)] at h ⊢
  exact h
theorem tape_ix1 {t : Tape} {more : Store} : opIx (.ref 1) (.str "large") (TP t more) = .ok (.ref 0) (TP t more) := by rfl
theorem tape_ix2 {t : Tape} {more : Store} : opIx (.ref 1) (.str "rest") (TP t more) = .ok (.int t.rest) (TP t more) := by rfl
theorem tape_ix3 {t : Tape} {more : Store} : opIx (.ref 1) (.str "cells") (TP t more) = .ok (.ref 2) (TP t more) := by rfl
theorem tape_ix4 {t : Tape} {more : Store} : opIx (.ref 1) (.str "turn") (TP t more) = .ok (.int t.turn) (TP t more) := by rfl
theorem tape_set2 {t : Tape} {more : Store} {v : Int} : setD (.ref 1) (.str "rest") (.int v) (TP t more) = some (TP { t with rest := v } more) := by rfl
theorem tape_set4 {t : Tape} {more : Store} {v : Int} : setD (.ref 1) (.str "turn") (.int v) (TP t more) = some (TP { t with turn := v } more) := by rfl
def absI (a : Int) : Int := if a < 0 then -a else a
theorem absI_nn {a : Int} : 0 ≤ absI a := by unfold absI; split <;> omega
def tape0 (ns : List Int) : Tape := ⟨(ns.filter fun z => decide ((1000000000000000000 : Int) ≤ absI z)).map fun z => absI z - 1000000000000000000, 0, ns.map absI, 0⟩
theorem tape0_good {ns : List Int} : GoodT (tape0 ns) := ⟨fun z hz => by
  obtain ⟨y, hy, rfl⟩ := List.mem_map.mp hz
  have := (List.mem_filter.mp hy).2
  simp at this
  omega, Int.le_refl 0, fun z hz => by
  obtain ⟨y, hy, rfl⟩ := List.mem_map.mp hz
  exact absI_nn⟩
theorem pow18 {os} : Ev os (opPow (.int 10) (.int 18)) (.int 1000000000000000000) := fun _ _ => rfl
local macro_rules | `(tactic| rfl') => `(tactic| (with_reducible apply pow18) <;> nofun)
theorem begun_eq {ns : List Int} (hl : ns.length < sizeLine) : F__law_begun [.lst (ns.map .int)] [] = .ok (.ref 1) (TP (tape0 ns) []) := by
  have g0 : CG [] [] := ⟨rfl, by simp⟩
  have e1 : mComp (mIt (fSeq FU) (mVar 0)) (tgName 2) (mTest (mBin opGeI (mCB bAbs (aCons (mVar 2) aNil)) (mBin opPow (mC (.int 10)) (mC (.int 18))))) (mBin opSub (mCB bAbs (aCons (mVar 2) aNil)) (mBin opPow (mC (.int 10)) (mC (.int 18)))) [2] (startE 3 [.lst (ns.map .int)]) [] = .ok (.ref 0) [.lst ((tape0 ns).large.map .int)] := by
    refine (comp_keep (st := []) (ys := ns) (h := .int) (E := fun z => [some (.lst (ns.map .int)), none, some (.int z)]) (p := fun z => decide ((1000000000000000000 : Int) ≤ absI z)) (f := fun z => .int (absI z - 1000000000000000000)) g0 ?_ ?_ ?_ ?_ ?_ ?_).trans (by simp [tape0])
    · rfl'
    · nofun
    · nofun
    · nofun
    · exact hl
    · intro _ _ _
      rfl
  have g1 : CG [] [.lst ((tape0 ns).large.map .int), .dic false []] := ⟨by
    show (bndL 2 _ && (true && true)) = true
    rw [bnd_ints]
    rfl, by simp⟩
  have e2 : mComp (mIt (fSeq FU) (mVar 0)) (tgName 2) mTrue (mCB bAbs (aCons (mVar 2) aNil)) [2] [some (.lst (ns.map .int)), some (.ref 0), none] [.lst ((tape0 ns).large.map .int), .dic false []] = .ok (.ref 2) [.lst ((tape0 ns).large.map .int), .dic false [], .lst ((tape0 ns).cells.map .int)] := by
    refine (comp_keep (st := [.lst ((tape0 ns).large.map .int), .dic false []]) (ys := ns) (h := .int) (E := fun z => [some (.lst (ns.map .int)), some (.ref 0), some (.int z)]) (p := fun _ => true) (f := fun z => .int (absI z)) g1 ?_ ?_ ?_ ?_ ?_ ?_).trans (by rw [List.filter_eq_self.mpr fun _ _ => rfl]; simp [tape0])
    · rfl'
    · nofun
    · intro _ _ _ _
      rfl
    · intro _ _ _
      rfl'
    · exact hl
    · intro _ _ _
      rfl
  unfold F__law_begun fnK m__law_begun
  rw [s_seq (s_asg e1 rfl) (s_ret (d := .ref 1) (st1 := TP (tape0 ns) []) ?_)]
  · rfl
  · unfold mDict
    show Res.bind (Res.bind (Res.ok (D.str "large") _) _) _ = _
    simp only [bind_ok, pCons, pNil, mC, show ∀ st, mVar 1 ((startE 3 [D.lst (ns.map .int)]).set 1 (some (.ref 0))) st = .ok (.ref 0) st from fun _ => rfl]
    have e3 := e2
    simp only [show ([MO.lst ((tape0 ns).large.map .int)] ++ [MO.dic false []]) = [.lst ((tape0 ns).large.map .int), .dic false []] from rfl, show (startE 3 [D.lst (ns.map .int)]).set 1 (some (D.ref 0)) = [some (.lst (ns.map .int)), some (.ref 0), none] from rfl]
    rw [e3]
    rfl
-- _law_blend
theorem evi_ref {os : List (Nat × MO)} {ma : EM} {ρ : SL.Env} {i f : Nat} {ys : List Int} (h : ∀ st, CG os st → ma ρ st = .ok (.ref i) st) (hm : (i, MO.lst (ys.map .int)) ∈ os) (hl : ys.length < f) : EvI os (mIt (fSeq f) ma ρ) (ys.map .int) := fun st g => ⟨refS i, f, by
  unfold mIt
  rw [h st g, bind_ok]
  show (match st[i]? with
    | some (.lst _) => Res.ok (refS i, f) st
    | _ => .bad) = _
  rw [g.2 _ hm], fun k s gs _ => by
  unfold refS
  rw [gs.2 _ hm], by simpa using hl⟩
theorem blend_sat {t : Tape} {more : Store} (hl : t.cells.length < FU) (cl : clS (TP t more).length (TP t more) = true) : sat (F__law_blend [.ref 1] (TP t more)) fun d st' => ∃ v : Int, 0 ≤ v ∧ d = .int v ∧ st' = TP { t with turn := t.turn + 1 } more := by
  have cl' := cl_TP (t' := { t with turn := t.turn + 1 }) cl
  have hl' : ({ t with turn := t.turn + 1 } : Tape).cells.length < FU := hl
  have key : sat (m__law_blend (startE 6 [.ref 1]) (TP t more)) fun r st' => ∃ v : Int, 0 ≤ v ∧ r.1 = .rt (.int v) ∧ st' = TP { t with turn := t.turn + 1 } more := by
    unfold m__law_blend
    refine sw_seq (sw_eq (s_asg (e_bin (d1 := .int t.turn) (d2 := .int 1) (e_bin (d1 := .ref 1) (d2 := .str "turn") rfl rfl tape_ix4) rfl rfl) (ρ1 := startE 6 [.ref 1]) (st2 := TP { t with turn := t.turn + 1 } more) rfl) ?_)
    refine sw_seq (sw_eq (a := (.nx, [some (.ref 1), some (.int (t.turn + 1)), some (.int 0), none, none, none])) (st := TP { t with turn := t.turn + 1 } more) rfl ?_)
    generalize ({ t with turn := t.turn + 1 } : Tape) = t' at cl' hl' ⊢
    have cg : CG [] (TP t' more) := ⟨cl', by simp⟩
    have cg2 : CG [(2, .lst (t'.cells.map .int)), (1, .dic false (tapeKvs t'))] (TP t' more) := ⟨cl', fun p hp => by
      rcases List.mem_cons.mp hp with rfl | hp
      · rfl
      · rw [List.mem_singleton.mp hp]
        rfl⟩
    refine sw_sq (P := fun ρ s => (∃ (f : Int) (a3 a4 a5 : Option D), 0 ≤ f ∧ ρ = [some (D.ref 1), some (D.int (t.turn + 1)), some (D.int f), a3, a4, a5]) ∧ s = TP t' more) ?_ ?_
    · refine sw_for (os := []) (ys := [2147483629, 2147483587, 2147483579]) (h := D.int) (fun _ ρ s => (∃ (f : Int) (a3 a4 a5 : Option D), 0 ≤ f ∧ ρ = [some (D.ref 1), some (D.int (t.turn + 1)), some (D.int f), a3, a4, a5]) ∧ s = TP t' more) (fun st _ => ⟨_, _, rfl, stat_s, by decide⟩) ?_ ⟨⟨_, _, _, _, Int.le_refl 0, rfl⟩, rfl⟩ ?_ ?_
      · rintro _ _ _ ⟨_, rfl⟩
        exact cg
      · rintro k y _ _ ey ⟨⟨f, a3, a4, a5, hf, rfl⟩, rfl⟩
        have hy : 2147483000 ≤ y ∧ y < 2147483648 := by
          have hm := List.mem_of_getElem? ey
          simp only [List.mem_cons, List.not_mem_nil, or_false] at hm
          rcases hm with rfl | rfl | rfl <;> decide
        have m1 : cMul (t.turn + 1) 69621 = true := by
          unfold cMul
          rw [Bool.or_eq_true]
          exact .inr (by decide)
        show sat (Res.bind (Res.ok [some (D.ref 1), some (D.int (t.turn + 1)), some (D.int f), some (D.int y), a4, a5] _) _) _
        rw [bind_ok]
        refine sw_seq (sw_asg (sw_pure (os := []) (a := .int (((t.turn + 1) * 69621 + y / 7) % y)) ?_ cg ?_))
        · rfl'
          all_goals first | exact m1 | omega
        refine sw_sq (P := fun ρ s => (∃ (b : Int) (a5 : Option D), 0 ≤ b ∧ b < 2147483648 ∧ ρ = [some (D.ref 1), some (D.int (t.turn + 1)), some (D.int f), some (D.int y), some (D.int b), a5]) ∧ s = TP t' more) ?_ ?_
        · refine sw_for (os := [(2, .lst (t'.cells.map .int)), (1, .dic false (tapeKvs t'))]) (ys := t'.cells) (h := D.int) (fun _ ρ s => (∃ (b : Int) (a5 : Option D), 0 ≤ b ∧ b < 2147483648 ∧ ρ = [some (D.ref 1), some (D.int (t.turn + 1)), some (D.int f), some (D.int y), some (D.int b), a5]) ∧ s = TP t' more) ?_ ?_ ?_ ?_ ?_
          · refine evi_ref (i := 2) (fun st g => ?_) List.mem_cons_self hl'
            refine e_bin (d1 := .ref 1) (d2 := .str "cells") rfl rfl ?_
            have q := g.2 _ (List.mem_cons_of_mem _ List.mem_cons_self)
            unfold opIx dicOf
            dsimp only at q ⊢
            rw [q]
            rfl
          · rintro _ _ _ ⟨_, rfl⟩
            exact cg2
          · exact ⟨⟨_, _, Int.emod_nonneg _ (by omega), Int.lt_trans (Int.emod_lt_of_pos _ (by omega)) hy.2, rfl⟩, rfl⟩
          · rintro k z _ _ ez ⟨⟨b, a5, hb, hb2, rfl⟩, rfl⟩
            show sat (Res.bind (Res.ok [some (D.ref 1), some (D.int (t.turn + 1)), some (D.int f), some (D.int y), some (D.int b), some (D.int z)] _) _) _
            rw [bind_ok]
            refine sw_asg (sw_pure (os := []) (a := .int ((b * 48271 + z) % y)) ?_ cg ?_)
            · have m2 : cMul b 48271 = true := by
                unfold cMul
                rw [Bool.or_eq_true]
                exact .inr (by decide)
              rfl'
              all_goals first | exact m2 | omega
            · exact ⟨⟨_, _, Int.emod_nonneg _ (by omega), Int.lt_trans (Int.emod_lt_of_pos _ (by omega)) hy.2, rfl⟩, rfl⟩
          · rintro _ _ ⟨h, rfl⟩
            exact ⟨rfl, h, rfl⟩
        · rintro _ _ ⟨⟨b, a5, hb, hb2, rfl⟩, rfl⟩
          refine sw_asg (sw_pure (os := []) (a := .int (f * 2147483647 + b ^ 5 % y)) ?_ cg ?_)
          · have hp : Ev [] (opPow (.int b) (.int 5)) (.int (b ^ 5)) := fun st _ => by
              show (if cPow b 5 = true then Res.ok (D.int (b ^ (5 : Int).toNat)) st else .bad) = _
              rw [if_pos (by simp [cPow]; omega)]
              rfl
            refine ev_bin (ev_bin (ev_var rfl) ev_c (evo_mul_int ?_)) (ev_bin (ev_bin (ev_var rfl) ev_c hp) (ev_var rfl) (evo_mod (by omega))) evo_add_int
            unfold cMul
            rw [Bool.or_eq_true]
            exact .inr (by decide)
          · have := Int.emod_nonneg (b ^ 5) (show y ≠ 0 by omega)
            exact ⟨⟨_, _, _, _, by omega, rfl⟩, rfl⟩
      · rintro _ _ ⟨h, rfl⟩
        exact ⟨rfl, h, rfl⟩
    · rintro _ _ ⟨⟨f, a3, a4, a5, hf, rfl⟩, rfl⟩
      exact sw_ret (sw_var rfl ⟨f, hf, rfl, rfl⟩)
  obtain ⟨⟨fl, ρ'⟩, st', e, v, h0, h1, h2⟩ := sat_iff.mp key
  obtain rfl : fl = .rt (.int v) := h1
  have hlen : (TP t more).length = (TP { t with turn := t.turn + 1 } more).length := rfl
  have hk : st'.take (TP t more).length = TP { t with turn := t.turn + 1 } more := by
    rw [h2, hlen, List.take_length]
  have z := fn_ret (N := 6) (m := m__law_blend) (ds := [.ref 1]) e rfl (by
    rw [hk]
    exact cl')
  rw [hk] at z
  unfold F__law_blend
  rw [z]
  exact .ok ⟨v, h0, rfl, rfl⟩
-- _law_draw
theorem draw_sat {t : Tape} {more : Store} {size : Int} (g : GoodT t) (hl : t.cells.length < FU) (cl : clS (TP t more).length (TP t more) = true) (h0 : 0 < size) (h1 : size < 1073741824) : sat (F__law_draw [.ref 1, .int size] (TP t more)) fun d st' => ∃ (v : Int) (t' : Tape), 0 ≤ v ∧ v < size ∧ GoodT t' ∧ t'.cells.length < FU ∧ d = .int v ∧ st' = TP t' more := by
  have key : sat (m__law_draw (startE 3 [.ref 1, .int size]) (TP t more)) fun r st' => ∃ (v : Int) (t' : Tape), 0 ≤ v ∧ v < size ∧ GoodT t' ∧ t'.cells.length < FU ∧ r.1 = .rt (.int v) ∧ st' = TP t' more := by
    unfold m__law_draw
    refine sw_sq (P := fun ρ s => ∃ t', GoodT t' ∧ t'.cells.length < FU ∧ ρ = startE 3 [.ref 1, .int size] ∧ s = TP t' more) ?_ ?_
    · refine sw_if (sw_eq (a := decide (t.rest = 0)) (st := TP t more) (t_test (e_bin (d1 := .int t.rest) (d2 := .int 0) (e_bin (d1 := .ref 1) (d2 := .str "rest") rfl rfl tape_ix2) rfl ((evo_eq (os := []) rfl rfl _ ⟨cl, by simp⟩).trans (by rw [deq_int])))) ⟨fun _ => ?_, fun _ => sw_nil ⟨rfl, t, g, hl, rfl, rfl⟩⟩)
      have e3 : ∀ (t' : Tape) (v : Int), GoodT t' → t'.cells.length < FU → 0 ≤ v → sat (gmSub (mVar 0) (mC (.str "rest")) (.int v) (startE 3 [.ref 1, .int size]) (TP t' more)) fun ρ1 st2 => (Fl.nx, ρ1).1 = .nx ∧ ∃ t', GoodT t' ∧ t'.cells.length < FU ∧ (Fl.nx, ρ1).2 = startE 3 [.ref 1, .int size] ∧ st2 = TP t' more := fun t' v g' hl' hv => by
        have e : gmSub (mVar 0) (mC (.str "rest")) (.int v) (startE 3 [.ref 1, .int size]) (TP t' more) = .ok (startE 3 [.ref 1, .int size]) (TP { t' with rest := v } more) := rfl
        rw [e]
        exact .ok ⟨rfl, { t' with rest := v }, ⟨g'.large, hv, g'.cells⟩, hl', rfl, rfl⟩
      refine sw_asgG (sw_eif (sw_eq (a := !decide (t.large = [])) (st := TP t more) (t_test (e_bin (d1 := .ref 0) (d2 := .lst []) (e_bin (d1 := .ref 1) (d2 := .str "large") rfl rfl tape_ix1) rfl ?_)) ⟨fun hb => ?_, fun hb => ?_⟩))
      · have e : dEq (TP t more) (.ref 0) (.lst []) = dEq (TP t more) (.lst (t.large.map .int)) (.lst []) := by
          have e2 : pyD (TP t more) (.ref 0) = pyD (TP t more) (.lst (t.large.map .int)) := by
            unfold pyD
            have e4 : fzD (rfK (TP t more) 0 6) (.ref 0) = some (.lst (t.large.map .int)) := by
              show (fzL (rfK (TP t more) 0 5) (t.large.map .int)).map D.lst = _
              rw [fzL_id (n := 0) (fun i hi => absurd hi (Nat.not_lt_zero _)) bnd_ints]
              rfl
            rw [e4, fzD_id (n := 0) (fun i hi => absurd hi (Nat.not_lt_zero _)) (show bnd 0 (.lst (t.large.map .int)) = true from bnd_ints)]
          unfold dEq
          rw [e2]
        unfold opNe
        rw [e, dEqP_ok (show okP 60 (.lst (t.large.map .int)) = true from okPL_int) rfl, deq_lst, deqL_nil]
        cases t.large <;> rfl
      · cases hlg : t.large with
        | nil => simp [hlg] at hb
        | cons z zs =>
          have e : mMeth "list" fPop (mBin opIx (mVar 0) (mC (.str "large"))) (aCons (mC (.int 0)) aNil) (startE 3 [.ref 1, .int size]) (TP t more) = .ok (.int z) (TP { t with large := zs } more) := by
            have et : TP t more = TP { t with large := z :: zs } more := by rw [← hlg]
            rw [et]
            have e0 : mBin opIx (mVar 0) (mC (.str "large")) (startE 3 [.ref 1, .int size]) (TP { t with large := z :: zs } more) = .ok (.ref 0) (TP { t with large := z :: zs } more) := rfl
            have e1 : (TP { t with large := z :: zs } more)[0]? = some (.lst ((z :: zs).map .int)) := rfl
            unfold mMeth
            rw [e0, bind_ok, if_pos (tyD_list e1)]
            have e2 : aCons (mC (.int 0)) aNil (startE 3 [.ref 1, .int size]) (TP { t with large := z :: zs } more) = .ok [.int 0] (TP { t with large := z :: zs } more) := rfl
            rw [e2, bind_ok, fPop_ok e1 (Int.le_refl 0) (by simp)]
            rfl
          rw [e]
          have gl := g.large
          rw [hlg] at gl
          exact .ok (e3 { t with large := zs } z ⟨fun y hy => gl y (List.mem_cons_of_mem _ hy), g.rest, g.cells⟩ hl (gl z List.mem_cons_self))
      · refine sw_call0 (sw_acons (sw_var rfl (sw_anil ⟨rfl, ?_⟩)))
        refine sat_mono (blend_sat hl cl) ?_
        rintro _ _ ⟨v, hv, rfl, rfl⟩
        exact e3 _ _ ⟨g.large, g.rest, g.cells⟩ hl hv
    · rintro _ _ ⟨t', g', hl', rfl, rfl⟩
      have cl' := cl_TP (t' := t') cl
      have cl2 := cl_TP (t' := { t' with rest := t'.rest / size }) cl
      have e1 : mCB bInt (aCons (mBin opIx (mVar 0) (mC (.str "rest"))) aNil) (startE 3 [.ref 1, .int size]) (TP t' more) = .ok (.int t'.rest) (TP t' more) := rfl
      refine sw_seq (sw_eq (s_asg (e_bin (d2 := .int size) e1 rfl (evo_mod (os := []) h0 _ ⟨cl', by simp⟩)) rfl) ?_)
      have e2 : mCB bInt (aCons (mBin opIx (mVar 0) (mC (.str "rest"))) aNil) [some (.ref 1), some (.int size), some (.int (t'.rest % size))] (TP t' more) = .ok (.int t'.rest) (TP t' more) := rfl
      refine sw_seq (sw_eq (s_asg (e_bin (d2 := .int size) e2 rfl (evo_div (os := []) h0 h1 _ ⟨cl', by simp⟩)) (ρ1 := [some (.ref 1), some (.int size), some (.int (t'.rest % size))]) (st2 := TP { t' with rest := t'.rest / size } more) rfl) ?_)
      exact sw_ret (sw_var rfl ⟨_, { t' with rest := t'.rest / size }, Int.emod_nonneg t'.rest (by omega), Int.emod_lt_of_pos _ h0, ⟨g'.large, Int.ediv_nonneg g'.rest (by omega), g'.cells⟩, hl', rfl, rfl⟩)
  obtain ⟨⟨fl, ρ'⟩, st', e, v, t', v0, v1, g', hl', h2, rfl⟩ := sat_iff.mp key
  obtain rfl : fl = .rt (.int v) := h2
  have hk : (TP t' more).take (TP t more).length = TP t' more := by
    rw [show (TP t more).length = (TP t' more).length from rfl, List.take_length]
  have z := fn_ret (N := 3) (m := m__law_draw) (ds := [.ref 1, .int size]) e rfl (by
    rw [hk]
    exact cl_TP cl)
  rw [hk] at z
  unfold F__law_draw
  rw [z]
  exact .ok ⟨v, t', v0, v1, g', hl', rfl, rfl⟩
/-- a good tape, with more behind it in the store -/
structure OT (t : Tape) (more : Store) : Prop where
  good : GoodT t
  few : t.cells.length < FU
  cl : clS (TP t more).length (TP t more) = true
theorem OT.cg {t : Tape} {more : Store} (h : OT t more) : CG [] (TP t more) := ⟨h.cl, by simp⟩
theorem OT.push {t : Tape} {more : Store} {o : MO} (h : OT t more) (ho : bndM 0 o = true) : OT t (more ++ [o]) := ⟨h.good, h.few, by
  have z := clS_push h.cl (o := o) (by
    cases o with
    | lst xs => exact bndL_mono (Nat.zero_le _) (show bndL 0 xs = true from ho)
    | dic t xs => exact bndK_mono (Nat.zero_le _) (show bndK 0 xs = true from ho)
    | ins c xs => exact bndL_mono (Nat.zero_le _) (show bndL 0 xs = true from ho))
  exact z⟩
theorem OT.pushL {t : Tape} {more : Store} {xs : List D} (h : OT t more) (ho : bndL 0 xs = true) : OT t (more ++ [.lst xs]) := h.push ho
theorem OT.init {ns : List Int} (hl : ns.length ≤ 63) : OT (tape0 ns) [] := ⟨tape0_good, by
  show (ns.map absI).length < FU
  rw [List.length_map]
  exact Nat.lt_of_le_of_lt hl (by decide), by
  show (bndL 3 ((tape0 ns).large.map .int) && (bndK 3 (tapeKvs (tape0 ns)) && (bndL 3 ((tape0 ns).cells.map .int) && true))) = true
  rw [bnd_ints, bnd_ints]
  rfl⟩
/-- .. behind a def -/
def PT (more : Store) (P : D → Prop) (d : D) (st' : Store) : Prop := ∃ t', P d ∧ OT t' more ∧ st' = TP t' more
theorem sw_draw {t : Tape} {more : Store} {size : Int} {Q : D → Store → Prop} (g : OT t more) (h0 : 0 < size) (h1 : size < 1073741824) (h : ∀ v t', 0 ≤ v → v < size → OT t' more → Q (.int v) (TP t' more)) : sat (F__law_draw [.ref 1, .int size] (TP t more)) Q := by
  refine sat_mono (draw_sat g.good g.few g.cl h0 h1) ?_
  rintro _ _ ⟨v, t', v0, v1, g', hl', rfl, rfl⟩
  exact h v t' v0 v1 ⟨g', hl', cl_TP g.cl⟩
theorem sw_PT {r : Res D} {more : Store} {P : D → Prop} {Q : D → Store → Prop} (h : sat r (PT more P)) (k : ∀ d t', P d → OT t' more → Q d (TP t' more)) : sat r Q := sat_mono h (by
  rintro d _ ⟨t', p, g, rfl⟩
  exact k d t' p g)
theorem take_TP {t t' : Tape} {more l : Store} : (TP t' (more ++ l)).take (TP t more).length = TP t' more := by
  show (TP t' (more ++ l)).take (more.length + 3) = _
  rw [← TP_app, List.take_left' (by rw [TP_len])]
theorem tp_fn {N : Nat} {m : SM} {ds : List D} {t : Tape} {more : Store} {P : D → Prop} (h : sat (m (startE N ds) (TP t more)) fun r st' => ∃ d t' l, r.1 = .rt d ∧ bnd 0 d = true ∧ P d ∧ OT t' more ∧ st' = TP t' (more ++ l)) : sat (fnB N m ds (TP t more)) (PT more P) := by
  obtain ⟨⟨fl, ρ'⟩, st', e, d, t', l, h1, hb, hp, g, rfl⟩ := sat_iff.mp h
  obtain rfl : fl = .rt d := h1
  have z := fn_ret e (bnd_mono (Nat.zero_le _) hb) (by rw [take_TP]; exact g.cl)
  rw [take_TP] at z
  rw [z]
  exact .ok ⟨t', hp, g, rfl⟩
theorem tp_fnL {N : Nat} {m : SM} {ds : List D} {t : Tape} {more : Store} {P : D → Prop} (h : sat (m (startE N ds) (TP t more)) fun r st' => ∃ i xs t' l, r.1 = .rt (.ref i) ∧ (TP t more).length ≤ i ∧ bndL 0 xs = true ∧ P (.lst xs) ∧ OT t' more ∧ st' = TP t' (more ++ l) ∧ st'[i]? = some (.lst xs)) : sat (fnB N m ds (TP t more)) (PT more P) := by
  obtain ⟨⟨fl, ρ'⟩, st', e, i, xs, t', l, h1, hi, hb, hp, g, rfl, hx⟩ := sat_iff.mp h
  obtain rfl : fl = .rt (.ref i) := h1
  unfold fnB
  rw [e]
  have z := close_lst hi hx (bndL_mono (Nat.zero_le _) hb) (by rw [take_TP]; exact g.cl)
  rw [take_TP] at z
  show sat (closeR (TP t more).length (.ok (.ref i) (TP t' (more ++ l)))) _
  rw [z]
  exact .ok ⟨t', hp, g, rfl⟩
/-- a comprehension that draws: what is chosen -/
theorem comp_tapeK {mi : IM} {tg : TgM} {cm : TM} {e : EM} {vs : List Nat} {ρ : SL.Env} {β : Type} {ys : List β} {h : β → D} {E : β → SL.Env} {f : β → D} {t : Tape} {more : Store} (g : OT t more) (hi : EvI [] (mi ρ) (ys.map h)) (ht : ∀ y ∈ ys, tg (h y) (wipeE ρ vs) = some (E y))
    (hz : ys.length < sizeLine) (hc : ∀ y ∈ ys, ∀ t' more', OT t' more' → sat (cm (E y) (TP t' more')) fun _ s => ∃ t2, OT t2 more' ∧ s = TP t2 more') (he : ∀ y ∈ ys, Ev [] (e (E y)) (f y)) (hb : ∀ y ∈ ys, bnd 0 (f y) = true) :
    sat (mComp mi tg cm e vs ρ (TP t more)) fun d s => ∃ (t' : Tape) (sub : List β), d = .ref (TP t more).length ∧ OT t' more ∧ sub.Sublist ys ∧ s = TP t' (more ++ [.lst (sub.map f)]) := by
  obtain ⟨src, m, e0, hs, hm⟩ := hi _ g.cg
  rw [List.length_map] at hm
  have hacc : ∀ sub : List β, sub.Sublist ys → bndL 0 (sub.map f) = true := fun sub hsub => bndL_map fun y hy => hb y (hsub.subset hy)
  have key := comp_sat (n := (TP t more).length) (G := CG []) (src := src) (xs := ys.map h) (tg := tg) (c := cm) (e := e) (ρ0 := wipeE ρ vs) (fun k base acc => ∃ t' sub, OT t' more ∧ base = TP t' more ∧ sub.Sublist (ys.take k) ∧ acc = sub.map f) hs
    (by
      rintro k _ _ ⟨t', sub, g', rfl, hsub, rfl⟩
      exact (g'.pushL (hacc sub (hsub.trans (List.take_sublist _ _)))).cg)
    (by
      rintro k _ _ ⟨t', sub, g', rfl, hsub, rfl⟩
      refine ⟨rfl, ?_⟩
      rw [List.length_map]
      exact Nat.lt_of_le_of_lt (hsub.trans (List.take_sublist _ _)).length_le hz)
    (by
      rintro k d _ _ ex ⟨t', sub, g', rfl, hsub, rfl⟩
      rw [List.getElem?_map] at ex
      cases ey : ys[k]? with
      | none => rw [ey] at ex; cases ex
      | some y =>
        rw [ey] at ex
        cases ex
        have hd := List.mem_of_getElem? ey
        have tk : ys.take (k + 1) = ys.take k ++ [y] := by rw [List.take_succ, ey]; rfl
        have gp : OT t' (more ++ [MO.lst (sub.map f)])   := g'.pushL (hacc sub (hsub.trans (List.take_sublist _ _)))
        refine ⟨E y, ht y hd, ?_⟩
        rw [TP_app]
        refine sat_mono (hc y hd _ _ gp) ?_
        rintro b _ ⟨t2, g2, rfl⟩
        have g3 : OT t2 more := ⟨g2.good, g2.few, cl_TP g'.cl⟩
        refine ⟨TP t2 more, (TP_app).symm, rfl, fun _ => ⟨t2, sub, g3, rfl, ?_, rfl⟩, fun _ => ?_⟩
        · rw [tk]
          exact hsub.trans (List.sublist_append_left _ _)
        · rw [he y hd _ g2.cg]
          refine .ok ⟨TP t2 more, (TP_app).symm, rfl, t2, sub ++ [y], g3, rfl, ?_, by simp⟩
          rw [tk]
          exact hsub.append (List.Sublist.refl _)) m 0 (TP t more) [] (Nat.zero_le _) (by rw [List.length_map]; omega) ⟨t, [], g, rfl, by simp, rfl⟩
  obtain ⟨u, st', e1, base', acc', e2, t', sub, g', h1, hsub, h2⟩ := sat_iff.mp key
  subst h1 h2
  rw [List.length_map, List.take_length] at hsub
  unfold mComp
  rw [e0]
  simp only [bind_ok]
  rw [e1, e2]
  exact .ok ⟨t', sub, rfl, g', hsub, TP_app⟩
theorem comp_tapeF {mi : IM} {tg : TgM} {cm : TM} {e : EM} {vs : List Nat} {ρ : SL.Env} {β : Type} {ys : List β} {h : β → D} {E : β → SL.Env} {f : β → D} {t : Tape} {more : Store} (g : OT t more) (hi : EvI [] (mi ρ) (ys.map h)) (ht : ∀ y ∈ ys, tg (h y) (wipeE ρ vs) = some (E y))
    (hz : ys.length < sizeLine) (hc : ∀ y ∈ ys, ∀ t' more', OT t' more' → sat (cm (E y) (TP t' more')) fun _ s => ∃ t2, OT t2 more' ∧ s = TP t2 more') (he : ∀ y ∈ ys, Ev [] (e (E y)) (f y)) (hb : ∀ y ∈ ys, bnd 0 (f y) = true) :
    sat (closeE (mComp mi tg cm e vs) ρ (TP t more)) (PT more fun d => ∃ sub : List β, sub.Sublist ys ∧ d = .lst (sub.map f)) := by
  obtain ⟨d, s, e1, t', sub, rfl, g', hsub, rfl⟩ := sat_iff.mp (comp_tapeK g hi ht hz hc he hb)
  unfold closeE
  rw [e1]
  have hl : (TP t more).length = (TP t' more).length := rfl
  have hb2 : bndL (TP t' more).length (sub.map f) = true := bndL_map fun y hy => bnd_mono (Nat.zero_le _) (hb y (hsub.subset hy))
  rw [hl, ← TP_app, close_lst (Nat.le_refl _) (ds := sub.map f) (by rw [List.getElem?_append_right (Nat.le_refl _), Nat.sub_self]; rfl) hb2 (by rw [take_append_one]; exact g'.cl), take_append_one]
  exact .ok ⟨t', ⟨sub, hsub, rfl⟩, g', rfl⟩
/-- .. what is drawn for each -/
theorem comp_tapeM {mi : IM} {tg : TgM} {e : EM} {vs : List Nat} {ρ : SL.Env} {β : Type} {ys : List β} {h : β → D} {E : β → SL.Env} {P : β → D → Prop} {t : Tape} {more : Store} (g : OT t more) (hi : EvI [] (mi ρ) (ys.map h)) (ht : ∀ y ∈ ys, tg (h y) (wipeE ρ vs) = some (E y))
    (hz : ys.length < sizeLine) (he : ∀ y ∈ ys, ∀ t' more', OT t' more' → sat (e (E y) (TP t' more')) (PT more' (P y))) (hb : ∀ y ∈ ys, ∀ d, P y d → bnd 0 d = true) :
    sat (closeE (mComp mi tg mTrue e vs) ρ (TP t more)) (PT more fun d => ∃ zs : List (β × D), zs.map (·.1) = ys ∧ d = .lst (zs.map (·.2)) ∧ ∀ z ∈ zs, P z.1 z.2) := by
  obtain ⟨src, m, e0, hs, hm⟩ := hi _ g.cg
  rw [List.length_map] at hm
  have hacc : ∀ k (zs : List (β × D)), zs.map (·.1) = ys.take k → (∀ z ∈ zs, P z.1 z.2) → bndL 0 (zs.map (·.2)) = true := fun k zs h1 h2 => bndL_of fun d hd => by
    obtain ⟨z, hz, rfl⟩ := List.mem_map.mp hd
    have : z.1 ∈ ys.take k := by
      rw [← h1]
      exact List.mem_map_of_mem hz
    exact hb z.1 (List.mem_of_mem_take this) z.2 (h2 z hz)
  have key := comp_sat (n := (TP t more).length) (G := CG []) (src := src) (xs := ys.map h) (tg := tg) (c := mTrue) (e := e) (ρ0 := wipeE ρ vs) (fun k base acc => ∃ t' zs, OT t' more ∧ base = TP t' more ∧ zs.map (fun z : β × D => z.1) = ys.take k ∧ acc = zs.map (fun z : β × D => z.2) ∧ ∀ z ∈ zs, P z.1 z.2) hs
    (by
      rintro k _ _ ⟨t', zs, g', rfl, h1, rfl, h2⟩
      exact (g'.pushL (hacc k zs h1 h2)).cg)
    (by
      rintro k _ _ ⟨t', zs, g', rfl, h1, rfl, h2⟩
      refine ⟨rfl, ?_⟩
      have := congrArg List.length h1
      simp only [List.length_map, List.length_take] at this
      rw [List.length_map]
      omega)
    (by
      rintro k d _ _ ex ⟨t', zs, g', rfl, h1, rfl, h2⟩
      rw [List.getElem?_map] at ex
      cases ey : ys[k]? with
      | none => rw [ey] at ex; cases ex
      | some y =>
        rw [ey] at ex
        cases ex
        have hd := List.mem_of_getElem? ey
        have tk : ys.take (k + 1) = ys.take k ++ [y] := by rw [List.take_succ, ey]; rfl
        have gp : OT t' (more ++ [MO.lst (zs.map fun z => z.2)]) := g'.pushL (hacc k zs h1 h2)
        refine ⟨E y, ht y hd, ?_⟩
        rw [TP_app]
        refine .ok ⟨TP t' more, (TP_app).symm, rfl, (fun z => by cases z), fun _ => ?_⟩
        refine sat_mono (he y hd _ _ gp) ?_
        rintro d _ ⟨t2, hp, g2, rfl⟩
        have g3 : OT t2 more := ⟨g2.good, g2.few, cl_TP g'.cl⟩
        refine ⟨TP t2 more, (TP_app).symm, rfl, t2, zs ++ [(y, d)], g3, rfl, by rw [tk, List.map_append, h1]; rfl, by simp, fun z hz => ?_⟩
        rcases List.mem_append.mp hz with q | q
        · exact h2 z q
        · rw [List.mem_singleton.mp q]
          exact hp) m 0 (TP t more) [] (Nat.zero_le _) (by rw [List.length_map]; omega) ⟨t, [], g, rfl, by simp, rfl, by simp⟩
  obtain ⟨u, st', e1, base', acc', e2, t', zs, g', h1, hzs, h2, hP⟩ := sat_iff.mp key
  subst h1 h2
  rw [List.length_map, List.take_length] at hzs
  unfold closeE mComp
  rw [e0]
  simp only [bind_ok]
  rw [e1, e2]
  show sat (closeR (TP t more).length (.ok (.ref (TP t more).length) (TP t' more ++ [.lst (zs.map fun z => z.2)]))) _
  have hl : (TP t more).length = (TP t' more).length := rfl
  rw [hl, close_lst (Nat.le_refl _) (ds := zs.map fun z => z.2) (by rw [List.getElem?_append_right (Nat.le_refl _), Nat.sub_self]; rfl) (bndL_mono (Nat.zero_le _) (hacc ys.length zs (by rw [hzs, List.take_length]) hP)) (by rw [take_append_one]; exact g'.cl), take_append_one]
  exact .ok ⟨t', ⟨zs, hzs, rfl, hP⟩, g', rfl⟩
theorem draw_eq0 {ρ : SL.Env} {c : Int} {t : Tape} {more : Store} (h0 : ρ[0]? = some (some (.ref 1))) (c0 : 0 < c) (c1 : c < 1073741824) (g : OT t more) : sat (mTest (mBin opEq (mCall (arity 2 F__law_draw) [] (aCons (mVar 0) (aCons (mC (.int c)) aNil))) (mC (.int 0))) ρ (TP t more)) fun _ s => ∃ t2, OT t2 more ∧ s = TP t2 more :=
  sw_test (sw_bin (sw_call0 (sw_acons (sw_var h0 (sw_acons (sw_c (sw_anil ⟨rfl, sw_draw g c0 c1 fun v t' _ _ g' => sw_c (sw_pure (os := []) (evo_eq (a := .int v) (b := .int 0) rfl rfl) g'.cg ⟨_, rfl, t', g', rfl⟩)⟩)))))))
theorem draw_gt0 {ρ : SL.Env} {c : Int} {t : Tape} {more : Store} (h0 : ρ[0]? = some (some (.ref 1))) (c0 : 0 < c) (c1 : c < 1073741824) (g : OT t more) : sat (mTest (mBin opGtI (mCall (arity 2 F__law_draw) [] (aCons (mVar 0) (aCons (mC (.int c)) aNil))) (mC (.int 0))) ρ (TP t more)) fun _ s => ∃ t2, OT t2 more ∧ s = TP t2 more :=
  sw_test (sw_bin (sw_call0 (sw_acons (sw_var h0 (sw_acons (sw_c (sw_anil ⟨rfl, sw_draw g c0 c1 fun v t' _ _ g' => sw_c (sw_pure (os := []) (evo_gt (a := v) (b := 0)) g'.cg ⟨_, rfl, t', g', rfl⟩)⟩)))))))
end Lk63
set_option maxRecDepth 100000
set_option maxHeartbeats 2000000
namespace Lk63
open SL PySem
local macro_rules | `(tactic| nofun) => `(tactic| first | ((with_reducible apply nat_le_g) <;> first | (show (_ : Prop); assumption) | (have hz := sz_val; (try simp only [Int.toNat_natCast, List.length_cons, List.length_nil, List.length_map, List.length_append, List.length_range, List.length_zip, List.length_zipIdx, List.length_replicate]); omega) | skip) | ((with_reducible apply nat_lt_g) <;> first | (show (_ : Prop); assumption) | (have hz := sz_val; (try simp only [Int.toNat_natCast, List.length_cons, List.length_nil, List.length_map, List.length_append, List.length_range, List.length_zip, List.length_zipIdx, List.length_replicate]); omega) | skip) | ((with_reducible apply int_le_g) <;> first | (show (_ : Prop); assumption) | (have hz := sz_val; (try simp only [Int.toNat_natCast, List.length_cons, List.length_nil, List.length_map, List.length_append, List.length_range, List.length_zip, List.length_zipIdx, List.length_replicate]); omega) | skip) | ((with_reducible apply int_lt_g) <;> first | (show (_ : Prop); assumption) | (have hz := sz_val; (try simp only [Int.toNat_natCast, List.length_cons, List.length_nil, List.length_map, List.length_append, List.length_range, List.length_zip, List.length_zipIdx, List.length_replicate]); omega) | skip) | ((with_reducible apply okR_le) <;> first | omega | skip) | rfl' | (intro _; rfl') | (intro _ _; rfl') | (intro _ _ _; rfl') | (intro _ _; exact bnd_ints) | (intro _ _; exact bnd_ite rfl rfl) | (intro _ _; exact bnd_iT) | exact bnd_ints | exact rfl | exact mapId_ | exact okP_iT | exact okPL_iT | exact okPL_int | exact okPL_intf | exact okK_iT | exact okK_int | (intro _ _; exact okK_iT) | (intro _ _; exact okK_int) | ((with_reducible apply okP_ite) <;> first | exact rfl | exact okP_iT | nofun) | ((with_reducible apply okP_tmap) <;> nofun) | (intro _ _; exact okP_ite rfl rfl) | (intro _ _; exact okP_iT) | (intro _ _; exact rfl) | (show (_ : Prop); assumption) | decide | (intro _ _; exact rfl) | (intro _ _ _; exact rfl) | (intro _ _; exact bnd_iT) | (intro _ _ _; exact bnd_iT) | (intros; have hz := sz_val; (try simp only [Int.toNat_natCast, List.length_cons, List.length_nil, List.length_map, List.length_append, List.length_range, List.length_zip, List.length_zipIdx]); omega) | skip)
local macro_rules | `(tactic| rfl') => `(tactic| first
  | with_reducible assumption
  | with_reducible exact ev_pno
  | with_reducible exact evo_sl_t
  | with_reducible exact evo_sl_l
  | with_reducible exact ev_nil
  | with_reducible exact ev_c
  | with_reducible exact evo_add_int
  | with_reducible exact evo_sub_int
  | with_reducible exact evo_lt
  | with_reducible exact evo_le
  | with_reducible exact evo_gt
  | with_reducible exact evo_ge
  | with_reducible exact evo_isN
  | with_reducible exact evo_notN
  | with_reducible exact evo_neg
  | with_reducible exact evb_len_t
  | with_reducible exact evb_len_l
  | with_reducible exact evb_len_d
  | with_reducible exact evb_tuple_l
  | with_reducible exact evb_tuple_t
  | with_reducible exact evb_list_l
  | with_reducible exact evb_list_t
  | with_reducible exact evb_int
  | with_reducible exact evb_abs
  | with_reducible exact evb_all
  | with_reducible exact evb_any
  | with_reducible exact evb_sum
  | with_reducible exact evb_min2
  | with_reducible exact evb_max2
  | (with_reducible apply ev_fn) <;> nofun
  | (with_reducible apply ev_cons) <;> nofun
  | (with_reducible apply ev_tup) <;> nofun
  | (with_reducible apply ev_lst) <;> nofun
  | (with_reducible apply ev_bin) <;> nofun
  | (with_reducible apply ev_un) <;> nofun
  | (with_reducible apply ev_cb) <;> nofun
  | (with_reducible apply ev_call0) <;> nofun
  | (with_reducible apply ev_call11) <;> nofun
  | (with_reducible apply ev_call21) <;> nofun
  | (with_reducible apply ev_callK1) <;> nofun
  | (with_reducible apply ev_callK2) <;> nofun
  | (with_reducible apply ev_callK2') <;> nofun
  | (with_reducible apply ev_callK3) <;> nofun
  | (with_reducible apply ev_prop0) <;> nofun
  | (with_reducible apply ev_methO0) <;> nofun
  | (with_reducible apply ev_test) <;> nofun
  | (with_reducible apply ev_tnot) <;> nofun
  | (with_reducible apply ev_tand) <;> nofun
  | (with_reducible apply ev_tor) <;> nofun
  | (with_reducible apply ev_and) <;> nofun
  | (with_reducible apply ev_or) <;> nofun
  | (with_reducible apply ev_not) <;> nofun
  | (with_reducible apply ev_if) <;> nofun
  | (with_reducible apply ev_chain) <;> nofun
  | (with_reducible apply ev_comp_t) <;> nofun
  | (with_reducible apply ev_comp) <;> nofun
  | (with_reducible apply evr_ret) <;> nofun
  | (with_reducible apply evr_asg) <;> nofun
  | (with_reducible apply evr_expr) <;> nofun
  | (with_reducible apply evr_ifr) <;> nofun
  | (with_reducible apply evi_rng1) <;> nofun
  | (with_reducible apply evi_rng2) <;> nofun
  | (with_reducible apply evi_seqG) <;> nofun
  | (with_reducible apply evi_enumG) <;> nofun
  | (with_reducible apply evi_zipG) <;> nofun
  | (with_reducible apply ev_sl) <;> nofun
  | (with_reducible apply ev_psome) <;> nofun
  | (with_reducible apply ev_sexpr) <;> nofun
  | (with_reducible apply ev_sseq) <;> nofun
  | (with_reducible apply ev_sifn) <;> nofun
  | (with_reducible apply ev_sasg) <;> nofun
  | (with_reducible apply evr_snil) <;> nofun
  | (with_reducible apply evr_assoc) <;> nofun
  | (with_reducible apply evb_sorted_keys) <;> nofun
  | (with_reducible apply evb_sortedI) <;> nofun
  | (with_reducible apply ev_dcomp_t) <;> nofun
  | (with_reducible apply ev_dcomp) <;> nofun
  | (with_reducible apply ev_var) <;> nofun
  | (with_reducible apply evo_add_tup) <;> nofun
  | (with_reducible apply evo_add_lst) <;> nofun
  | (with_reducible apply evo_eq) <;> nofun
  | (with_reducible apply evo_ne) <;> nofun
  | (with_reducible apply evo_in) <;> nofun
  | (with_reducible apply evo_notIn) <;> nofun
  | (with_reducible apply evb_min) <;> nofun
  | (with_reducible apply evb_max) <;> nofun
  | (with_reducible apply evb_rngF) <;> nofun
  | (with_reducible apply evo_mod) <;> nofun
  | (with_reducible apply evo_div) <;> nofun
  | (with_reducible apply evo_fld) <;> nofun
  | (with_reducible apply evo_isa) <;> nofun
  | (with_reducible apply evo_ix_t) <;> nofun
  | (with_reducible apply evo_ix_l) <;> nofun
  | (with_reducible apply evo_ix) <;> nofun
  | (with_reducible apply evo_mul_int) <;> nofun)
local macro_rules | `(tactic| nofun) => `(tactic| with_reducible exact okP_oI)
local macro_rules | `(tactic| nofun) => `(tactic| with_reducible exact okPL_oI)
local macro_rules | `(tactic| nofun) => `(tactic| with_reducible exact bnd_oI)
local macro_rules | `(tactic| nofun) => `(tactic| with_reducible exact okP_told)
local macro_rules | `(tactic| rfl') => `(tactic| (with_reducible apply lot_fld0) <;> nofun)
local macro_rules | `(tactic| rfl') => `(tactic| (with_reducible apply lot_fld1) <;> nofun)
local macro_rules | `(tactic| rfl') => `(tactic| (with_reducible apply lot_fld2) <;> nofun)
local macro_rules | `(tactic| rfl') => `(tactic| (with_reducible apply is_number_ev) <;> nofun)
local macro_rules | `(tactic| rfl') => `(tactic| (with_reducible apply is_between_ev) <;> nofun)
local macro_rules | `(tactic| rfl') => `(tactic| (with_reducible apply is_list_ev) <;> nofun)
local macro_rules | `(tactic| rfl') => `(tactic| (with_reducible apply is_tuple_of_tup) <;> nofun)
local macro_rules | `(tactic| rfl') => `(tactic| (with_reducible apply is_row_tup) <;> nofun)
local macro_rules | `(tactic| rfl') => `(tactic| (with_reducible apply pow18) <;> nofun)
local macro_rules | `(tactic| rfl') => `(tactic| with_reducible assumption)
-- _law_pick
/-- several[draw], whatever holds them -/
theorem sw_pickR {t : Tape} {more : Store} {x : D} {xs : List D} {Q : D → Store → Prop} (g : OT t more) (hx : ∀ t', seqOf (TP t' more) x = some xs) (h0 : xs ≠ []) (h1 : xs.length < sizeLine) (hb : ∀ y ∈ xs, bnd 0 y = true) (h : ∀ y t', y ∈ xs → OT t' more → Q y (TP t' more)) : sat (F__law_pick [.ref 1, x] (TP t more)) Q := by
  refine sw_PT (P := fun y => y ∈ xs) (tp_fn ?_) h
  unfold m__law_pick
  refine sw_ret (sw_bin (sw_var rfl (sw_call0 (sw_acons (sw_var rfl (sw_acons (sw_eq (a := .int xs.length) (st := TP t more) ?_ (sw_anil ⟨rfl, ?_⟩))))))))
  · exact e_cb (a_cons rfl rfl) (len_seq (hx t))
  · have hp : 0 < xs.length := List.length_pos_iff.mpr h0
    have hz := sz_val
    refine sw_draw g (by omega) (by omega) fun v t' v0 v1 g' => ?_
    have hk : v.toNat < xs.length := by omega
    exact sw_eq (ix_seq (hx t') v0 hk) ⟨_, t', [], rfl, hb _ (List.getElem_mem hk), List.getElem_mem hk, g', by rw [List.append_nil]⟩
theorem seqOf_isSeq {st : Store} {x : D} {xs : List D} (hx : isSeq x = some xs) : seqOf st x = some xs := by
  cases x <;> simp [isSeq] at hx <;> subst hx <;> rfl
theorem sw_pick {t : Tape} {more : Store} {x : D} {xs : List D} {Q : D → Store → Prop} (g : OT t more) (hx : isSeq x = some xs) (h0 : xs ≠ []) (h1 : xs.length < sizeLine) (hb : ∀ y ∈ xs, bnd 0 y = true) (h : ∀ y t', y ∈ xs → OT t' more → Q y (TP t' more)) : sat (F__law_pick [.ref 1, x] (TP t more)) Q := sw_pickR g (fun _ => seqOf_isSeq hx) h0 h1 hb h
-- _law_rows
theorem law_rows_ev {os} {n : Nat} (h : n ≤ 6) : Ev os (F__law_rows [.int n]) (.lst ((allR n).map iT)) := by
  refine Ev.of ?_
  unfold F__law_rows m__law_rows
  refine ev_fnS (fun st g => ?_) (bnd_lst_map fun _ _ => bnd_iT)
  have e : sAsg (mLst (aCons (mTup aNil) aNil)) (gmName 1) (startE 5 [.int n]) st = .ok (.nx, [some (.int n), some (.lst ([[]].map iT)), none, none, none]) st := s_asg (d := .lst ([[]].map iT)) (st1 := st) (e_lst (ds := [.tup []]) (a_cons (e_tup (ds := []) rfl (by decide)) rfl) (by decide)) rfl
  refine sw_seq (sw_eq e ?_)
  refine sw_sq (P := fun ρ s => (∃ a2 a3 a4 : Option D, ρ = [some (D.int n), some (.lst ((allR n).map iT)), a2, a3, a4]) ∧ st = s) ?_ ?_
  · refine sw_for (os := []) (ys := List.range n) (h := fun (k : Nat) => D.int (k : Int)) (fun k ρ s => (∃ a2 a3 a4 : Option D, ρ = [some (D.int n), some (.lst ((allR k).map iT)), a2, a3, a4]) ∧ st = s) ?_ ?_ ⟨⟨_, _, _, rfl⟩, rfl⟩ ?_ ?_
    · have z := evi_rng1 (os := []) (j := (n : Int)) (ma := mVar 0) (ρ := [some (.int n), some (.lst ([[]].map iT)), none, none, none]) (ev_var rfl) (okR_le (by omega) (by omega))
      simpa using z
    · rintro _ _ _ ⟨_, rfl⟩
      exact g
    · rintro k y _ _ ey ⟨⟨a2, a3, a4, rfl⟩, rfl⟩
      have hk : k < n := by simpa using (List.getElem?_eq_some_iff.mp ey).1
      show sat (Res.bind (Res.ok [some (D.int n), some (.lst ((allR k).map iT)), some (D.int y), a3, a4] _) _) _
      rw [bind_ok]
      refine sw_seq (sw_asg (sw_pure (os := []) (a := .lst []) (ev_lst ev_nil (by decide)) g ?_))
      have hlk : (allR k).length ≤ 64 := by
        rw [allR_len]
        have := Nat.pow_le_pow_right (n := 2) (by decide) (show k ≤ 6 by omega)
        omega
      refine sw_sq (P := fun ρ s => (∃ a4 : Option D, ρ = [some (D.int n), some (.lst ((allR k).map iT)), some (D.int y), some (.lst ((allR (k + 1)).map iT)), a4]) ∧ st = s) ?_ ?_
      · refine sw_for (os := []) (ys := allR k) (h := iT) (fun j ρ s => (∃ a4 : Option D, ρ = [some (D.int n), some (.lst ((allR k).map iT)), some (D.int y), some (.lst ((((allR k).take j).flatMap fun r => [r ++ [0], r ++ [1]]).map iT)), a4]) ∧ st = s) (by rfl') ?_ ⟨⟨_, rfl⟩, rfl⟩ ?_ ?_
        · rintro _ _ _ ⟨_, rfl⟩
          exact g
        · rintro j r _ _ er ⟨⟨a4, rfl⟩, rfl⟩
          show sat (Res.bind (Res.ok [some (D.int n), some (.lst ((allR k).map iT)), some (D.int y), some (.lst ((((allR k).take j).flatMap fun r => [r ++ [0], r ++ [1]]).map iT)), some (iT r)] _) _) _
          rw [bind_ok]
          have hr := mem_allR.mp (List.mem_of_getElem? er)
          have hj : j < (allR k).length := (List.getElem?_eq_some_iff.mp er).1
          have e1 : ((allR k).take (j + 1)) = (allR k).take j ++ [r] := by rw [List.take_succ, er]; rfl
          have hl := hr.len
          have hlf : (((allR k).take j).flatMap fun r => [r ++ [0], r ++ [1]]).length ≤ 128 := by
            have : ∀ l : List (List Int), (l.flatMap fun r => [r ++ [0], r ++ [1]]).length = 2 * l.length := by
              intro l
              induction l with
              | nil => rfl
              | cons a l ih => simp [ih]; omega
            rw [this, List.length_take]
            omega
          refine sw_asg (sw_pure (os := []) (by rfl') g ⟨⟨some (iT r), ?_⟩, rfl⟩)
          rw [e1]
          simp
        · rintro _ _ ⟨⟨a4, rfl⟩, rfl⟩
          refine ⟨rfl, ⟨a4, ?_⟩, rfl⟩
          rw [List.take_length]
          rfl
      · rintro _ _ ⟨⟨a4, rfl⟩, rfl⟩
        exact sw_asg (sw_var rfl ⟨⟨_, _, _, rfl⟩, rfl⟩)
    · rintro _ _ ⟨⟨a2, a3, a4, rfl⟩, rfl⟩
      refine ⟨rfl, ⟨a2, a3, a4, ?_⟩, rfl⟩
      rw [List.length_range]
  · rintro _ _ ⟨⟨a2, a3, a4, rfl⟩, rfl⟩
    exact sw_ret (sw_var rfl ⟨rfl, by simp⟩)
local macro_rules | `(tactic| rfl') => `(tactic| (with_reducible apply law_rows_ev) <;> nofun)
end Lk63
set_option maxRecDepth 100000
set_option maxHeartbeats 2000000
namespace Lk63
open SL PySem
local macro_rules | `(tactic| nofun) => `(tactic| first | ((with_reducible apply nat_le_g) <;> first | (show (_ : Prop); assumption) | (have hz := sz_val; (try simp only [Int.toNat_natCast, List.length_cons, List.length_nil, List.length_map, List.length_append, List.length_range, List.length_zip, List.length_zipIdx, List.length_replicate]); omega) | skip) | ((with_reducible apply nat_lt_g) <;> first | (show (_ : Prop); assumption) | (have hz := sz_val; (try simp only [Int.toNat_natCast, List.length_cons, List.length_nil, List.length_map, List.length_append, List.length_range, List.length_zip, List.length_zipIdx, List.length_replicate]); omega) | skip) | ((with_reducible apply int_le_g) <;> first | (show (_ : Prop); assumption) | (have hz := sz_val; (try simp only [Int.toNat_natCast, List.length_cons, List.length_nil, List.length_map, List.length_append, List.length_range, List.length_zip, List.length_zipIdx, List.length_replicate]); omega) | skip) | ((with_reducible apply int_lt_g) <;> first | (show (_ : Prop); assumption) | (have hz := sz_val; (try simp only [Int.toNat_natCast, List.length_cons, List.length_nil, List.length_map, List.length_append, List.length_range, List.length_zip, List.length_zipIdx, List.length_replicate]); omega) | skip) | ((with_reducible apply okR_le) <;> first | omega | skip) | rfl' | (intro _; rfl') | (intro _ _; rfl') | (intro _ _ _; rfl') | (intro _ _; exact bnd_ints) | (intro _ _; exact bnd_ite rfl rfl) | (intro _ _; exact bnd_iT) | exact bnd_ints | exact rfl | exact mapId_ | exact okP_iT | exact okPL_iT | exact okPL_int | exact okPL_intf | exact okK_iT | exact okK_int | (intro _ _; exact okK_iT) | (intro _ _; exact okK_int) | ((with_reducible apply okP_ite) <;> first | exact rfl | exact okP_iT | nofun) | ((with_reducible apply okP_tmap) <;> nofun) | (intro _ _; exact okP_ite rfl rfl) | (intro _ _; exact okP_iT) | (intro _ _; exact rfl) | (show (_ : Prop); assumption) | decide | (intro _ _; exact rfl) | (intro _ _ _; exact rfl) | (intro _ _; exact bnd_iT) | (intro _ _ _; exact bnd_iT) | (intros; have hz := sz_val; (try simp only [Int.toNat_natCast, List.length_cons, List.length_nil, List.length_map, List.length_append, List.length_range, List.length_zip, List.length_zipIdx]); omega) | skip)
local macro_rules | `(tactic| rfl') => `(tactic| first
  | with_reducible assumption
  | with_reducible exact ev_pno
  | with_reducible exact evo_sl_t
  | with_reducible exact evo_sl_l
  | with_reducible exact ev_nil
  | with_reducible exact ev_c
  | with_reducible exact evo_add_int
  | with_reducible exact evo_sub_int
  | with_reducible exact evo_lt
  | with_reducible exact evo_le
  | with_reducible exact evo_gt
  | with_reducible exact evo_ge
  | with_reducible exact evo_isN
  | with_reducible exact evo_notN
  | with_reducible exact evo_neg
  | with_reducible exact evb_len_t
  | with_reducible exact evb_len_l
  | with_reducible exact evb_len_d
  | with_reducible exact evb_tuple_l
  | with_reducible exact evb_tuple_t
  | with_reducible exact evb_list_l
  | with_reducible exact evb_list_t
  | with_reducible exact evb_int
  | with_reducible exact evb_abs
  | with_reducible exact evb_all
  | with_reducible exact evb_any
  | with_reducible exact evb_sum
  | with_reducible exact evb_min2
  | with_reducible exact evb_max2
  | (with_reducible apply ev_fn) <;> nofun
  | (with_reducible apply ev_cons) <;> nofun
  | (with_reducible apply ev_tup) <;> nofun
  | (with_reducible apply ev_lst) <;> nofun
  | (with_reducible apply ev_bin) <;> nofun
  | (with_reducible apply ev_un) <;> nofun
  | (with_reducible apply ev_cb) <;> nofun
  | (with_reducible apply ev_call0) <;> nofun
  | (with_reducible apply ev_call11) <;> nofun
  | (with_reducible apply ev_call21) <;> nofun
  | (with_reducible apply ev_callK1) <;> nofun
  | (with_reducible apply ev_callK2) <;> nofun
  | (with_reducible apply ev_callK2') <;> nofun
  | (with_reducible apply ev_callK3) <;> nofun
  | (with_reducible apply ev_prop0) <;> nofun
  | (with_reducible apply ev_methO0) <;> nofun
  | (with_reducible apply ev_test) <;> nofun
  | (with_reducible apply ev_tnot) <;> nofun
  | (with_reducible apply ev_tand) <;> nofun
  | (with_reducible apply ev_tor) <;> nofun
  | (with_reducible apply ev_and) <;> nofun
  | (with_reducible apply ev_or) <;> nofun
  | (with_reducible apply ev_not) <;> nofun
  | (with_reducible apply ev_if) <;> nofun
  | (with_reducible apply ev_chain) <;> nofun
  | (with_reducible apply ev_comp_t) <;> nofun
  | (with_reducible apply ev_comp) <;> nofun
  | (with_reducible apply evr_ret) <;> nofun
  | (with_reducible apply evr_asg) <;> nofun
  | (with_reducible apply evr_expr) <;> nofun
  | (with_reducible apply evr_ifr) <;> nofun
  | (with_reducible apply evi_rng1) <;> nofun
  | (with_reducible apply evi_rng2) <;> nofun
  | (with_reducible apply evi_seqG) <;> nofun
  | (with_reducible apply evi_enumG) <;> nofun
  | (with_reducible apply evi_zipG) <;> nofun
  | (with_reducible apply ev_sl) <;> nofun
  | (with_reducible apply ev_psome) <;> nofun
  | (with_reducible apply ev_sexpr) <;> nofun
  | (with_reducible apply ev_sseq) <;> nofun
  | (with_reducible apply ev_sifn) <;> nofun
  | (with_reducible apply ev_sasg) <;> nofun
  | (with_reducible apply evr_snil) <;> nofun
  | (with_reducible apply evr_assoc) <;> nofun
  | (with_reducible apply evb_sorted_keys) <;> nofun
  | (with_reducible apply evb_sortedI) <;> nofun
  | (with_reducible apply ev_dcomp_t) <;> nofun
  | (with_reducible apply ev_dcomp) <;> nofun
  | (with_reducible apply ev_var) <;> nofun
  | (with_reducible apply evo_add_tup) <;> nofun
  | (with_reducible apply evo_add_lst) <;> nofun
  | (with_reducible apply evo_eq) <;> nofun
  | (with_reducible apply evo_ne) <;> nofun
  | (with_reducible apply evo_in) <;> nofun
  | (with_reducible apply evo_notIn) <;> nofun
  | (with_reducible apply evb_min) <;> nofun
  | (with_reducible apply evb_max) <;> nofun
  | (with_reducible apply evb_rngF) <;> nofun
  | (with_reducible apply evo_mod) <;> nofun
  | (with_reducible apply evo_div) <;> nofun
  | (with_reducible apply evo_fld) <;> nofun
  | (with_reducible apply evo_isa) <;> nofun
  | (with_reducible apply evo_ix_t) <;> nofun
  | (with_reducible apply evo_ix_l) <;> nofun
  | (with_reducible apply evo_ix) <;> nofun
  | (with_reducible apply evo_mul_int) <;> nofun)
local macro_rules | `(tactic| nofun) => `(tactic| with_reducible exact okP_oI)
local macro_rules | `(tactic| nofun) => `(tactic| with_reducible exact okPL_oI)
local macro_rules | `(tactic| nofun) => `(tactic| with_reducible exact bnd_oI)
local macro_rules | `(tactic| nofun) => `(tactic| with_reducible exact okP_told)
local macro_rules | `(tactic| rfl') => `(tactic| (with_reducible apply lot_fld0) <;> nofun)
local macro_rules | `(tactic| rfl') => `(tactic| (with_reducible apply lot_fld1) <;> nofun)
local macro_rules | `(tactic| rfl') => `(tactic| (with_reducible apply lot_fld2) <;> nofun)
local macro_rules | `(tactic| rfl') => `(tactic| (with_reducible apply is_number_ev) <;> nofun)
local macro_rules | `(tactic| rfl') => `(tactic| (with_reducible apply is_between_ev) <;> nofun)
local macro_rules | `(tactic| rfl') => `(tactic| (with_reducible apply is_list_ev) <;> nofun)
local macro_rules | `(tactic| rfl') => `(tactic| (with_reducible apply is_tuple_of_tup) <;> nofun)
local macro_rules | `(tactic| rfl') => `(tactic| (with_reducible apply is_row_tup) <;> nofun)
local macro_rules | `(tactic| rfl') => `(tactic| (with_reducible apply pow18) <;> nofun)
local macro_rules | `(tactic| rfl') => `(tactic| (with_reducible apply law_rows_ev) <;> nofun)
local macro_rules | `(tactic| rfl') => `(tactic| with_reducible assumption)
-- lies_in
theorem lies_in_ev {os} {told : List (Option Int)} {row : List Int} (h : told.length < sizeLine) : Ev os (F_lies_in [.tup (told.map oI), iT row]) (.int (liesN told row)) := by
  unfold F_lies_in m_lies_in
  apply ev_fne
  · rfl'
  · simp [isNon_oI, deq_oI_int, liesN]
  rfl
local macro_rules | `(tactic| rfl') => `(tactic| (with_reducible apply lies_in_ev) <;> nofun)
-- _law_lies
theorem law_lies_ev {os} {told : List (Option Int)} {row : List Int} (h : told.length < sizeLine) : Ev os (F__law_lies [.tup (told.map oI), iT row]) (.int (liesN told row)) := by
  unfold F__law_lies m__law_lies
  apply ev_fne
  · rfl'
  · simp [isNon_oI, deq_oI_int, liesN]
  rfl
local macro_rules | `(tactic| rfl') => `(tactic| (with_reducible apply law_lies_ev) <;> nofun)
-- Lot.rows
theorem lot_rows_ev {os} {n : Nat} {rs : List (List Int)} : Ev os (F_Lot_rows [lotD n rs]) (.tup (rs.map iT)) := by
  unfold F_Lot_rows m_Lot_rows
  exact ev_fn (by rfl') bnd_rows
local macro_rules | `(tactic| rfl') => `(tactic| (with_reducible apply lot_rows_ev) <;> nofun)
-- Lot.places
theorem lot_places_ev {os} {n : Nat} {rs : List (List Int)} : Ev os (F_Lot_places [lotD n rs]) (.int n) := by
  unfold F_Lot_places m_Lot_places
  exact ev_fn (by rfl') rfl
local macro_rules | `(tactic| rfl') => `(tactic| (with_reducible apply lot_places_ev) <;> nofun)
-- need_lot
theorem need_lot_ev {os} {n : Nat} {rs : List (List Int)} {p : D} : Ev os (F_need_lot [lotD n rs, p]) .non := by
  unfold F_need_lot m_need_lot
  exact ev_fnN (by rfl')
local macro_rules | `(tactic| rfl') => `(tactic| (with_reducible apply need_lot_ev) <;> nofun)
theorem isa_Lot_no {os} {d : D} (h : noLot d = true) : Ev os (opIsa (ansL isa_Lot) d) (.bl false) := fun _ _ => by
  cases d with
  | obj c fs => cases h
  | exc c fs => cases h
  | ref i => cases h
  | fn x => cases h
  | _ => rfl
theorem need_lot_no {os} {d p : D} (h : noLot d = true) (hp : bnd 0 p = true) : EvX os (F_need_lot [d, p]) 4 [p] := by
  unfold F_need_lot m_need_lot
  refine evx_fn (evx_if_t (ev_tnot (b := false) (ev_test (ev_un (ev_var rfl) (isa_Lot_no h)))) rfl fun _ _ => rfl) ?_
  show (bnd 0 p && true) = true
  rw [hp]
  rfl
-- is_told
theorem is_told_tup {os} {ds : List D} {n : Int} (h : ∀ d ∈ ds, plainD d = true) (hz : ds.length < sizeLine) : Ev os (F_is_told [.int n, .tup ds]) (.bl (tupOf n told1 (.tup ds))) := by
  unfold F_is_told m_is_told
  apply ev_fne
  · rfl'
    all_goals exact h _ (by assumption)
  · simp [tupOf, deq_int]
    by_cases c : (ds.length : Int) = n
    · simp [c]
      rfl
    · simp [c]
  · rfl
theorem is_told_no {os} {d : D} {n : Int} (h : plainD d = true) (hn : ∀ ds, d ≠ .tup ds) : Ev os (F_is_told [.int n, d]) (.bl false) := by
  unfold F_is_told m_is_told
  refine ev_fn (d := .bl false) (evr_eq (evr_ifr (b := true) (d1 := .bl false) (d2 := .bl false) ?_ (fun _ => ev_c) fun z => by cases z) rfl) rfl
  exact fun st g => t_or_t (t_not (b := false) (t_test (e_un (by rfl) (isa_tuple_no h hn st g))))
theorem is_told_yes {os} {n : Nat} {t : List (Option Int)} (h : IsTold n t) (hn : n ≤ 6) : Ev os (F_is_told [.int n, .tup (t.map oI)]) (.bl true) := ev_eq (is_told_tup plain_told (by rw [List.length_map]; exact h.sz hn)) (by rw [h.tupOf])
local macro_rules | `(tactic| rfl') => `(tactic| (with_reducible apply is_told_yes) <;> nofun)
-- need_told
theorem need_told_ev {os} {n : Nat} {rs : List (List Int)} {t : List (Option Int)} (h : IsTold n t) (hn : n ≤ 6) : Ev os (F_need_told [lotD n rs, .tup (t.map oI)]) .non := by
  unfold F_need_told m_need_told
  apply ev_fnN
  rfl'
local macro_rules | `(tactic| rfl') => `(tactic| (with_reducible apply need_told_ev) <;> nofun)
theorem need_told_no {os} {n : Nat} {rs : List (List Int)} {d : D} (h : Ev os (F_is_told [.int n, d]) (.bl false)) : EvX os (F_need_told [lotD n rs, d]) 16 [] := by
  unfold F_need_told m_need_told
  refine evx_fn (evx_if_t (ev_tnot (b := false) (ev_test (ev_call0 (ds := [.int n, d]) (by rfl') h rfl))) rfl fun _ _ => rfl) rfl
-- fewest_lies
theorem fewest_lies_ev {os} {n : Nat} {told : List (Option Int)} {rs : List (List Int)} (h : IsTold n told) (hn : n ≤ 6) (h2 : rs.length < sizeLine) : Ev os (F_fewest_lies [lotD n rs, .tup (told.map oI)]) (if rs = [] then .non else .int (botI (rs.map (liesN told)))) := by
  have hs := h.sz hn
  unfold F_fewest_lies m_fewest_lies
  apply ev_fne
  · rfl'
    rename_i c
    rintro rfl
    cases c
  · cases rs <;> simp [deq_lst, deqL_nil]
  · exact bnd_ite rfl rfl
local macro_rules | `(tactic| rfl') => `(tactic| (with_reducible apply fewest_lies_ev) <;> nofun)
-- left_by
theorem left_by_ev {os} {n : Nat} {l : Int} {told : List (Option Int)} {rs : List (List Int)} (h : told.length < sizeLine) (h2 : rs.length < sizeLine) : Ev os (F_left_by [lotD n rs, .tup (told.map oI), .int l]) (.tup ((leftR rs told l).map iT)) := by
  unfold F_left_by m_left_by
  apply ev_fne
  · rfl'
  · rfl
  · exact bnd_rows
local macro_rules | `(tactic| rfl') => `(tactic| (with_reducible apply left_by_ev) <;> nofun)
-- need_lies
theorem need_lies_ev {os} {n : Nat} {l : Int} {rs : List (List Int)} (h0 : 0 ≤ l) (h6 : l ≤ 6) : Ev os (F_need_lies [lotD n rs, .int l]) .non := by
  unfold F_need_lies m_need_lies
  apply ev_fnN
  rfl'
  simp [betw, h0, h6]
local macro_rules | `(tactic| rfl') => `(tactic| (with_reducible apply need_lies_ev) <;> nofun)
theorem need_lies_no {os} {n : Nat} {d : D} {rs : List (List Int)} (h : plainD d = true) (hb : betw 0 6 d = false) : EvX os (F_need_lies [lotD n rs, d]) 3 [.str "lies"] := by
  unfold F_need_lies m_need_lies
  refine evx_fn (evx_seq2 (ρ1 := startE 2 [lotD n rs, d]) (by rfl') (evx_if_t (ev_tnot (b := false) (ev_test (ev_call0 (ds := [d, .int 0, .int 6]) (by rfl') (ev_eq (is_between_ev h) (by rw [hb])) rfl))) rfl fun _ _ => rfl)) rfl
-- need_told_lies
theorem need_told_lies_ev {os} {n : Nat} {l : Int} {told : List (Option Int)} {rs : List (List Int)} (h : IsTold n told) (hn : n ≤ 6) (h0 : 0 ≤ l) (h6 : l ≤ 6) : Ev os (F_need_told_lies [lotD n rs, .tup (told.map oI), .int l]) .non := by
  unfold F_need_told_lies m_need_told_lies
  apply ev_fnN
  rfl'
local macro_rules | `(tactic| rfl') => `(tactic| (with_reducible apply need_told_lies_ev) <;> nofun)
-- left_with
theorem left_with_ev {os} {n : Nat} {l : Int} {told : List (Option Int)} {rs : List (List Int)} (h : IsTold n told) (hn : n ≤ 6) (h0 : 0 ≤ l) (h6 : l ≤ 6) (h2 : rs.length < sizeLine) : Ev os (F_left_with [lotD n rs, .tup (told.map oI), .int l]) (.tup ((leftR rs told l).map iT)) := by
  have hs := h.sz hn
  unfold F_left_with m_left_with
  apply ev_fne
  · rfl'
  · rfl
  · exact bnd_rows
local macro_rules | `(tactic| rfl') => `(tactic| (with_reducible apply left_with_ev) <;> nofun)
-- wrong_places
theorem zipIdx_lt {α : Type} {xs : List α} {p : α × Nat} (h : p ∈ xs.zipIdx) : p.2 < xs.length := by
  have := List.mem_zipIdx h
  omega
theorem wrong_places_ev {os} {told : List (Option Int)} {row : List Int} (h : told.length = row.length) (hs : told.length < sizeLine) : Ev os (F_wrong_places [.tup (told.map oI), iT row]) (iT (wrongP told row)) := by
  unfold F_wrong_places m_wrong_places
  apply ev_fne
  · rfl'
    all_goals try (have := zipIdx_lt (by assumption); omega)
  · simp [isNon_oI, deq_oI_int, wrongP]
  · exact bnd_iT
local macro_rules | `(tactic| rfl') => `(tactic| (with_reducible apply wrong_places_ev) <;> nofun)
end Lk63
set_option maxRecDepth 100000
set_option maxHeartbeats 2000000
namespace Lk63
open SL PySem
local macro_rules | `(tactic| nofun) => `(tactic| first | ((with_reducible apply nat_le_g) <;> first | (show (_ : Prop); assumption) | (have hz := sz_val; (try simp only [Int.toNat_natCast, List.length_cons, List.length_nil, List.length_map, List.length_append, List.length_range, List.length_zip, List.length_zipIdx, List.length_replicate]); omega) | skip) | ((with_reducible apply nat_lt_g) <;> first | (show (_ : Prop); assumption) | (have hz := sz_val; (try simp only [Int.toNat_natCast, List.length_cons, List.length_nil, List.length_map, List.length_append, List.length_range, List.length_zip, List.length_zipIdx, List.length_replicate]); omega) | skip) | ((with_reducible apply int_le_g) <;> first | (show (_ : Prop); assumption) | (have hz := sz_val; (try simp only [Int.toNat_natCast, List.length_cons, List.length_nil, List.length_map, List.length_append, List.length_range, List.length_zip, List.length_zipIdx, List.length_replicate]); omega) | skip) | ((with_reducible apply int_lt_g) <;> first | (show (_ : Prop); assumption) | (have hz := sz_val; (try simp only [Int.toNat_natCast, List.length_cons, List.length_nil, List.length_map, List.length_append, List.length_range, List.length_zip, List.length_zipIdx, List.length_replicate]); omega) | skip) | ((with_reducible apply okR_le) <;> first | omega | skip) | rfl' | (intro _; rfl') | (intro _ _; rfl') | (intro _ _ _; rfl') | (intro _ _; exact bnd_ints) | (intro _ _; exact bnd_ite rfl rfl) | (intro _ _; exact bnd_iT) | exact bnd_ints | exact rfl | exact mapId_ | exact okP_iT | exact okPL_iT | exact okPL_int | exact okPL_intf | exact okK_iT | exact okK_int | (intro _ _; exact okK_iT) | (intro _ _; exact okK_int) | ((with_reducible apply okP_ite) <;> first | exact rfl | exact okP_iT | nofun) | ((with_reducible apply okP_tmap) <;> nofun) | (intro _ _; exact okP_ite rfl rfl) | (intro _ _; exact okP_iT) | (intro _ _; exact rfl) | (show (_ : Prop); assumption) | decide | (intro _ _; exact rfl) | (intro _ _ _; exact rfl) | (intro _ _; exact bnd_iT) | (intro _ _ _; exact bnd_iT) | (intros; have hz := sz_val; (try simp only [Int.toNat_natCast, List.length_cons, List.length_nil, List.length_map, List.length_append, List.length_range, List.length_zip, List.length_zipIdx]); omega) | skip)
local macro_rules | `(tactic| rfl') => `(tactic| first
  | with_reducible assumption
  | with_reducible exact ev_pno
  | with_reducible exact evo_sl_t
  | with_reducible exact evo_sl_l
  | with_reducible exact ev_nil
  | with_reducible exact ev_c
  | with_reducible exact evo_add_int
  | with_reducible exact evo_sub_int
  | with_reducible exact evo_lt
  | with_reducible exact evo_le
  | with_reducible exact evo_gt
  | with_reducible exact evo_ge
  | with_reducible exact evo_isN
  | with_reducible exact evo_notN
  | with_reducible exact evo_neg
  | with_reducible exact evb_len_t
  | with_reducible exact evb_len_l
  | with_reducible exact evb_len_d
  | with_reducible exact evb_tuple_l
  | with_reducible exact evb_tuple_t
  | with_reducible exact evb_list_l
  | with_reducible exact evb_list_t
  | with_reducible exact evb_int
  | with_reducible exact evb_abs
  | with_reducible exact evb_all
  | with_reducible exact evb_any
  | with_reducible exact evb_sum
  | with_reducible exact evb_min2
  | with_reducible exact evb_max2
  | (with_reducible apply ev_fn) <;> nofun
  | (with_reducible apply ev_cons) <;> nofun
  | (with_reducible apply ev_tup) <;> nofun
  | (with_reducible apply ev_lst) <;> nofun
  | (with_reducible apply ev_bin) <;> nofun
  | (with_reducible apply ev_un) <;> nofun
  | (with_reducible apply ev_cb) <;> nofun
  | (with_reducible apply ev_call0) <;> nofun
  | (with_reducible apply ev_call11) <;> nofun
  | (with_reducible apply ev_call21) <;> nofun
  | (with_reducible apply ev_callK1) <;> nofun
  | (with_reducible apply ev_callK2) <;> nofun
  | (with_reducible apply ev_callK2') <;> nofun
  | (with_reducible apply ev_callK3) <;> nofun
  | (with_reducible apply ev_prop0) <;> nofun
  | (with_reducible apply ev_methO0) <;> nofun
  | (with_reducible apply ev_test) <;> nofun
  | (with_reducible apply ev_tnot) <;> nofun
  | (with_reducible apply ev_tand) <;> nofun
  | (with_reducible apply ev_tor) <;> nofun
  | (with_reducible apply ev_and) <;> nofun
  | (with_reducible apply ev_or) <;> nofun
  | (with_reducible apply ev_not) <;> nofun
  | (with_reducible apply ev_if) <;> nofun
  | (with_reducible apply ev_chain) <;> nofun
  | (with_reducible apply ev_comp_t) <;> nofun
  | (with_reducible apply ev_comp) <;> nofun
  | (with_reducible apply evr_ret) <;> nofun
  | (with_reducible apply evr_asg) <;> nofun
  | (with_reducible apply evr_expr) <;> nofun
  | (with_reducible apply evr_ifr) <;> nofun
  | (with_reducible apply evi_rng1) <;> nofun
  | (with_reducible apply evi_rng2) <;> nofun
  | (with_reducible apply evi_seqG) <;> nofun
  | (with_reducible apply evi_enumG) <;> nofun
  | (with_reducible apply evi_zipG) <;> nofun
  | (with_reducible apply ev_sl) <;> nofun
  | (with_reducible apply ev_psome) <;> nofun
  | (with_reducible apply ev_sexpr) <;> nofun
  | (with_reducible apply ev_sseq) <;> nofun
  | (with_reducible apply ev_sifn) <;> nofun
  | (with_reducible apply ev_sasg) <;> nofun
  | (with_reducible apply evr_snil) <;> nofun
  | (with_reducible apply evr_assoc) <;> nofun
  | (with_reducible apply evb_sorted_keys) <;> nofun
  | (with_reducible apply evb_sortedI) <;> nofun
  | (with_reducible apply ev_dcomp_t) <;> nofun
  | (with_reducible apply ev_dcomp) <;> nofun
  | (with_reducible apply ev_var) <;> nofun
  | (with_reducible apply evo_add_tup) <;> nofun
  | (with_reducible apply evo_add_lst) <;> nofun
  | (with_reducible apply evo_eq) <;> nofun
  | (with_reducible apply evo_ne) <;> nofun
  | (with_reducible apply evo_in) <;> nofun
  | (with_reducible apply evo_notIn) <;> nofun
  | (with_reducible apply evb_min) <;> nofun
  | (with_reducible apply evb_max) <;> nofun
  | (with_reducible apply evb_rngF) <;> nofun
  | (with_reducible apply evo_mod) <;> nofun
  | (with_reducible apply evo_div) <;> nofun
  | (with_reducible apply evo_fld) <;> nofun
  | (with_reducible apply evo_isa) <;> nofun
  | (with_reducible apply evo_ix_t) <;> nofun
  | (with_reducible apply evo_ix_l) <;> nofun
  | (with_reducible apply evo_ix) <;> nofun
  | (with_reducible apply evo_mul_int) <;> nofun)
local macro_rules | `(tactic| nofun) => `(tactic| with_reducible exact okP_oI)
local macro_rules | `(tactic| nofun) => `(tactic| with_reducible exact okPL_oI)
local macro_rules | `(tactic| nofun) => `(tactic| with_reducible exact bnd_oI)
local macro_rules | `(tactic| nofun) => `(tactic| with_reducible exact okP_told)
local macro_rules | `(tactic| rfl') => `(tactic| (with_reducible apply lot_fld0) <;> nofun)
local macro_rules | `(tactic| rfl') => `(tactic| (with_reducible apply lot_fld1) <;> nofun)
local macro_rules | `(tactic| rfl') => `(tactic| (with_reducible apply lot_fld2) <;> nofun)
local macro_rules | `(tactic| rfl') => `(tactic| (with_reducible apply is_number_ev) <;> nofun)
local macro_rules | `(tactic| rfl') => `(tactic| (with_reducible apply is_between_ev) <;> nofun)
local macro_rules | `(tactic| rfl') => `(tactic| (with_reducible apply is_list_ev) <;> nofun)
local macro_rules | `(tactic| rfl') => `(tactic| (with_reducible apply is_tuple_of_tup) <;> nofun)
local macro_rules | `(tactic| rfl') => `(tactic| (with_reducible apply is_row_tup) <;> nofun)
local macro_rules | `(tactic| rfl') => `(tactic| (with_reducible apply pow18) <;> nofun)
local macro_rules | `(tactic| rfl') => `(tactic| (with_reducible apply law_rows_ev) <;> nofun)
local macro_rules | `(tactic| rfl') => `(tactic| (with_reducible apply lies_in_ev) <;> nofun)
local macro_rules | `(tactic| rfl') => `(tactic| (with_reducible apply law_lies_ev) <;> nofun)
local macro_rules | `(tactic| rfl') => `(tactic| (with_reducible apply lot_rows_ev) <;> nofun)
local macro_rules | `(tactic| rfl') => `(tactic| (with_reducible apply lot_places_ev) <;> nofun)
local macro_rules | `(tactic| rfl') => `(tactic| (with_reducible apply need_lot_ev) <;> nofun)
local macro_rules | `(tactic| rfl') => `(tactic| (with_reducible apply is_told_yes) <;> nofun)
local macro_rules | `(tactic| rfl') => `(tactic| (with_reducible apply need_told_ev) <;> nofun)
local macro_rules | `(tactic| rfl') => `(tactic| (with_reducible apply fewest_lies_ev) <;> nofun)
local macro_rules | `(tactic| rfl') => `(tactic| (with_reducible apply left_by_ev) <;> nofun)
local macro_rules | `(tactic| rfl') => `(tactic| (with_reducible apply need_lies_ev) <;> nofun)
local macro_rules | `(tactic| rfl') => `(tactic| (with_reducible apply need_told_lies_ev) <;> nofun)
local macro_rules | `(tactic| rfl') => `(tactic| (with_reducible apply left_with_ev) <;> nofun)
local macro_rules | `(tactic| rfl') => `(tactic| (with_reducible apply wrong_places_ev) <;> nofun)
local macro_rules | `(tactic| rfl') => `(tactic| with_reducible assumption)
-- lies_told
def liesToldS (rs : List (List Int)) (told : List (Option Int)) : List Int := (wrongP told (rs.getD 0 default)).filter fun p => rs.all fun r => decide (p ∈ wrongP told r)
theorem wrongP_len {told : List (Option Int)} {r : List Int} : (wrongP told r).length ≤ told.length := by
  unfold wrongP
  rw [List.length_map]
  refine Nat.le_trans (List.length_filter_le _ _) ?_
  rw [List.length_zipIdx]
  exact Nat.le_refl _
theorem leftR_len {rs : List (List Int)} {t : List (Option Int)} {l : Int} : (leftR rs t l).length ≤ rs.length := List.length_filter_le _ _
theorem leftR_mem {rs : List (List Int)} {t : List (Option Int)} {l : Int} {r : List Int} : r ∈ leftR rs t l ↔ r ∈ rs ∧ liesN t r ≤ l := by simp [leftR]
theorem lies_told_ev {os} {n : Nat} {l : Int} {told : List (Option Int)} {rs : List (List Int)} (h : IsTold n told) (hn : n ≤ 6) (hr : ∀ r ∈ rs, IsRow n r) (h0 : 0 ≤ l) (h6 : l ≤ 6) (h2 : rs.length < sizeLine) : Ev os (F_lies_told [lotD n rs, .tup (told.map oI), .int l]) (if leftR rs told l = [] then .non else iT (liesToldS (leftR rs told l) told)) := by
  have hs := h.sz hn
  have hw := fun r => Nat.lt_of_le_of_lt (wrongP_len (told := told) (r := r)) hs
  have h3 : (leftR rs told l).length < sizeLine := Nat.lt_of_le_of_lt leftR_len h2
  unfold F_lies_told m_lies_told
  apply ev_fne
  · rfl'
    all_goals first | exact hw _ | skip
    · rw [h.len, (hr _ (leftR_mem.mp (by assumption)).1).len]
    · rename_i c
      rw [deq_tnil] at c
      exact List.length_pos_iff.mpr (by rintro e; rw [e] at c; cases c)
  · rw [deq_tnil]
    by_cases c : leftR rs told l = []
    · simp [c]
    · simp only [any_deq (f := D.int)]
      simp [c, liesToldS]
  · exact bnd_ite rfl bnd_iT
local macro_rules | `(tactic| rfl') => `(tactic| (with_reducible apply lies_told_ev) <;> nofun)
-- sure_with
def sureS (n : Nat) (rs : List (List Int)) : List (Option Int) := (List.range n).map fun p => if rs.all fun r => decide (r.getD p 0 = (rs.getD 0 default).getD p 0) then some ((rs.getD 0 default).getD p 0) else none
theorem srtI_dKs {α : Type} {f : α → Int} {xs : List α} {x : α} (hx : x ∈ xs) : (srtI (dKs (xs.map f))).length = 1 ↔ ∀ y ∈ xs, f y = f x := by
  rw [srtI_perm.length_eq]
  constructor
  · intro h y hy
    obtain ⟨a, ha⟩ := List.length_eq_one_iff.mp h
    have h1 : f y ∈ dKs (xs.map f) := dKs_mem.mpr (List.mem_map_of_mem hy)
    have h2 : f x ∈ dKs (xs.map f) := dKs_mem.mpr (List.mem_map_of_mem hx)
    rw [ha, List.mem_singleton] at h1 h2
    rw [h1, h2]
  · intro h
    have h1 : ∀ a ∈ dKs (xs.map f), a = f x := fun a ha => by
      obtain ⟨y, hy, rfl⟩ := List.mem_map.mp (dKs_mem.mp ha)
      exact h y hy
    have h2 : f x ∈ dKs (xs.map f) := dKs_mem.mpr (List.mem_map_of_mem hx)
    have nd := dKs_nd (l := xs.map f)
    match e : dKs (xs.map f) with
    | [] => rw [e] at h2; cases h2
    | [a] => rfl
    | a :: b :: l =>
      rw [e] at h1 nd
      have := h1 a (by simp)
      have := h1 b (by simp)
      simp_all
theorem sure_with_ev {os} {n : Nat} {l : Int} {told : List (Option Int)} {rs : List (List Int)} (h : IsTold n told) (hn : n ≤ 6) (hr : ∀ r ∈ rs, IsRow n r) (h0 : 0 ≤ l) (h6 : l ≤ 6) (h2 : rs.length < sizeLine) : Ev os (F_sure_with [lotD n rs, .tup (told.map oI), .int l]) (if leftR rs told l = [] then .non else .tup ((sureS n (leftR rs told l)).map oI)) := by
  have hs := h.sz hn
  have h3 : (leftR rs told l).length < sizeLine := Nat.lt_of_le_of_lt leftR_len h2
  unfold F_sure_with m_sure_with
  have key : ∀ p : Nat, leftR rs told l ≠ [] → ((srtI (dKs ((leftR rs told l).map fun y => y.getD p 0))).length = 1 ↔ ∀ y ∈ leftR rs told l, y.getD p 0 = ((leftR rs told l).getD 0 default).getD p 0) := fun p hne => by
    match e : leftR rs told l with
    | [] => exact (hne e).elim
    | x :: xs => exact srtI_dKs (f := fun y : List Int => y.getD p 0) (List.mem_cons_self (a := x) (l := xs))
  have key2 : ∀ p : Nat, leftR rs told l ≠ [] → (srtI (dKs ((leftR rs told l).map fun y => y.getD p 0))).length = 1 → (srtI (dKs ((leftR rs told l).map fun y => y.getD p 0))).getD 0 0 = ((leftR rs told l).getD 0 default).getD p 0 := fun p hne h1 => by
    obtain ⟨a, ha⟩ := List.length_eq_one_iff.mp h1
    match e : leftR rs told l with
    | [] => exact (hne e).elim
    | x :: xs =>
      rw [e] at ha
      have h2 : x.getD p 0 ∈ srtI (dKs ((x :: xs).map fun y => y.getD p 0)) := srtI_perm.mem_iff.mpr (dKs_mem.mpr (by simp))
      rw [ha, List.mem_singleton] at h2
      rw [ha]
      simpa using h2.symm
  apply ev_fne
  · rfl'
    · rename_i y hy r hr'
      rw [(hr _ (leftR_mem.mp hr').1).len]
      simpa using hy
    · rename_i c
      simp only [deq_int, List.length_map, decide_eq_true_eq] at c
      omega
  · rw [deq_tnil]
    by_cases c : leftR rs told l = []
    · simp [c]
    · rw [if_neg (by simpa using c), if_neg c]
      simp only [sureS, List.map_map, D.tup.injEq, Int.toNat_natCast]
      refine List.map_congr_left fun p hp => ?_
      simp only [Function.comp, deq_int, List.length_map, decide_eq_true_eq, Int.toNat_zero]
      by_cases h1 : (srtI (dKs ((leftR rs told l).map fun y => y.getD p 0))).length = 1
      · rw [if_pos (by exact_mod_cast h1), if_pos (by simpa using (key p c).mp h1)]
        exact congrArg D.int (key2 p c h1)
      · rw [if_neg (fun z => h1 (by exact_mod_cast z)), if_neg (fun z => h1 ((key p c).mpr (by simpa using z)))]
        rfl
  · exact bnd_ite rfl (bnd_tup_map fun _ _ => bnd_oI)
local macro_rules | `(tactic| rfl') => `(tactic| (with_reducible apply sure_with_ev) <;> nofun)
end Lk63
set_option maxRecDepth 100000
set_option maxHeartbeats 2000000
namespace Lk63
open SL PySem
local macro_rules | `(tactic| nofun) => `(tactic| first | ((with_reducible apply nat_le_g) <;> first | (show (_ : Prop); assumption) | (have hz := sz_val; (try simp only [Int.toNat_natCast, List.length_cons, List.length_nil, List.length_map, List.length_append, List.length_range, List.length_zip, List.length_zipIdx, List.length_replicate]); omega) | skip) | ((with_reducible apply nat_lt_g) <;> first | (show (_ : Prop); assumption) | (have hz := sz_val; (try simp only [Int.toNat_natCast, List.length_cons, List.length_nil, List.length_map, List.length_append, List.length_range, List.length_zip, List.length_zipIdx, List.length_replicate]); omega) | skip) | ((with_reducible apply int_le_g) <;> first | (show (_ : Prop); assumption) | (have hz := sz_val; (try simp only [Int.toNat_natCast, List.length_cons, List.length_nil, List.length_map, List.length_append, List.length_range, List.length_zip, List.length_zipIdx, List.length_replicate]); omega) | skip) | ((with_reducible apply int_lt_g) <;> first | (show (_ : Prop); assumption) | (have hz := sz_val; (try simp only [Int.toNat_natCast, List.length_cons, List.length_nil, List.length_map, List.length_append, List.length_range, List.length_zip, List.length_zipIdx, List.length_replicate]); omega) | skip) | ((with_reducible apply okR_le) <;> first | omega | skip) | rfl' | (intro _; rfl') | (intro _ _; rfl') | (intro _ _ _; rfl') | (intro _ _; exact bnd_ints) | (intro _ _; exact bnd_ite rfl rfl) | (intro _ _; exact bnd_iT) | exact bnd_ints | exact rfl | exact mapId_ | exact okP_iT | exact okPL_iT | exact okPL_int | exact okPL_intf | exact okK_iT | exact okK_int | (intro _ _; exact okK_iT) | (intro _ _; exact okK_int) | ((with_reducible apply okP_ite) <;> first | exact rfl | exact okP_iT | nofun) | ((with_reducible apply okP_tmap) <;> nofun) | (intro _ _; exact okP_ite rfl rfl) | (intro _ _; exact okP_iT) | (intro _ _; exact rfl) | (show (_ : Prop); assumption) | decide | (intro _ _; exact rfl) | (intro _ _ _; exact rfl) | (intro _ _; exact bnd_iT) | (intro _ _ _; exact bnd_iT) | (intros; have hz := sz_val; (try simp only [Int.toNat_natCast, List.length_cons, List.length_nil, List.length_map, List.length_append, List.length_range, List.length_zip, List.length_zipIdx]); omega) | skip)
local macro_rules | `(tactic| rfl') => `(tactic| first
  | with_reducible assumption
  | with_reducible exact ev_pno
  | with_reducible exact evo_sl_t
  | with_reducible exact evo_sl_l
  | with_reducible exact ev_nil
  | with_reducible exact ev_c
  | with_reducible exact evo_add_int
  | with_reducible exact evo_sub_int
  | with_reducible exact evo_lt
  | with_reducible exact evo_le
  | with_reducible exact evo_gt
  | with_reducible exact evo_ge
  | with_reducible exact evo_isN
  | with_reducible exact evo_notN
  | with_reducible exact evo_neg
  | with_reducible exact evb_len_t
  | with_reducible exact evb_len_l
  | with_reducible exact evb_len_d
  | with_reducible exact evb_tuple_l
  | with_reducible exact evb_tuple_t
  | with_reducible exact evb_list_l
  | with_reducible exact evb_list_t
  | with_reducible exact evb_int
  | with_reducible exact evb_abs
  | with_reducible exact evb_all
  | with_reducible exact evb_any
  | with_reducible exact evb_sum
  | with_reducible exact evb_min2
  | with_reducible exact evb_max2
  | (with_reducible apply ev_fn) <;> nofun
  | (with_reducible apply ev_cons) <;> nofun
  | (with_reducible apply ev_tup) <;> nofun
  | (with_reducible apply ev_lst) <;> nofun
  | (with_reducible apply ev_bin) <;> nofun
  | (with_reducible apply ev_un) <;> nofun
  | (with_reducible apply ev_cb) <;> nofun
  | (with_reducible apply ev_call0) <;> nofun
  | (with_reducible apply ev_call11) <;> nofun
  | (with_reducible apply ev_call21) <;> nofun
  | (with_reducible apply ev_callK1) <;> nofun
  | (with_reducible apply ev_callK2) <;> nofun
  | (with_reducible apply ev_callK2') <;> nofun
  | (with_reducible apply ev_callK3) <;> nofun
  | (with_reducible apply ev_prop0) <;> nofun
  | (with_reducible apply ev_methO0) <;> nofun
  | (with_reducible apply ev_test) <;> nofun
  | (with_reducible apply ev_tnot) <;> nofun
  | (with_reducible apply ev_tand) <;> nofun
  | (with_reducible apply ev_tor) <;> nofun
  | (with_reducible apply ev_and) <;> nofun
  | (with_reducible apply ev_or) <;> nofun
  | (with_reducible apply ev_not) <;> nofun
  | (with_reducible apply ev_if) <;> nofun
  | (with_reducible apply ev_chain) <;> nofun
  | (with_reducible apply ev_comp_t) <;> nofun
  | (with_reducible apply ev_comp) <;> nofun
  | (with_reducible apply evr_ret) <;> nofun
  | (with_reducible apply evr_asg) <;> nofun
  | (with_reducible apply evr_expr) <;> nofun
  | (with_reducible apply evr_ifr) <;> nofun
  | (with_reducible apply evi_rng1) <;> nofun
  | (with_reducible apply evi_rng2) <;> nofun
  | (with_reducible apply evi_seqG) <;> nofun
  | (with_reducible apply evi_enumG) <;> nofun
  | (with_reducible apply evi_zipG) <;> nofun
  | (with_reducible apply ev_sl) <;> nofun
  | (with_reducible apply ev_psome) <;> nofun
  | (with_reducible apply ev_sexpr) <;> nofun
  | (with_reducible apply ev_sseq) <;> nofun
  | (with_reducible apply ev_sifn) <;> nofun
  | (with_reducible apply ev_sasg) <;> nofun
  | (with_reducible apply evr_snil) <;> nofun
  | (with_reducible apply evr_assoc) <;> nofun
  | (with_reducible apply evb_sorted_keys) <;> nofun
  | (with_reducible apply evb_sortedI) <;> nofun
  | (with_reducible apply ev_dcomp_t) <;> nofun
  | (with_reducible apply ev_dcomp) <;> nofun
  | (with_reducible apply ev_var) <;> nofun
  | (with_reducible apply evo_add_tup) <;> nofun
  | (with_reducible apply evo_add_lst) <;> nofun
  | (with_reducible apply evo_eq) <;> nofun
  | (with_reducible apply evo_ne) <;> nofun
  | (with_reducible apply evo_in) <;> nofun
  | (with_reducible apply evo_notIn) <;> nofun
  | (with_reducible apply evb_min) <;> nofun
  | (with_reducible apply evb_max) <;> nofun
  | (with_reducible apply evb_rngF) <;> nofun
  | (with_reducible apply evo_mod) <;> nofun
  | (with_reducible apply evo_div) <;> nofun
  | (with_reducible apply evo_fld) <;> nofun
  | (with_reducible apply evo_isa) <;> nofun
  | (with_reducible apply evo_ix_t) <;> nofun
  | (with_reducible apply evo_ix_l) <;> nofun
  | (with_reducible apply evo_ix) <;> nofun
  | (with_reducible apply evo_mul_int) <;> nofun)
local macro_rules | `(tactic| nofun) => `(tactic| with_reducible exact okP_oI)
local macro_rules | `(tactic| nofun) => `(tactic| with_reducible exact okPL_oI)
local macro_rules | `(tactic| nofun) => `(tactic| with_reducible exact bnd_oI)
local macro_rules | `(tactic| nofun) => `(tactic| with_reducible exact okP_told)
local macro_rules | `(tactic| rfl') => `(tactic| (with_reducible apply lot_fld0) <;> nofun)
local macro_rules | `(tactic| rfl') => `(tactic| (with_reducible apply lot_fld1) <;> nofun)
local macro_rules | `(tactic| rfl') => `(tactic| (with_reducible apply lot_fld2) <;> nofun)
local macro_rules | `(tactic| rfl') => `(tactic| (with_reducible apply is_number_ev) <;> nofun)
local macro_rules | `(tactic| rfl') => `(tactic| (with_reducible apply is_between_ev) <;> nofun)
local macro_rules | `(tactic| rfl') => `(tactic| (with_reducible apply is_list_ev) <;> nofun)
local macro_rules | `(tactic| rfl') => `(tactic| (with_reducible apply is_tuple_of_tup) <;> nofun)
local macro_rules | `(tactic| rfl') => `(tactic| (with_reducible apply is_row_tup) <;> nofun)
local macro_rules | `(tactic| rfl') => `(tactic| (with_reducible apply pow18) <;> nofun)
local macro_rules | `(tactic| rfl') => `(tactic| (with_reducible apply law_rows_ev) <;> nofun)
local macro_rules | `(tactic| rfl') => `(tactic| (with_reducible apply lies_in_ev) <;> nofun)
local macro_rules | `(tactic| rfl') => `(tactic| (with_reducible apply law_lies_ev) <;> nofun)
local macro_rules | `(tactic| rfl') => `(tactic| (with_reducible apply lot_rows_ev) <;> nofun)
local macro_rules | `(tactic| rfl') => `(tactic| (with_reducible apply lot_places_ev) <;> nofun)
local macro_rules | `(tactic| rfl') => `(tactic| (with_reducible apply need_lot_ev) <;> nofun)
local macro_rules | `(tactic| rfl') => `(tactic| (with_reducible apply is_told_yes) <;> nofun)
local macro_rules | `(tactic| rfl') => `(tactic| (with_reducible apply need_told_ev) <;> nofun)
local macro_rules | `(tactic| rfl') => `(tactic| (with_reducible apply fewest_lies_ev) <;> nofun)
local macro_rules | `(tactic| rfl') => `(tactic| (with_reducible apply left_by_ev) <;> nofun)
local macro_rules | `(tactic| rfl') => `(tactic| (with_reducible apply need_lies_ev) <;> nofun)
local macro_rules | `(tactic| rfl') => `(tactic| (with_reducible apply need_told_lies_ev) <;> nofun)
local macro_rules | `(tactic| rfl') => `(tactic| (with_reducible apply left_with_ev) <;> nofun)
local macro_rules | `(tactic| rfl') => `(tactic| (with_reducible apply wrong_places_ev) <;> nofun)
local macro_rules | `(tactic| rfl') => `(tactic| (with_reducible apply lies_told_ev) <;> nofun)
local macro_rules | `(tactic| rfl') => `(tactic| (with_reducible apply sure_with_ev) <;> nofun)
local macro_rules | `(tactic| rfl') => `(tactic| with_reducible assumption)
-- _law_is_of
theorem law_is_of_lot {os} {fs : List D} : Ev os (F__law_is_of [.exc 4 fs, .str "lot"]) (.bl true) := by
  unfold F__law_is_of m__law_is_of
  exact ev_fn (evr_eq (by rfl') (by rw [deq_str]; rfl)) rfl
theorem law_is_of_told {os} {fs : List D} : Ev os (F__law_is_of [.exc 16 fs, .str "told"]) (.bl true) := by
  unfold F__law_is_of m__law_is_of
  exact ev_fn (evr_eq (by rfl') (by rw [deq_str, deq_str]; rfl)) rfl
theorem law_is_of_number {os} {fs : List D} : Ev os (F__law_is_of [.exc 3 fs, .str "number"]) (.bl true) := by
  unfold F__law_is_of m__law_is_of
  exact ev_fn (evr_eq (by rfl') (by rw [deq_str, deq_str]; rfl)) rfl
local macro_rules | `(tactic| rfl') => `(tactic| (with_reducible apply law_is_of_lot) <;> nofun)
local macro_rules | `(tactic| rfl') => `(tactic| (with_reducible apply law_is_of_told) <;> nofun)
local macro_rules | `(tactic| rfl') => `(tactic| (with_reducible apply law_is_of_number) <;> nofun)
-- _law_flip
def flipS (row asked : List Int) : List Int := row.zipIdx.map fun p => if (p.2 : Int) ∈ asked then 1 - p.1 else p.1
theorem flip_row {n : Nat} {r a : List Int} (h : IsRow n r) : IsRow n (flipS r a) := ⟨by simp [flipS, h.len], fun x hx => by
  obtain ⟨p, hp, rfl⟩ := List.mem_map.mp hx
  have := List.mem_zipIdx hp
  have h1 : p.1 ∈ r := by
    rw [this.2.2]
    exact List.getElem_mem _
  have := h.bit _ h1
  split <;> omega⟩
theorem law_flip_ev {os} {row asked : List Int} (h : row.length < sizeLine) : Ev os (F__law_flip [iT row, iT asked]) (iT (flipS row asked)) := by
  unfold F__law_flip m__law_flip
  apply ev_fne
  · rfl'
  · simp only [any_deq (f := D.int)]
    simp only [flipS, List.map_map, D.tup.injEq]
    refine List.map_congr_left fun p _ => ?_
    simp only [Function.comp, decide_eq_true_eq]
    split <;> rfl
  · exact bnd_iT
local macro_rules | `(tactic| rfl') => `(tactic| (with_reducible apply law_flip_ev) <;> nofun)
-- _law_told_right
def lotT (n : Nat) (rs : List (List Int)) : D := .tup [.int n, .tup (rs.map iT)]
theorem lotT_ix0 {os} {n : Nat} {rs : List (List Int)} : Ev os (opIx (lotT n rs) (.int 0)) (.int n) := evo_ix rfl rfl
theorem lotT_ix1 {os} {n : Nat} {rs : List (List Int)} : Ev os (opIx (lotT n rs) (.int 1)) (.tup (rs.map iT)) := evo_ix rfl rfl
local macro_rules | `(tactic| rfl') => `(tactic| (with_reducible apply lotT_ix0) <;> nofun)
local macro_rules | `(tactic| rfl') => `(tactic| (with_reducible apply lotT_ix1) <;> nofun)
theorem wrongP_mem {told : List (Option Int)} {r : List Int} {q : Option Int × Nat} (hq : q ∈ told.zipIdx) : (q.2 : Int) ∈ wrongP told r ↔ (q.1.isSome && !decide (q.1 = some (r.getD q.2 0))) = true := by
  unfold wrongP
  rw [List.mem_map]
  constructor
  · rintro ⟨p, hp, e⟩
    obtain ⟨h1, h2⟩ := List.mem_filter.mp hp
    have e2 : p.2 = q.2 := by exact_mod_cast e
    have z1 := List.mem_zipIdx h1
    have z2 := List.mem_zipIdx hq
    have e3 : p.1 = q.1 := by
      rw [z1.2.2, z2.2.2]
      simp only [e2]
    have e4 : p = q := Prod.ext e3 e2
    rw [← e4]
    exact h2
  · exact fun h => ⟨q, List.mem_filter.mpr ⟨hq, h⟩, rfl⟩
theorem liesToldS_eq {rs : List (List Int)} {told : List (Option Int)} (h : rs ≠ []) : liesToldS rs told = (told.zipIdx.filter fun q => q.1.isSome && rs.all fun r => !decide (q.1 = some (r.getD q.2 0))).map fun q => (q.2 : Int) := by
  unfold liesToldS
  conv => lhs; arg 2; unfold wrongP
  rw [List.filter_map, List.filter_filter]
  congr 1
  refine List.filter_congr fun q hq => ?_
  rw [Bool.eq_iff_iff]
  match rs, h with
  | r0 :: rs, _ =>
    simp only [Function.comp, Bool.and_eq_true, List.all_eq_true, decide_eq_true_eq, wrongP_mem hq, List.getD_cons_zero]
    constructor
    · rintro ⟨h1, h2, h3⟩
      exact ⟨h2, fun r hr => (h1 r hr).2⟩
    · rintro ⟨h1, h2⟩
      exact ⟨fun r hr => ⟨h1, h2 r hr⟩, h1, h2 r0 List.mem_cons_self⟩
theorem law_told_right_ev {os} {n : Nat} {l : Int} {told : List (Option Int)} {rs : List (List Int)} (h : IsTold n told) (hn : n ≤ 6) (hr : ∀ r ∈ rs, IsRow n r) (h0 : 0 ≤ l) (h6 : l ≤ 6) (h2 : rs.length < sizeLine) : Ev os (F__law_told_right [lotT n rs, lotD n rs, .tup (told.map oI), .int l]) (.bl true) := by
  have hs := h.sz hn
  have h3 : (leftR rs told l).length < sizeLine := Nat.lt_of_le_of_lt leftR_len h2
  unfold F__law_told_right m__law_told_right
  have hl : ∀ r ∈ leftR rs told l, r.length = n := fun r hr' => (hr r (leftR_mem.mp hr').1).len
  have ne : deq (.tup ((leftR rs told l).map iT)) (.tup []) = false → 0 < (leftR rs told l).length := fun c => by
    rw [deq_tnil] at c
    exact List.length_pos_iff.mpr (by rintro e; rw [e] at c; cases c)
  have h0l : 0 < (leftR rs told l).length → ((leftR rs told l).getD 0 default).length = n := fun h => hl _ (by
    rw [List.getD_eq_getElem?_getD, List.getElem?_eq_getElem h]
    exact List.getElem_mem h)
  apply ev_fne
  · rfl'
    all_goals have ne2 := ne (by assumption)
    all_goals have hl0 := h0l ne2
    all_goals first
      | exact ne2
      | (simp only [Int.toNat_natCast]; refine Nat.lt_of_lt_of_eq ?_ (hl _ (by assumption)).symm; simpa using ‹_ ∈ List.range _›)
      | (simp only [Int.toNat_natCast]; refine Nat.lt_of_lt_of_eq ?_ hl0.symm; simpa using ‹_ ∈ List.range _›)
      | (have z := zipIdx_lt (by assumption); rw [h.len] at z; simp only [Int.toNat_natCast]; exact Nat.lt_of_lt_of_eq z (hl _ (by assumption)).symm)
      | skip
    done
  · rw [show (rs.filter fun y => decide (liesN told y ≤ l)) = leftR rs told l from rfl, deq_TT, deq_tnil]
    by_cases c : leftR rs told l = []
    · simp [c, isNon]
    · simp only [c, if_false, decide_true, Bool.not_true, Bool.or_false, Bool.false_eq_true, List.isEmpty_iff]
      have e1 : ∀ p : Nat, (if deq (.lst (((leftR rs told l).filter fun y => !deq (.int (y.getD (p : Int).toNat default)) (.int (((leftR rs told l).getD (Int.toNat 0) default).getD (p : Int).toNat default))).map iT)) (.lst []) = true then D.int (((leftR rs told l).getD (Int.toNat 0) default).getD (p : Int).toNat default) else D.non) = oI (if (leftR rs told l).all fun r => decide (r.getD p 0 = ((leftR rs told l).getD 0 default).getD p 0) then some (((leftR rs told l).getD 0 default).getD p 0) else none) := fun p => by
        rw [deq_lnil]
        simp only [deq_int, Int.toNat_natCast, Int.toNat_zero]
        have e : ((leftR rs told l).filter fun y => !decide (y.getD p default = ((leftR rs told l).getD 0 default).getD p default)).isEmpty = (leftR rs told l).all fun r => decide (r.getD p 0 = ((leftR rs told l).getD 0 default).getD p 0) := by
          rw [Bool.eq_iff_iff, List.isEmpty_iff, List.filter_eq_nil_iff, List.all_eq_true]
          simp
        rw [e]
        split <;> rfl
      have e2 : (told.zipIdx.filter fun y => !isNon (oI y.1) && deq (.lst (((leftR rs told l).filter fun z => deq (.int (z.getD (y.2 : Int).toNat default)) (oI y.1)).map iT)) (.lst [])) = told.zipIdx.filter fun q => q.1.isSome && (leftR rs told l).all fun r => !decide (q.1 = some (r.getD q.2 0)) := by
        refine List.filter_congr fun q _ => ?_
        rw [deq_lnil, isNon_oI]
        simp only [deq_int_oI, Int.toNat_natCast]
        rw [Bool.eq_iff_iff]
        simp [List.isEmpty_iff, List.filter_eq_nil_iff]
      simp only [e1]
      rw [e2, show (told.zipIdx.filter fun q => q.1.isSome && (leftR rs told l).all fun r => !decide (q.1 = some (r.getD q.2 0))).map (fun y => D.int (y.2 : Int)) = (liesToldS (leftR rs told l) told).map D.int by rw [liesToldS_eq c, List.map_map]; rfl]
      rw [show (List.range (n : Int).toNat).map (fun p => oI (if (leftR rs told l).all fun r => decide (r.getD p 0 = ((leftR rs told l).getD 0 default).getD p 0) then some (((leftR rs told l).getD 0 default).getD p 0) else none)) = (sureS n (leftR rs told l)).map oI by rw [Int.toNat_natCast, sureS, List.map_map]; rfl]
      rw [deq_TT, deq_TT]
      simp
  · rfl
local macro_rules | `(tactic| rfl') => `(tactic| (with_reducible apply law_told_right_ev) <;> nofun)
end Lk63
set_option maxRecDepth 100000
set_option maxHeartbeats 2000000
namespace Lk63
open SL PySem
local macro_rules | `(tactic| nofun) => `(tactic| first | ((with_reducible apply nat_le_g) <;> first | (show (_ : Prop); assumption) | (have hz := sz_val; (try simp only [Int.toNat_natCast, List.length_cons, List.length_nil, List.length_map, List.length_append, List.length_range, List.length_zip, List.length_zipIdx, List.length_replicate]); omega) | skip) | ((with_reducible apply nat_lt_g) <;> first | (show (_ : Prop); assumption) | (have hz := sz_val; (try simp only [Int.toNat_natCast, List.length_cons, List.length_nil, List.length_map, List.length_append, List.length_range, List.length_zip, List.length_zipIdx, List.length_replicate]); omega) | skip) | ((with_reducible apply int_le_g) <;> first | (show (_ : Prop); assumption) | (have hz := sz_val; (try simp only [Int.toNat_natCast, List.length_cons, List.length_nil, List.length_map, List.length_append, List.length_range, List.length_zip, List.length_zipIdx, List.length_replicate]); omega) | skip) | ((with_reducible apply int_lt_g) <;> first | (show (_ : Prop); assumption) | (have hz := sz_val; (try simp only [Int.toNat_natCast, List.length_cons, List.length_nil, List.length_map, List.length_append, List.length_range, List.length_zip, List.length_zipIdx, List.length_replicate]); omega) | skip) | ((with_reducible apply okR_le) <;> first | omega | skip) | rfl' | (intro _; rfl') | (intro _ _; rfl') | (intro _ _ _; rfl') | (intro _ _; exact bnd_ints) | (intro _ _; exact bnd_ite rfl rfl) | (intro _ _; exact bnd_iT) | exact bnd_ints | exact rfl | exact mapId_ | exact okP_iT | exact okPL_iT | exact okPL_int | exact okPL_intf | exact okK_iT | exact okK_int | (intro _ _; exact okK_iT) | (intro _ _; exact okK_int) | ((with_reducible apply okP_ite) <;> first | exact rfl | exact okP_iT | nofun) | ((with_reducible apply okP_tmap) <;> nofun) | (intro _ _; exact okP_ite rfl rfl) | (intro _ _; exact okP_iT) | (intro _ _; exact rfl) | (show (_ : Prop); assumption) | decide | (intro _ _; exact rfl) | (intro _ _ _; exact rfl) | (intro _ _; exact bnd_iT) | (intro _ _ _; exact bnd_iT) | (intros; have hz := sz_val; (try simp only [Int.toNat_natCast, List.length_cons, List.length_nil, List.length_map, List.length_append, List.length_range, List.length_zip, List.length_zipIdx]); omega) | skip)
local macro_rules | `(tactic| rfl') => `(tactic| first
  | with_reducible assumption
  | with_reducible exact ev_pno
  | with_reducible exact evo_sl_t
  | with_reducible exact evo_sl_l
  | with_reducible exact ev_nil
  | with_reducible exact ev_c
  | with_reducible exact evo_add_int
  | with_reducible exact evo_sub_int
  | with_reducible exact evo_lt
  | with_reducible exact evo_le
  | with_reducible exact evo_gt
  | with_reducible exact evo_ge
  | with_reducible exact evo_isN
  | with_reducible exact evo_notN
  | with_reducible exact evo_neg
  | with_reducible exact evb_len_t
  | with_reducible exact evb_len_l
  | with_reducible exact evb_len_d
  | with_reducible exact evb_tuple_l
  | with_reducible exact evb_tuple_t
  | with_reducible exact evb_list_l
  | with_reducible exact evb_list_t
  | with_reducible exact evb_int
  | with_reducible exact evb_abs
  | with_reducible exact evb_all
  | with_reducible exact evb_any
  | with_reducible exact evb_sum
  | with_reducible exact evb_min2
  | with_reducible exact evb_max2
  | (with_reducible apply ev_fn) <;> nofun
  | (with_reducible apply ev_cons) <;> nofun
  | (with_reducible apply ev_tup) <;> nofun
  | (with_reducible apply ev_lst) <;> nofun
  | (with_reducible apply ev_bin) <;> nofun
  | (with_reducible apply ev_un) <;> nofun
  | (with_reducible apply ev_cb) <;> nofun
  | (with_reducible apply ev_call0) <;> nofun
  | (with_reducible apply ev_call11) <;> nofun
  | (with_reducible apply ev_call21) <;> nofun
  | (with_reducible apply ev_callK1) <;> nofun
  | (with_reducible apply ev_callK2) <;> nofun
  | (with_reducible apply ev_callK2') <;> nofun
  | (with_reducible apply ev_callK3) <;> nofun
  | (with_reducible apply ev_prop0) <;> nofun
  | (with_reducible apply ev_methO0) <;> nofun
  | (with_reducible apply ev_test) <;> nofun
  | (with_reducible apply ev_tnot) <;> nofun
  | (with_reducible apply ev_tand) <;> nofun
  | (with_reducible apply ev_tor) <;> nofun
  | (with_reducible apply ev_and) <;> nofun
  | (with_reducible apply ev_or) <;> nofun
  | (with_reducible apply ev_not) <;> nofun
  | (with_reducible apply ev_if) <;> nofun
  | (with_reducible apply ev_chain) <;> nofun
  | (with_reducible apply ev_comp_t) <;> nofun
  | (with_reducible apply ev_comp) <;> nofun
  | (with_reducible apply evr_ret) <;> nofun
  | (with_reducible apply evr_asg) <;> nofun
  | (with_reducible apply evr_expr) <;> nofun
  | (with_reducible apply evr_ifr) <;> nofun
  | (with_reducible apply evi_rng1) <;> nofun
  | (with_reducible apply evi_rng2) <;> nofun
  | (with_reducible apply evi_seqG) <;> nofun
  | (with_reducible apply evi_enumG) <;> nofun
  | (with_reducible apply evi_zipG) <;> nofun
  | (with_reducible apply ev_sl) <;> nofun
  | (with_reducible apply ev_psome) <;> nofun
  | (with_reducible apply ev_sexpr) <;> nofun
  | (with_reducible apply ev_sseq) <;> nofun
  | (with_reducible apply ev_sifn) <;> nofun
  | (with_reducible apply ev_sasg) <;> nofun
  | (with_reducible apply evr_snil) <;> nofun
  | (with_reducible apply evr_assoc) <;> nofun
  | (with_reducible apply evb_sorted_keys) <;> nofun
  | (with_reducible apply evb_sortedI) <;> nofun
  | (with_reducible apply ev_dcomp_t) <;> nofun
  | (with_reducible apply ev_dcomp) <;> nofun
  | (with_reducible apply ev_var) <;> nofun
  | (with_reducible apply evo_add_tup) <;> nofun
  | (with_reducible apply evo_add_lst) <;> nofun
  | (with_reducible apply evo_eq) <;> nofun
  | (with_reducible apply evo_ne) <;> nofun
  | (with_reducible apply evo_in) <;> nofun
  | (with_reducible apply evo_notIn) <;> nofun
  | (with_reducible apply evb_min) <;> nofun
  | (with_reducible apply evb_max) <;> nofun
  | (with_reducible apply evb_rngF) <;> nofun
  | (with_reducible apply evo_mod) <;> nofun
  | (with_reducible apply evo_div) <;> nofun
  | (with_reducible apply evo_fld) <;> nofun
  | (with_reducible apply evo_isa) <;> nofun
  | (with_reducible apply evo_ix_t) <;> nofun
  | (with_reducible apply evo_ix_l) <;> nofun
  | (with_reducible apply evo_ix) <;> nofun
  | (with_reducible apply evo_mul_int) <;> nofun)
local macro_rules | `(tactic| nofun) => `(tactic| with_reducible exact okP_oI)
local macro_rules | `(tactic| nofun) => `(tactic| with_reducible exact okPL_oI)
local macro_rules | `(tactic| nofun) => `(tactic| with_reducible exact bnd_oI)
local macro_rules | `(tactic| nofun) => `(tactic| with_reducible exact okP_told)
local macro_rules | `(tactic| rfl') => `(tactic| (with_reducible apply lot_fld0) <;> nofun)
local macro_rules | `(tactic| rfl') => `(tactic| (with_reducible apply lot_fld1) <;> nofun)
local macro_rules | `(tactic| rfl') => `(tactic| (with_reducible apply lot_fld2) <;> nofun)
local macro_rules | `(tactic| rfl') => `(tactic| (with_reducible apply is_number_ev) <;> nofun)
local macro_rules | `(tactic| rfl') => `(tactic| (with_reducible apply is_between_ev) <;> nofun)
local macro_rules | `(tactic| rfl') => `(tactic| (with_reducible apply is_list_ev) <;> nofun)
local macro_rules | `(tactic| rfl') => `(tactic| (with_reducible apply is_tuple_of_tup) <;> nofun)
local macro_rules | `(tactic| rfl') => `(tactic| (with_reducible apply is_row_tup) <;> nofun)
local macro_rules | `(tactic| rfl') => `(tactic| (with_reducible apply pow18) <;> nofun)
local macro_rules | `(tactic| rfl') => `(tactic| (with_reducible apply law_rows_ev) <;> nofun)
local macro_rules | `(tactic| rfl') => `(tactic| (with_reducible apply lies_in_ev) <;> nofun)
local macro_rules | `(tactic| rfl') => `(tactic| (with_reducible apply law_lies_ev) <;> nofun)
local macro_rules | `(tactic| rfl') => `(tactic| (with_reducible apply lot_rows_ev) <;> nofun)
local macro_rules | `(tactic| rfl') => `(tactic| (with_reducible apply lot_places_ev) <;> nofun)
local macro_rules | `(tactic| rfl') => `(tactic| (with_reducible apply need_lot_ev) <;> nofun)
local macro_rules | `(tactic| rfl') => `(tactic| (with_reducible apply is_told_yes) <;> nofun)
local macro_rules | `(tactic| rfl') => `(tactic| (with_reducible apply need_told_ev) <;> nofun)
local macro_rules | `(tactic| rfl') => `(tactic| (with_reducible apply fewest_lies_ev) <;> nofun)
local macro_rules | `(tactic| rfl') => `(tactic| (with_reducible apply left_by_ev) <;> nofun)
local macro_rules | `(tactic| rfl') => `(tactic| (with_reducible apply need_lies_ev) <;> nofun)
local macro_rules | `(tactic| rfl') => `(tactic| (with_reducible apply need_told_lies_ev) <;> nofun)
local macro_rules | `(tactic| rfl') => `(tactic| (with_reducible apply left_with_ev) <;> nofun)
local macro_rules | `(tactic| rfl') => `(tactic| (with_reducible apply wrong_places_ev) <;> nofun)
local macro_rules | `(tactic| rfl') => `(tactic| (with_reducible apply lies_told_ev) <;> nofun)
local macro_rules | `(tactic| rfl') => `(tactic| (with_reducible apply sure_with_ev) <;> nofun)
local macro_rules | `(tactic| rfl') => `(tactic| (with_reducible apply law_is_of_lot) <;> nofun)
local macro_rules | `(tactic| rfl') => `(tactic| (with_reducible apply law_is_of_told) <;> nofun)
local macro_rules | `(tactic| rfl') => `(tactic| (with_reducible apply law_is_of_number) <;> nofun)
local macro_rules | `(tactic| rfl') => `(tactic| (with_reducible apply law_flip_ev) <;> nofun)
local macro_rules | `(tactic| rfl') => `(tactic| (with_reducible apply lotT_ix0) <;> nofun)
local macro_rules | `(tactic| rfl') => `(tactic| (with_reducible apply lotT_ix1) <;> nofun)
local macro_rules | `(tactic| rfl') => `(tactic| (with_reducible apply law_told_right_ev) <;> nofun)
local macro_rules | `(tactic| rfl') => `(tactic| with_reducible assumption)
-- _law_below
def belowS : List Int → List (List Int)
  | [] => [[]]
  | _ => []
def belowStep (a : Int) (l : List (List Int)) : List (List Int) := l.flatMap fun p => if a = 1 then [p ++ [0], p ++ [1]] else [p ++ [0]]
def belowR (r : List Int) : List (List Int) := r.foldl (fun l a => belowStep a l) [[]]
theorem belowR_row {n : Nat} {r : List Int} (h : r.length = n) : ∀ p ∈ belowR r, IsRow n p := by
  have key : ∀ (r : List Int) (l : List (List Int)) (k : Nat), (∀ p ∈ l, IsRow k p) → ∀ p ∈ r.foldl (fun l a => belowStep a l) l, IsRow (k + r.length) p := by
    intro r
    induction r with
    | nil => intro l k h; exact h
    | cons a r ih =>
      intro l k h p hp
      have z := ih (belowStep a l) (k + 1) (fun q hq => by
        obtain ⟨s, hs, hq⟩ := List.mem_flatMap.mp hq
        have hs' := h s hs
        have hq2 : q = s ++ [0] ∨ q = s ++ [1] := by
          split at hq
          · simpa using hq
          · exact .inl (by simpa using hq)
        rcases hq2 with rfl | rfl
        · exact ⟨by simp [hs'.len], fun b hb => by
            rcases List.mem_append.mp hb with z | z
            · exact hs'.bit b z
            · exact .inl (List.mem_singleton.mp z)⟩
        · exact ⟨by simp [hs'.len], fun b hb => by
            rcases List.mem_append.mp hb with z | z
            · exact hs'.bit b z
            · exact .inr (List.mem_singleton.mp z)⟩) p hp
      rw [List.length_cons, show k + (r.length + 1) = k + 1 + r.length by omega]
      exact z
  subst h
  have := key r [[]] 0 (fun p hp => by
    rw [List.mem_singleton.mp hp]
    exact ⟨rfl, by simp⟩)
  simpa [belowR] using this
theorem belowR_len {r : List Int} : (belowR r).length ≤ 2 ^ r.length := by
  have k1 : ∀ (a : Int) (l : List (List Int)), (belowStep a l).length ≤ 2 * l.length := by
    intro a l
    unfold belowStep
    induction l with
    | nil => simp
    | cons x l ih =>
      rw [List.flatMap_cons, List.length_append, List.length_cons]
      have : (if a = 1 then [x ++ [0], x ++ [1]] else [x ++ [(0 : Int)]]).length ≤ 2 := by split <;> simp
      omega
  have key : ∀ (r : List Int) (l : List (List Int)), (r.foldl (fun l a => belowStep a l) l).length ≤ 2 ^ r.length * l.length := by
    intro r
    induction r with
    | nil => intro l; simp
    | cons a r ih =>
      intro l
      have h1 := ih (belowStep a l)
      have h2 := k1 a l
      rw [List.foldl_cons, List.length_cons, Nat.pow_succ]
      calc _ ≤ _ := h1
        _ ≤ 2 ^ r.length * (2 * l.length) := Nat.mul_le_mul_left _ h2
        _ = _ := by rw [Nat.mul_assoc]
  simpa [belowR] using key r [[]]
theorem law_below_ev {os} {n : Nat} {r : List Int} (h : IsRow n r) (hn : n ≤ 6) : Ev os (F__law_below [iT r]) (.lst ((belowR r).map iT)) := by
  refine Ev.of ?_
  unfold F__law_below m__law_below
  refine ev_fnS (fun st g => ?_) (bnd_lst_map fun _ _ => bnd_iT)
  have e0 : sAsg (mLst (aCons (mTup aNil) aNil)) (gmName 1) (startE 5 [iT r]) st = .ok (.nx, [some (iT r), some (.lst ([[]].map iT)), none, none, none]) st := s_asg (d := .lst ([[]].map iT)) (st1 := st) (e_lst (ds := [.tup []]) (a_cons (e_tup (ds := []) rfl (by decide)) rfl) (by decide)) rfl
  refine sw_seq (sw_eq e0 ?_)
  refine sw_sq (P := fun ρ s => (∃ a2 a3 a4 : Option D, ρ = [some (iT r), some (.lst ((belowR r).map iT)), a2, a3, a4]) ∧ st = s) ?_ ?_
  · refine sw_for (os := []) (ys := r) (h := D.int) (fun k ρ s => (∃ a2 a3 a4 : Option D, ρ = [some (iT r), some (.lst ((belowR (r.take k)).map iT)), a2, a3, a4]) ∧ st = s) (by rfl') ?_ ⟨⟨_, _, _, rfl⟩, rfl⟩ ?_ ?_
    · rintro _ _ _ ⟨_, rfl⟩
      exact g
    · rintro k a _ _ ea ⟨⟨a2, a3, a4, rfl⟩, rfl⟩
      have hk : k < r.length := (List.getElem?_eq_some_iff.mp ea).1
      have tk : r.take (k + 1) = r.take k ++ [a] := by rw [List.take_succ, ea]; rfl
      have lk : (r.take k).length = k := by rw [List.length_take]; omega
      have hrow := belowR_row (r := r.take k) lk
      have hlen := belowR_len (r := r.take k)
      have hl6 := h.len
      rw [lk] at hlen
      have h64 : (belowR (r.take k)).length ≤ 64 := Nat.le_trans hlen (Nat.le_trans (Nat.pow_le_pow_right (by decide) (show k ≤ 6 by omega)) (by decide))
      show sat (Res.bind (Res.ok [some (iT r), some (.lst ((belowR (r.take k)).map iT)), some (D.int a), a3, a4] st) _) _
      rw [bind_ok]
      refine sw_seq (sw_asg (sw_pure (os := []) (a := .lst []) (ev_lst ev_nil (by decide)) g ?_))
      refine sw_seq (sat_mono (acc_for (os := []) (ys := belowR (r.take k)) (h := iT) (g := fun p => if a = 1 then [iT (p ++ [0]), iT (p ++ [1])] else [iT (p ++ [0])]) (i := 3) (j := 4) (a0 := []) (by decide) (by rfl') rfl (by show 4 < 5; decide) ?_ ?_ g) ?_)
      · intro p hp acc
        have hp' := hrow p hp
        have hl := hp'.len
        show Ev [] (mIf _ _ _ [some (iT r), some (.lst ((belowR (r.take k)).map iT)), some (D.int a), some (.lst acc), some (iT p)]) _
        refine ev_eq (by rfl') ?_
        rw [deq_int]
        by_cases c : a = 1 <;> simp [c]
      · have : ((belowR (r.take k)).flatMap fun p => if a = 1 then [iT (p ++ [0]), iT (p ++ [1])] else [iT (p ++ [0])]).length ≤ 2 * (belowR (r.take k)).length := by
          generalize belowR (r.take k) = l
          induction l with
          | nil => simp
          | cons x l ih =>
            rw [List.flatMap_cons, List.length_append, List.length_cons]
            have : (if a = 1 then [iT (x ++ [0]), iT (x ++ [1])] else [iT (x ++ [(0 : Int)])]).length ≤ 2 := by split <;> simp
            omega
        have := sz_val
        simp only [List.length_nil]
        omega
      · rintro _ _ ⟨rfl, b, rfl⟩
        refine sw_asg (sw_var rfl ⟨⟨some (D.int a), some (.lst ((belowR (r.take (k + 1))).map iT)), b, ?_⟩, rfl⟩)
        have e : ((belowR (r.take k)).flatMap fun p => if a = 1 then [iT (p ++ [0]), iT (p ++ [1])] else [iT (p ++ [0])]) = (belowR (r.take (k + 1))).map iT := by
          rw [tk]
          unfold belowR
          rw [List.foldl_append]
          simp only [List.foldl_cons, List.foldl_nil]
          rw [belowStep, List.map_flatMap]
          congr 1
          funext p
          split <;> rfl
        rw [List.nil_append, e]
        rfl
    · rintro _ _ ⟨⟨a2, a3, a4, rfl⟩, rfl⟩
      refine ⟨rfl, ⟨a2, a3, a4, ?_⟩, rfl⟩
      rw [List.take_length]
  · rintro _ _ ⟨⟨a2, a3, a4, rfl⟩, rfl⟩
    exact sw_ret (sw_var rfl ⟨rfl, by simp⟩)
local macro_rules | `(tactic| rfl') => `(tactic| (with_reducible apply law_below_ev) <;> nofun)
-- _law_shuffled
theorem TP_get {t : Tape} {more l : Store} {k : Nat} : (TP t (more ++ l))[more.length + 3 + k]? = l[k]? := by
  rw [← TP_app, List.getElem?_append_right (by rw [TP_len]; omega), TP_len]
  congr 1
  omega
theorem TP_set {t : Tape} {more l : Store} {k : Nat} {o : MO} : (TP t (more ++ l)).set (more.length + 3 + k) o = TP t (more ++ l.set k o) := by
  rw [← TP_app, List.set_append_right _ _ (by rw [TP_len]; omega), TP_len, TP_app]
  congr 3
  omega
theorem OT.app {t : Tape} {more l : Store} (h : OT t more) (hl : ∀ o ∈ l, bndM 0 o = true) : OT t (more ++ l) := by
  induction l generalizing more with
  | nil => rw [List.append_nil]; exact h
  | cons o l ih =>
    have := ih (h.push (hl o List.mem_cons_self)) fun q hq => hl q (List.mem_cons_of_mem _ hq)
    simpa using this
theorem OT.back {t : Tape} {more l : Store} (h : OT t (more ++ l)) (c : clS (TP t more).length (TP t more) = true) : OT t more := ⟨h.good, h.few, c⟩
theorem sw_shuffled {t : Tape} {more : Store} {x : D} {xs : List D} {Q : D → Store → Prop} (g : OT t more) (hx : isSeq x = some xs) (h1 : xs.length < FU) (hb : okPL 50 xs = true) (h : ∀ ys t', ys.Perm xs → OT t' more → Q (.lst ys) (TP t' more)) : sat (F__law_shuffled [.ref 1, x] (TP t more)) Q := by
  have hok : ∀ ys : List D, (∀ y ∈ ys, y ∈ xs) → okPL 59 ys = true ∧ bndL 0 ys = true := fun ys hy => by
    have z := okPL_sub hy hb
    refine ⟨?_, okPL_bnd z⟩
    rw [okPL_iff] at z ⊢
    intro d hd
    exact okP_mono (by decide) (z d hd)
  refine sw_PT (P := fun y => ∃ ys, y = .lst ys ∧ ys.Perm xs) (tp_fnL ?_) (by rintro _ t' ⟨ys, rfl, p⟩ g'; exact h ys t' p g')
  unfold m__law_shuffled
  have hL : (TP t more).length = more.length + 3 := TP_len
  have e0 : sPar 2 3 (aCons (mCB bList (aCons (mVar 1) aNil)) (aCons (mNew aNil) aNil)) (startE 4 [.ref 1, x]) (TP t more) = .ok (.nx, [some (.ref 1), some x, some (.ref (more.length + 3 + 0)), some (.ref (more.length + 3 + 1))]) (TP t (more ++ [.lst xs, .lst []])) := by
    have e1 : mCB bList (aCons (mVar 1) aNil) (startE 4 [.ref 1, x]) (TP t more) = .ok (.ref (more.length + 3)) (TP t (more ++ [.lst xs])) := by
      refine e_cb (a_cons rfl rfl) ?_
      cases x <;> simp [isSeq] at hx <;> subst hx <;> rfl
    unfold sPar
    rw [show aCons (mCB bList (aCons (mVar 1) aNil)) (aCons (mNew aNil) aNil) (startE 4 [.ref 1, x]) (TP t more) = .ok [.ref (more.length + 3), .ref (more.length + 3 + 1)] (TP t (more ++ [.lst xs, .lst []])) from a_cons e1 (by
      show Res.bind (Res.bind (Res.bind (Res.ok [] _) _) _) _ = _
      simp only [bind_ok]
      rw [if_pos (by decide)]
      simp only [bind_ok]
      show Res.ok [D.ref (TP t (more ++ [MO.lst xs])).length] (TP t (more ++ [MO.lst xs]) ++ [MO.lst []]) = _
      rw [TP_len, TP_app]
      simp)]
    rfl
  refine sw_seq (sw_eq e0 ?_)
  refine sw_sq (P := fun ρ s => ∃ t' ys, ρ = [some (D.ref 1), some x, some (.ref (more.length + 3 + 0)), some (.ref (more.length + 3 + 1))] ∧ OT t' more ∧ ys.Perm xs ∧ s = TP t' (more ++ [.lst [], .lst ys])) ?_ ?_
  · refine sw_while (fun m ρ s => ∃ t' l ys, ρ = [some (D.ref 1), some x, some (.ref (more.length + 3 + 0)), some (.ref (more.length + 3 + 1))] ∧ OT t' more ∧ l.length = m ∧ (ys ++ l).Perm xs ∧ s = TP t' (more ++ [.lst l, .lst ys])) ?_ FU xs.length _ _ h1 ⟨t, xs, [], rfl, g, rfl, by simp, rfl⟩
    rintro m _ _ ⟨t', l, ys, rfl, g', hm, hp, rfl⟩
    have sub1 : ∀ y ∈ l, y ∈ xs := fun y hy => hp.mem_iff.mp (List.mem_append_right _ hy)
    have sub2 : ∀ y ∈ ys, y ∈ xs := fun y hy => hp.mem_iff.mp (List.mem_append_left _ hy)
    have ge : (TP t' (more ++ [.lst l, .lst ys]))[more.length + 3 + 0]? = some (.lst l) := TP_get
    refine sw_eq (a := !l.isEmpty) (st := TP t' (more ++ [.lst l, .lst ys])) (t_test (e_bin (d1 := .ref (more.length + 3 + 0)) (d2 := .lst []) rfl (e_lst rfl (by decide)) (ne_nil_ref ge (hok l sub1).1 (hok l sub1).2))) ⟨fun hne => ?_, fun hne => ?_⟩
    · have hl0 : 0 < l.length := by
        cases l with
        | nil => cases hne
        | cons a l => simp
      have hlx : l.length ≤ xs.length := by
        have := hp.length_eq
        rw [List.length_append] at this
        omega
      have hfu := fu_val
      have gx : OT t' (more ++ [.lst l, .lst ys]) := g'.app (by
        intro o ho
        rcases List.mem_cons.mp ho with rfl | ho
        · exact (hok l sub1).2
        · rw [List.mem_singleton.mp ho]
          exact (hok ys sub2).2)
      refine sw_expr (sw_append (n := more.length + 3 + 1) (xs := ys) rfl TP_get (sw_acons ?_))
      refine sw_pop (n := more.length + 3 + 0) (xs := l) rfl ge (sw_acons (sw_call0 (sw_acons (sw_var rfl (sw_acons (sw_eq (e_cb (a_cons rfl rfl) (len_ref ge)) (sw_anil ⟨rfl, ?_⟩)))))))
      refine sw_draw gx (by omega) (by omega) fun v t2 v0 v1 g2 => sw_anil ⟨v, l, rfl, TP_get, v0, by omega, ?_⟩
      have hv : v.toNat < l.length := by omega
      rw [TP_set]
      refine sw_anil ⟨l[v.toNat], ys, rfl, TP_get, ?_, ?_⟩
      · have := hp.length_eq
        rw [List.length_append] at this
        have := sz_val
        omega
      · rw [TP_set]
        refine ⟨m - 1, by omega, t2, l.eraseIdx v.toNat, ys ++ [l[v.toNat]], rfl, ⟨g2.good, g2.few, cl_TP g'.cl⟩, by rw [List.length_eraseIdx, if_pos hv, hm], ?_, rfl⟩
        refine List.Perm.trans ?_ hp
        rw [List.append_assoc]
        refine List.Perm.append_left _ ?_
        rw [List.eraseIdx_eq_take_drop_succ]
        have e : List.take v.toNat l ++ l[v.toNat] :: List.drop (v.toNat + 1) l = l := by rw [← List.drop_eq_getElem_cons hv, List.take_append_drop]
        exact (List.perm_middle (l₁ := List.take v.toNat l) (l₂ := List.drop (v.toNat + 1) l) (a := l[v.toNat])).symm.trans (List.Perm.of_eq e)
    · have el : l = [] := by
        cases l with
        | nil => rfl
        | cons a l => cases hne
      subst el
      exact ⟨rfl, t', ys, rfl, g', by simpa using hp, rfl⟩
  · rintro _ _ ⟨t', ys, rfl, g', p, rfl⟩
    refine sw_ret (sw_var rfl ⟨_, ys, t', _, rfl, by rw [TP_len]; omega, (hok ys fun y hy => p.mem_iff.mp hy).2, ⟨ys, rfl, p⟩, g', rfl, TP_get⟩)
-- _law_told
theorem sw_told {t : Tape} {more : Store} {n : Nat} {Q : D → Store → Prop} (g : OT t more) (hn : n ≤ 6) (h : ∀ told t', IsTold n told → OT t' more → Q (.tup (told.map oI)) (TP t' more)) : sat (F__law_told [.ref 1, .int n] (TP t more)) Q := by
  refine sw_PT (P := fun d => ∃ told, IsTold n told ∧ d = .tup (told.map oI)) (tp_fn ?_) (by rintro _ t' ⟨told, ht, rfl⟩ g'; exact h told t' ht g')
  unfold m__law_told
  refine sw_ret (sw_cb (sw_acons (sw_PT (comp_tapeM (ys := List.range n) (h := fun (k : Nat) => D.int (k : Int)) (E := fun k => [some (.ref 1), some (.int n), some (.int k)]) (P := fun _ d => ∃ o : Option Int, (o = none ∨ o = some 0 ∨ o = some 1) ∧ d = oI o) g ?_ (fun _ _ => rfl) ?_ ?_ ?_) ?_)))
  · have z := evi_rng1 (os := []) (j := (n : Int)) (ma := mVar 1) (ρ := startE 3 [.ref 1, .int n]) (ev_var rfl) (okR_le (by omega) (by omega))
    simpa using z
  · have := sz_val
    rw [List.length_range]
    omega
  · intro y hy t' more' g'
    refine sw_call0 (sw_acons (sw_var rfl (sw_acons (sw_pure (os := []) (a := .lst [.non, .int 0, .int 1]) (by rfl') g'.cg (sw_anil ⟨rfl, ?_⟩)))))
    refine sw_pick g' rfl (by simp) (by have := sz_val; simp only [List.length_cons, List.length_nil]; omega) (by simp [bnd]) fun y t2 hy g2 => ?_
    refine ⟨t2, ?_, g2, rfl⟩
    simp only [List.mem_cons, List.not_mem_nil, or_false] at hy
    rcases hy with rfl | rfl | rfl
    · exact ⟨none, .inl rfl, rfl⟩
    · exact ⟨some 0, .inr (.inl rfl), rfl⟩
    · exact ⟨some 1, .inr (.inr rfl), rfl⟩
  · rintro _ _ d ⟨o, _, rfl⟩
    exact bnd_oI
  · rintro _ t' ⟨zs, h1, rfl, h2⟩ g'
    have hex : ∀ zs : List (Nat × D), (∀ z ∈ zs, ∃ o : Option Int, (o = none ∨ o = some 0 ∨ o = some 1) ∧ z.2 = oI o) → ∃ told : List (Option Int), IsTold zs.length told ∧ zs.map (fun z => z.2) = told.map oI := by
      intro zs
      induction zs with
      | nil => intro _; exact ⟨[], ⟨rfl, by simp⟩, rfl⟩
      | cons z zs ih =>
        intro h2
        obtain ⟨told, ht, e⟩ := ih fun q hq => h2 q (List.mem_cons_of_mem _ hq)
        obtain ⟨o, ho, e2⟩ := h2 z List.mem_cons_self
        refine ⟨o :: told, ⟨by simp [ht.len], fun a ha => ?_⟩, by simp [e, e2]⟩
        rcases List.mem_cons.mp ha with rfl | ha
        · exact ho
        · exact ht.bit a ha
    obtain ⟨told, ht, e⟩ := hex zs h2
    have hl : zs.length = n := by simpa using congrArg List.length h1
    rw [hl] at ht
    rw [e]
    exact sw_anil (sw_eq (a := .tup (told.map oI)) (st := TP t' more) rfl ⟨_, t', [], rfl, bnd_tup_map fun _ _ => bnd_oI, ⟨told, ht, rfl⟩, g', by rw [List.append_nil]⟩)
-- _law_made
theorem law_made_ev {os} {n : Nat} {rs : List (List Int)} (h : IsLot n rs) : Ev os (F__law_made [lotT n rs]) (lotD n rs) := by
  unfold F__law_made m__law_made
  have z := lot_make (os := os) (am := aCons (mBin opIx (mVar 0) (mC (.int 0))) (aCons (mCB bListF (aCons (mBin opIx (mVar 0) (mC (.int 1))) aNil)) aNil)) (ρ := startE 1 [lotT n rs]) (n := n) (rs := rs) (by rfl') h.pos h.le h.row h.nd
  rw [h.srt] at z
  exact ev_fn (evr_ret z) bnd_lot
local macro_rules | `(tactic| rfl') => `(tactic| (with_reducible apply law_made_ev) <;> nofun)
end Lk63
set_option maxRecDepth 100000
set_option maxHeartbeats 2000000
namespace Lk63
open SL PySem
local macro_rules | `(tactic| nofun) => `(tactic| first | ((with_reducible apply nat_le_g) <;> first | (show (_ : Prop); assumption) | (have hz := sz_val; (try simp only [Int.toNat_natCast, List.length_cons, List.length_nil, List.length_map, List.length_append, List.length_range, List.length_zip, List.length_zipIdx, List.length_replicate]); omega) | skip) | ((with_reducible apply nat_lt_g) <;> first | (show (_ : Prop); assumption) | (have hz := sz_val; (try simp only [Int.toNat_natCast, List.length_cons, List.length_nil, List.length_map, List.length_append, List.length_range, List.length_zip, List.length_zipIdx, List.length_replicate]); omega) | skip) | ((with_reducible apply int_le_g) <;> first | (show (_ : Prop); assumption) | (have hz := sz_val; (try simp only [Int.toNat_natCast, List.length_cons, List.length_nil, List.length_map, List.length_append, List.length_range, List.length_zip, List.length_zipIdx, List.length_replicate]); omega) | skip) | ((with_reducible apply int_lt_g) <;> first | (show (_ : Prop); assumption) | (have hz := sz_val; (try simp only [Int.toNat_natCast, List.length_cons, List.length_nil, List.length_map, List.length_append, List.length_range, List.length_zip, List.length_zipIdx, List.length_replicate]); omega) | skip) | ((with_reducible apply okR_le) <;> first | omega | skip) | rfl' | (intro _; rfl') | (intro _ _; rfl') | (intro _ _ _; rfl') | (intro _ _; exact bnd_ints) | (intro _ _; exact bnd_ite rfl rfl) | (intro _ _; exact bnd_iT) | exact bnd_ints | exact rfl | exact mapId_ | exact okP_iT | exact okPL_iT | exact okPL_int | exact okPL_intf | exact okK_iT | exact okK_int | (intro _ _; exact okK_iT) | (intro _ _; exact okK_int) | ((with_reducible apply okP_ite) <;> first | exact rfl | exact okP_iT | nofun) | ((with_reducible apply okP_tmap) <;> nofun) | (intro _ _; exact okP_ite rfl rfl) | (intro _ _; exact okP_iT) | (intro _ _; exact rfl) | (show (_ : Prop); assumption) | decide | (intro _ _; exact rfl) | (intro _ _ _; exact rfl) | (intro _ _; exact bnd_iT) | (intro _ _ _; exact bnd_iT) | (intros; have hz := sz_val; (try simp only [Int.toNat_natCast, List.length_cons, List.length_nil, List.length_map, List.length_append, List.length_range, List.length_zip, List.length_zipIdx]); omega) | skip)
local macro_rules | `(tactic| rfl') => `(tactic| first
  | with_reducible assumption
  | with_reducible exact ev_pno
  | with_reducible exact evo_sl_t
  | with_reducible exact evo_sl_l
  | with_reducible exact ev_nil
  | with_reducible exact ev_c
  | with_reducible exact evo_add_int
  | with_reducible exact evo_sub_int
  | with_reducible exact evo_lt
  | with_reducible exact evo_le
  | with_reducible exact evo_gt
  | with_reducible exact evo_ge
  | with_reducible exact evo_isN
  | with_reducible exact evo_notN
  | with_reducible exact evo_neg
  | with_reducible exact evb_len_t
  | with_reducible exact evb_len_l
  | with_reducible exact evb_len_d
  | with_reducible exact evb_tuple_l
  | with_reducible exact evb_tuple_t
  | with_reducible exact evb_list_l
  | with_reducible exact evb_list_t
  | with_reducible exact evb_int
  | with_reducible exact evb_abs
  | with_reducible exact evb_all
  | with_reducible exact evb_any
  | with_reducible exact evb_sum
  | with_reducible exact evb_min2
  | with_reducible exact evb_max2
  | (with_reducible apply ev_fn) <;> nofun
  | (with_reducible apply ev_cons) <;> nofun
  | (with_reducible apply ev_tup) <;> nofun
  | (with_reducible apply ev_lst) <;> nofun
  | (with_reducible apply ev_bin) <;> nofun
  | (with_reducible apply ev_un) <;> nofun
  | (with_reducible apply ev_cb) <;> nofun
  | (with_reducible apply ev_call0) <;> nofun
  | (with_reducible apply ev_call11) <;> nofun
  | (with_reducible apply ev_call21) <;> nofun
  | (with_reducible apply ev_callK1) <;> nofun
  | (with_reducible apply ev_callK2) <;> nofun
  | (with_reducible apply ev_callK2') <;> nofun
  | (with_reducible apply ev_callK3) <;> nofun
  | (with_reducible apply ev_prop0) <;> nofun
  | (with_reducible apply ev_methO0) <;> nofun
  | (with_reducible apply ev_test) <;> nofun
  | (with_reducible apply ev_tnot) <;> nofun
  | (with_reducible apply ev_tand) <;> nofun
  | (with_reducible apply ev_tor) <;> nofun
  | (with_reducible apply ev_and) <;> nofun
  | (with_reducible apply ev_or) <;> nofun
  | (with_reducible apply ev_not) <;> nofun
  | (with_reducible apply ev_if) <;> nofun
  | (with_reducible apply ev_chain) <;> nofun
  | (with_reducible apply ev_comp_t) <;> nofun
  | (with_reducible apply ev_comp) <;> nofun
  | (with_reducible apply evr_ret) <;> nofun
  | (with_reducible apply evr_asg) <;> nofun
  | (with_reducible apply evr_expr) <;> nofun
  | (with_reducible apply evr_ifr) <;> nofun
  | (with_reducible apply evi_rng1) <;> nofun
  | (with_reducible apply evi_rng2) <;> nofun
  | (with_reducible apply evi_seqG) <;> nofun
  | (with_reducible apply evi_enumG) <;> nofun
  | (with_reducible apply evi_zipG) <;> nofun
  | (with_reducible apply ev_sl) <;> nofun
  | (with_reducible apply ev_psome) <;> nofun
  | (with_reducible apply ev_sexpr) <;> nofun
  | (with_reducible apply ev_sseq) <;> nofun
  | (with_reducible apply ev_sifn) <;> nofun
  | (with_reducible apply ev_sasg) <;> nofun
  | (with_reducible apply evr_snil) <;> nofun
  | (with_reducible apply evr_assoc) <;> nofun
  | (with_reducible apply evb_sorted_keys) <;> nofun
  | (with_reducible apply evb_sortedI) <;> nofun
  | (with_reducible apply ev_dcomp_t) <;> nofun
  | (with_reducible apply ev_dcomp) <;> nofun
  | (with_reducible apply ev_var) <;> nofun
  | (with_reducible apply evo_add_tup) <;> nofun
  | (with_reducible apply evo_add_lst) <;> nofun
  | (with_reducible apply evo_eq) <;> nofun
  | (with_reducible apply evo_ne) <;> nofun
  | (with_reducible apply evo_in) <;> nofun
  | (with_reducible apply evo_notIn) <;> nofun
  | (with_reducible apply evb_min) <;> nofun
  | (with_reducible apply evb_max) <;> nofun
  | (with_reducible apply evb_rngF) <;> nofun
  | (with_reducible apply evo_mod) <;> nofun
  | (with_reducible apply evo_div) <;> nofun
  | (with_reducible apply evo_fld) <;> nofun
  | (with_reducible apply evo_isa) <;> nofun
  | (with_reducible apply evo_ix_t) <;> nofun
  | (with_reducible apply evo_ix_l) <;> nofun
  | (with_reducible apply evo_ix) <;> nofun
  | (with_reducible apply evo_mul_int) <;> nofun)
local macro_rules | `(tactic| nofun) => `(tactic| with_reducible exact okP_oI)
local macro_rules | `(tactic| nofun) => `(tactic| with_reducible exact okPL_oI)
local macro_rules | `(tactic| nofun) => `(tactic| with_reducible exact bnd_oI)
local macro_rules | `(tactic| nofun) => `(tactic| with_reducible exact okP_told)
local macro_rules | `(tactic| rfl') => `(tactic| (with_reducible apply lot_fld0) <;> nofun)
local macro_rules | `(tactic| rfl') => `(tactic| (with_reducible apply lot_fld1) <;> nofun)
local macro_rules | `(tactic| rfl') => `(tactic| (with_reducible apply lot_fld2) <;> nofun)
local macro_rules | `(tactic| rfl') => `(tactic| (with_reducible apply is_number_ev) <;> nofun)
local macro_rules | `(tactic| rfl') => `(tactic| (with_reducible apply is_between_ev) <;> nofun)
local macro_rules | `(tactic| rfl') => `(tactic| (with_reducible apply is_list_ev) <;> nofun)
local macro_rules | `(tactic| rfl') => `(tactic| (with_reducible apply is_tuple_of_tup) <;> nofun)
local macro_rules | `(tactic| rfl') => `(tactic| (with_reducible apply is_row_tup) <;> nofun)
local macro_rules | `(tactic| rfl') => `(tactic| (with_reducible apply pow18) <;> nofun)
local macro_rules | `(tactic| rfl') => `(tactic| (with_reducible apply law_rows_ev) <;> nofun)
local macro_rules | `(tactic| rfl') => `(tactic| (with_reducible apply lies_in_ev) <;> nofun)
local macro_rules | `(tactic| rfl') => `(tactic| (with_reducible apply law_lies_ev) <;> nofun)
local macro_rules | `(tactic| rfl') => `(tactic| (with_reducible apply lot_rows_ev) <;> nofun)
local macro_rules | `(tactic| rfl') => `(tactic| (with_reducible apply lot_places_ev) <;> nofun)
local macro_rules | `(tactic| rfl') => `(tactic| (with_reducible apply need_lot_ev) <;> nofun)
local macro_rules | `(tactic| rfl') => `(tactic| (with_reducible apply is_told_yes) <;> nofun)
local macro_rules | `(tactic| rfl') => `(tactic| (with_reducible apply need_told_ev) <;> nofun)
local macro_rules | `(tactic| rfl') => `(tactic| (with_reducible apply fewest_lies_ev) <;> nofun)
local macro_rules | `(tactic| rfl') => `(tactic| (with_reducible apply left_by_ev) <;> nofun)
local macro_rules | `(tactic| rfl') => `(tactic| (with_reducible apply need_lies_ev) <;> nofun)
local macro_rules | `(tactic| rfl') => `(tactic| (with_reducible apply need_told_lies_ev) <;> nofun)
local macro_rules | `(tactic| rfl') => `(tactic| (with_reducible apply left_with_ev) <;> nofun)
local macro_rules | `(tactic| rfl') => `(tactic| (with_reducible apply wrong_places_ev) <;> nofun)
local macro_rules | `(tactic| rfl') => `(tactic| (with_reducible apply lies_told_ev) <;> nofun)
local macro_rules | `(tactic| rfl') => `(tactic| (with_reducible apply sure_with_ev) <;> nofun)
local macro_rules | `(tactic| rfl') => `(tactic| (with_reducible apply law_is_of_lot) <;> nofun)
local macro_rules | `(tactic| rfl') => `(tactic| (with_reducible apply law_is_of_told) <;> nofun)
local macro_rules | `(tactic| rfl') => `(tactic| (with_reducible apply law_is_of_number) <;> nofun)
local macro_rules | `(tactic| rfl') => `(tactic| (with_reducible apply law_flip_ev) <;> nofun)
local macro_rules | `(tactic| rfl') => `(tactic| (with_reducible apply lotT_ix0) <;> nofun)
local macro_rules | `(tactic| rfl') => `(tactic| (with_reducible apply lotT_ix1) <;> nofun)
local macro_rules | `(tactic| rfl') => `(tactic| (with_reducible apply law_told_right_ev) <;> nofun)
local macro_rules | `(tactic| rfl') => `(tactic| (with_reducible apply law_below_ev) <;> nofun)
local macro_rules | `(tactic| rfl') => `(tactic| (with_reducible apply law_made_ev) <;> nofun)
local macro_rules | `(tactic| rfl') => `(tactic| with_reducible assumption)
-- _law_lot
theorem tupsI_map {rs : List (List Int)} : tupsI (rs.map iT) = some rs := by
  induction rs with
  | nil => rfl
  | cons r rs ih =>
    have e : intsOf (r.map D.int) = some r := by
      clear ih
      induction r with
      | nil => rfl
      | cons i r ih => simp [intsOf, ih]
    simp [tupsI, e, ih]
theorem eraseDups_nd : ∀ (n : Nat) (l : List (List Int)), l.length ≤ n → l.eraseDups.Nodup
  | 0, l, h => by
    obtain rfl : l = [] := List.length_eq_zero_iff.mp (by omega)
    simp
  | n + 1, [], _ => by simp
  | n + 1, a :: l, h => by
    rw [List.eraseDups_cons, List.nodup_cons]
    refine ⟨fun z => ?_, eraseDups_nd n _ (Nat.le_trans (List.length_filter_le _ _) (by simpa using h))⟩
    rw [List.mem_eraseDups, List.mem_filter] at z
    simp at z
theorem sortset_lot {st : Store} {d : D} {fs : List (List Int)} {n : Nat} (h : lstOf st d = some (fs.map iT)) (hn : 1 ≤ n) (h6 : n ≤ 6) (hr : ∀ r ∈ fs, IsRow n r) : bSortSet [d] st = .ok (.lst ((srt fs.eraseDups).map iT)) st ∧ IsLot n (srt fs.eraseDups) := by
  have nd := eraseDups_nd _ fs (Nat.le_refl _)
  have hr2 : ∀ r ∈ fs.eraseDups, IsRow n r := fun r h => hr r (List.mem_eraseDups.mp h)
  have il : IsLot n (srt fs.eraseDups) := ⟨hn, h6, fun r h => hr2 r (mem_srt.mp h), srt_nodup nd, srt_srt _⟩
  refine ⟨?_, il⟩
  have hlen : fs.eraseDups.length ≤ 64 := by
    have := il.len
    rwa [(srt_perm _).length_eq] at this
  unfold bSortSet
  dsimp only
  rw [h, Option.bind_some, tupsI_map]
  dsimp only
  rw [if_pos ⟨okSort_iT (srt_ne hn hr2), hlen⟩, sortD_iT]
/-- what the found rows are, in the middle of _law_lot -/
def L5 (more : Store) (n : Nat) (a1 a3 : Option D) (ρ : SL.Env) (s : Store) : Prop := ∃ (t : Tape) (l : Store) (d : D) (fs : List (List Int)) (j6 j7 j8 j9 j10 j11 j12 j13 : Option D),
  ρ = [some (.ref 1), a1, some (.int n), a3, some (.lst ((allR n).map iT)), some d, j6, j7, j8, j9, j10, j11, j12, j13] ∧ OT t more ∧ s = TP t (more ++ l) ∧ lstOf s d = some (fs.map iT) ∧ ∀ r ∈ fs, IsRow n r
theorem OT.cut {t : Tape} {more l : Store} {t0 : Tape} (h : OT t (more ++ l)) (g : OT t0 more) : OT t more := ⟨h.good, h.few, cl_TP g.cl⟩
theorem TP_lst {t : Tape} {more l : Store} {xs : List D} {k : Nat} (h : l[k]? = some (.lst xs)) : lstOf (TP t (more ++ l)) (.ref (more.length + 3 + k)) = some xs := by
  unfold lstOf
  dsimp only
  rw [TP_get, h]
theorem TP_seq {t : Tape} {more l : Store} {xs : List D} {k : Nat} (h : l[k]? = some (.lst xs)) : seqOf (TP t (more ++ l)) (.ref (more.length + 3 + k)) = some xs := by
  unfold seqOf
  dsimp only
  rw [TP_get, h]
theorem rows_ne {n : Nat} : (allR n).map iT ≠ [] := fun e => by
  have := congrArg List.length e
  rw [List.length_map, allR_len] at this
  have := Nat.pow_pos (n := n) (show 0 < 2 by decide)
  simp at *
theorem rows_sz {n : Nat} (h : n ≤ 6) : ((allR n).map iT).length ≤ 64 := by
  rw [List.length_map, allR_len]
  exact Nat.pow_le_pow_right (n := 2) (by decide) h
theorem pick_rows {t : Tape} {more : Store} {n : Nat} {Q : D → Store → Prop} {ρ : SL.Env} (h0 : ρ[0]? = some (some (.ref 1))) (h4 : ρ[4]? = some (some (.lst ((allR n).map iT)))) (hn : n ≤ 6) (g : OT t more) (h : ∀ r t', IsRow n r → OT t' more → Q (iT r) (TP t' more)) :
    sat (mCall (arity 2 F__law_pick) [] (aCons (mVar 0) (aCons (mVar 4) aNil)) ρ (TP t more)) Q :=
  sw_call0 (sw_acons (sw_var h0 (sw_acons (sw_var h4 (sw_anil ⟨rfl, sw_pick g rfl rows_ne (Nat.lt_of_le_of_lt (rows_sz hn) (by decide)) (fun y hy => by
    obtain ⟨r, _, rfl⟩ := List.mem_map.mp hy
    exact bnd_iT) fun y t' hy g' => by
    obtain ⟨r, hr, rfl⟩ := List.mem_map.mp hy
    exact h r t' (mem_allR.mp hr) g'⟩)))))
theorem draw_c {t : Tape} {more : Store} {c : Int} {Q : D → Store → Prop} {ρ : SL.Env} (h0 : ρ[0]? = some (some (.ref 1))) (c0 : 0 < c) (c1 : c < 1073741824) (g : OT t more) (h : ∀ v t', 0 ≤ v → v < c → OT t' more → Q (.int v) (TP t' more)) : sat (mCall (arity 2 F__law_draw) [] (aCons (mVar 0) (aCons (mC (.int c)) aNil)) ρ (TP t more)) Q :=
  sw_call0 (sw_acons (sw_var h0 (sw_acons (sw_c (sw_anil ⟨rfl, sw_draw g c0 c1 h⟩)))))
theorem lot_A01 {more : Store} {n : Nat} {c : Int} {a1 a3 : Option D} {t : Tape} {j5 j6 j7 j8 j9 j10 j11 j12 j13 : Option D} (g : OT t more) (hn : n ≤ 6) (c0 : 0 < c) (c1 : c < 1073741824) :
    sat (sAsg (mComp (mIt (fSeq FU) (mVar 4)) (tgName 11) (mTest (mBin opEq (mCall (arity 2 F__law_draw) [] (aCons (mVar 0) (aCons (mC (.int c)) aNil))) (mC (.int 0)))) (mVar 11) [11]) (gmName 5) [some (.ref 1), a1, some (.int n), a3, some (.lst ((allR n).map iT)), j5, j6, j7, j8, j9, j10, j11, j12, j13] (TP t more)) fun r s => r.1 = .nx ∧ L5 more n a1 a3 r.2 s := by
  refine sw_asg (sat_mono (comp_tapeK (ys := allR n) (h := iT) (f := iT) (E := fun r => [some (.ref 1), a1, some (.int n), a3, some (.lst ((allR n).map iT)), j5, j6, j7, j8, j9, j10, some (iT r), j12, j13]) g (by rfl') (fun _ _ => rfl) ?_ (fun r hr t' more' g' => draw_eq0 rfl c0 c1 g') (fun _ _ => ev_var rfl) (fun _ _ => bnd_iT)) ?_)
  · have := rows_sz hn
    rw [List.length_map] at this
    exact Nat.lt_of_le_of_lt this (by decide)
  · rintro d s ⟨t', sub, rfl, g', hsub, rfl⟩
    exact ⟨rfl, t', [.lst (sub.map iT)], _, sub, j6, j7, j8, j9, j10, j11, j12, j13, rfl, g', rfl, TP_lst (k := 0) rfl, fun r hr => mem_allR.mp (hsub.subset hr)⟩
theorem lot_A2 {more : Store} {n : Nat} {a1 a3 : Option D} {t : Tape} {j5 j6 j7 j8 j9 j10 j11 j12 j13 : Option D} (g : OT t more) (hp : 1 ≤ n) (hn : n ≤ 6) :
    sat (sSeq (sAsg (mNew (aCons (mCall (arity 2 F__law_pick) [] (aCons (mVar 0) (aCons (mVar 4) aNil))) aNil)) (gmName 5))
  (sFor (mRng1 (mCall (arity 2 F__law_draw) [] (aCons (mVar 0) (aCons (mCB bLen (aCons (mVar 4) aNil)) aNil)))) (gmName 6)
  (sExpr (mMeth "list" fAppend (mVar 5) (aCons (mCall (arity 2 F__law_flip) [] (aCons (mCall (arity 2 F__law_pick) [] (aCons (mVar 0) (aCons (mVar 5) aNil))) (aCons (mTup (aCons (mCall (arity 2 F__law_draw) [] (aCons (mVar 0) (aCons (mVar 2) aNil))) aNil)) aNil))) aNil)))) [some (.ref 1), a1, some (.int n), a3, some (.lst ((allR n).map iT)), j5, j6, j7, j8, j9, j10, j11, j12, j13] (TP t more)) fun r s => r.1 = .nx ∧ L5 more n a1 a3 r.2 s := by
  have hz := sz_val
  have hrs := rows_sz hn
  have hr0 := List.length_pos_iff.mpr (rows_ne (n := n))
  refine sw_seq (sw_asg (sw_new (sw_acons (pick_rows rfl rfl hn g fun r t' hr g' => sw_anil ⟨by simp only [List.length_cons, List.length_nil]; omega, ?_⟩))))
  show sat (sFor _ _ _ [some (.ref 1), a1, some (.int n), a3, some (.lst ((allR n).map iT)), some (.ref (more.length + 3 + 0)), j6, j7, j8, j9, j10, j11, j12, j13] (TP t' (more ++ [.lst [iT r]]))) _
  refine sw_for_rng (fun N k ρ s => N ≤ 64 ∧ ∃ (t : Tape) (fs : List (List Int)) (j6 : Option D), ρ = [some (.ref 1), a1, some (.int n), a3, some (.lst ((allR n).map iT)), some (.ref (more.length + 3 + 0)), j6, j7, j8, j9, j10, j11, j12, j13] ∧ OT t more ∧ s = TP t (more ++ [.lst (fs.map iT)]) ∧ (∀ r ∈ fs, IsRow n r) ∧ fs ≠ [] ∧ fs.length = k + 1) ?_ ?_ ?_
  · refine sw_call0 (sw_acons (sw_var rfl (sw_acons (sw_eq (a := .int ((allR n).map iT).length) (st := TP t' (more ++ [.lst [iT r]])) rfl (sw_anil ⟨rfl, ?_⟩)))))
    refine sw_draw (g'.pushL (show bndL 0 [iT r] = true by show (bnd 0 (iT r) && true) = true; rw [bnd_iT]; rfl)) (by omega) (by omega) fun v t2 v0 v1 g2 => ?_
    exact ⟨v.toNat, by rw [Int.toNat_of_nonneg v0], by omega, by omega, t2, [r], j6, rfl, g2.cut g, rfl, fun q hq => by rw [List.mem_singleton.mp hq]; exact hr, by simp, rfl⟩
  · rintro N k _ _ hk ⟨hN, t, fs, j6, rfl, gt, rfl, hfs, hne, hfl⟩
    show sat (Res.bind (Res.ok [some (.ref 1), a1, some (.int n), a3, some (.lst ((allR n).map iT)), some (.ref (more.length + 3 + 0)), some (D.int (k : Int)), j7, j8, j9, j10, j11, j12, j13] _) _) _
    rw [bind_ok]
    have gp : OT t (more ++ [.lst (fs.map iT)]) := gt.pushL bnd_rows
    refine sw_expr (sw_append (n := more.length + 3 + 0) (xs := fs.map iT) rfl TP_get (sw_acons (sw_call0 (sw_acons (sw_call0 (sw_acons (sw_var rfl (sw_acons (sw_var rfl (sw_anil ⟨rfl, ?_⟩))))))))))
    refine sw_pickR gp (xs := fs.map iT) (fun _ => TP_seq rfl) (by simpa using hne) (by rw [List.length_map]; omega) (fun y hy => by
      obtain ⟨r, _, rfl⟩ := List.mem_map.mp hy
      exact bnd_iT) fun y t2 hy g2 => ?_
    obtain ⟨r', hr', rfl⟩ := List.mem_map.mp hy
    refine sw_acons (sw_tup (sw_acons (sw_call0 (sw_acons (sw_var rfl (sw_acons (sw_var rfl (sw_anil ⟨rfl, ?_⟩))))))))
    refine sw_draw g2 (by omega) (by omega) fun v t3 v0 v1 g3 => sw_anil ⟨by simp only [List.length_cons, List.length_nil]; omega, sw_anil ⟨rfl, ?_⟩⟩
    have hrr := hfs r' hr'
    refine sw_pure (os := []) (law_flip_ev (row := r') (asked := [v]) (hrr.sz hn)) g3.cg (sw_anil ⟨_, fs.map iT, rfl, TP_get, by rw [List.length_map]; omega, ?_⟩)
    rw [TP_set]
    refine ⟨hN, t3, fs ++ [flipS r' [v]], _, rfl, g3.cut g, ?_, fun q hq => ?_, by simp, by simp [hfl]⟩
    · simp
    · rcases List.mem_append.mp hq with q1 | q1
      · exact hfs q q1
      · rw [List.mem_singleton.mp q1]
        exact flip_row hrr
  · rintro N _ _ ⟨hN, t, fs, j6, rfl, gt, rfl, hfs, hne, hfl⟩
    exact ⟨rfl, t, [.lst (fs.map iT)], _, fs, j6, j7, j8, j9, j10, j11, j12, j13, rfl, gt, rfl, TP_lst (k := 0) rfl, hfs⟩
theorem flip_rows {n : Nat} {l : List (List Int)} {a : List Int} (h : ∀ r ∈ l, IsRow n r) : ∀ r ∈ l.map (fun r => flipS r a), IsRow n r := fun r hr => by
  obtain ⟨q, hq, rfl⟩ := List.mem_map.mp hr
  exact flip_row (h q hq)
theorem lstOf_app {t t' : Tape} {more l l' : Store} {d : D} {xs : List D} (h : ∀ t, lstOf (TP t (more ++ l)) d = some xs) : lstOf (TP t' (more ++ l)) d = some xs := h t'
theorem lot_A3 {more : Store} {n : Nat} {a1 a3 : Option D} {t : Tape} {j5 j6 j7 j8 j9 j10 j11 j12 j13 : Option D} (g : OT t more) (hp : 1 ≤ n) (hn : n ≤ 6) :
    sat (sSeq (sAsg (mTup (aCons (mNew aNil) (aCons (mCB bTuple (aCons (closeE (mComp (mRng1 (mVar 2)) (tgName 12) (mTest (mBin opEq (mCall (arity 2 F__law_draw) [] (aCons (mVar 0) (aCons (mC (.int 2)) aNil))) (mC (.int 0)))) (mVar 12) [12])) aNil)) aNil))) (gmTup 2 (gmsCons (gmName 5) (gmsCons (gmName 7) gmsNil))))
  (sFor (mRng1 (mBin opAdd (mC (.int 1)) (mCall (arity 2 F__law_draw) [] (aCons (mVar 0) (aCons (mC (.int 4)) aNil))))) (gmName 6)
  (sAsg (mBin opAdd (mVar 5) (closeE (mComp (mIt (fSeq FU) (mCall (arity 1 F__law_below) [] (aCons (mCall (arity 2 F__law_pick) [] (aCons (mVar 0) (aCons (mVar 4) aNil))) aNil))) (tgName 11) mTrue (mCall (arity 2 F__law_flip) [] (aCons (mVar 11) (aCons (mVar 7) aNil))) [11]))) (gmName 5))) [some (.ref 1), a1, some (.int n), a3, some (.lst ((allR n).map iT)), j5, j6, j7, j8, j9, j10, j11, j12, j13] (TP t more)) fun r s => r.1 = .nx ∧ L5 more n a1 a3 r.2 s := by
  have hz := sz_val
  have ge : OT t (more ++ [.lst []]) := g.pushL rfl
  refine sw_seq (sw_asgG (sw_tup (sw_acons (sw_new (sw_anil ⟨by simp, ?_⟩)))))
  rw [TP_app]
  refine sw_acons (sw_cb (sw_acons (sw_PT (comp_tapeF (ys := List.range n) (h := fun (k : Nat) => D.int (k : Int)) (f := fun (k : Nat) => D.int (k : Int)) (E := fun (k : Nat) => [some (.ref 1), a1, some (.int n), a3, some (.lst ((allR n).map iT)), j5, j6, j7, j8, j9, j10, j11, some (.int (k : Int)), j13]) ge ?_ (fun _ _ => rfl) ?_ (fun r hr t' more' g' => draw_eq0 rfl (by decide) (by decide) g') (fun _ _ => ev_var rfl) (fun _ _ => rfl)) ?_)))
  · have z := evi_rng1 (os := []) (j := (n : Int)) (ma := mVar 2) (ρ := [some (.ref 1), a1, some (.int n), a3, some (.lst ((allR n).map iT)), j5, j6, j7, j8, j9, j10, j11, j12, j13]) (ev_var rfl) (okR_le (by omega) (by omega))
    simpa using z
  · rw [List.length_range]
    omega
  · rintro _ t1 ⟨sub, hsub, rfl⟩ g1
    have e7 : sub.map (fun (k : Nat) => D.int (k : Int)) = (sub.map fun (k : Nat) => (k : Int)).map D.int := by rw [List.map_map]; rfl
    rw [e7]
    generalize sub.map (fun (k : Nat) => (k : Int)) = asked
    refine sw_anil (sw_eq (a := iT asked) (st := TP t1 (more ++ [.lst []])) rfl (sw_anil ⟨by simp only [List.length_cons, List.length_nil]; omega, ?_⟩))
    refine sw_eq (a := [some (.ref 1), a1, some (.int n), a3, some (.lst ((allR n).map iT)), some (.ref (more.length + 3 + 0)), j6, some (iT asked), j8, j9, j10, j11, j12, j13]) (st := TP t1 (more ++ [.lst []])) ?_ ?_
    · rfl
    refine sw_for_rng (fun N k ρ s => N ≤ 4 ∧ ∃ (t : Tape) (fs : List (List Int)) (d : D) (j6 j11 : Option D), ρ = [some (.ref 1), a1, some (.int n), a3, some (.lst ((allR n).map iT)), some d, j6, some (iT asked), j8, j9, j10, j11, j12, j13] ∧ OT t more ∧ s = TP t (more ++ [.lst []]) ∧ (∀ r ∈ fs, IsRow n r) ∧ fs.length ≤ 64 * k ∧ bnd 3 d = bnd 3 d ∧ ∀ t, lstOf (TP t (more ++ [.lst []])) d = some (fs.map iT)) ?_ ?_ ?_
    · refine sw_bin (sw_c (draw_c rfl (by decide) (by decide) g1 fun v t2 v0 v1 g2 => ?_))
      refine sw_eq (a := .int (1 + v)) (st := TP t2 (more ++ [.lst []])) rfl ⟨(1 + v).toNat, by rw [Int.toNat_of_nonneg (by omega)], by omega, by omega, t2, [], .ref (more.length + 3 + 0), j6, j11, rfl, g2.cut g, rfl, by simp, by simp, rfl, fun t => TP_lst (k := 0) rfl⟩
    · rintro N k _ _ hk ⟨hN, t, fs, d, j6, j11, rfl, gt, rfl, hfs, hfl, _, hl⟩
      show sat (Res.bind (Res.ok [some (.ref 1), a1, some (.int n), a3, some (.lst ((allR n).map iT)), some d, some (D.int (k : Int)), some (iT asked), j8, j9, j10, j11, j12, j13] _) _) _
      rw [bind_ok]
      have gp : OT t (more ++ [.lst []]) := gt.pushL rfl
      refine sw_asg (sw_bin (sw_var rfl (sw_compIt (sw_call0 (sw_acons (pick_rows rfl rfl hn gp fun r t2 hr g2 => sw_anil ⟨rfl, ?_⟩))))))
      refine sw_pure (os := []) (law_below_ev hr hn) g2.cg ⟨rfl, ?_⟩
      have hbl := belowR_len (r := r)
      rw [hr.len] at hbl
      have hb64 : (belowR r).length ≤ 64 := Nat.le_trans hbl (Nat.pow_le_pow_right (n := 2) (by decide) hn)
      refine sw_pure (os := []) (a := .lst (((belowR r).map fun b => flipS b asked).map iT)) ?_ g2.cg ?_
      · refine ev_eq (a := .lst ((belowR r).map fun b => iT (flipS b asked))) ?_ (by rw [List.map_map]; rfl)
        have hbr := belowR_row hr.len
        rfl'
        exact (hbr _ (by assumption)).sz hn
      · refine sw_eq (add_lst (hl t2) rfl (by simp only [List.length_map]; omega)) ⟨hN, t2, fs ++ (belowR r).map fun b => flipS b asked, .lst (fs.map iT ++ ((belowR r).map fun b => flipS b asked).map iT), _, _, rfl, g2.cut g, rfl, fun q hq => ?_, ?_, rfl, fun t => ?_⟩
        · rcases List.mem_append.mp hq with q1 | q1
          · exact hfs q q1
          · exact flip_rows (belowR_row hr.len) q q1
        · rw [List.length_append, List.length_map]
          omega
        · show some _ = _
          simp
    · rintro N _ _ ⟨hN, t, fs, d, j6, j11, rfl, gt, rfl, hfs, hfl, _, hl⟩
      exact ⟨rfl, t, [.lst []], d, fs, _, _, _, _, _, _, _, _, rfl, gt, rfl, hl t, hfs⟩
theorem lot_A4 {more : Store} {n : Nat} {a1 a3 : Option D} {t : Tape} {j5 j6 j7 j8 j9 j10 j11 j12 j13 : Option D} (g : OT t more) (hp : 2 ≤ n) (hn : n ≤ 6) :
    sat (sSeq (sAsg (mBin opAdd (mC (.int 1)) (mCall (arity 2 F__law_draw) [] (aCons (mVar 0) (aCons (mBin opSub (mVar 2) (mC (.int 1))) aNil)))) (gmName 8))
  (sSeq (sPar 9 10 (aCons (closeE (mComp (mIt (fSeq FU) (mCall (arity 1 F__law_rows) [] (aCons (mVar 8) aNil))) (tgName 11) (mTest (mBin opGtI (mCall (arity 2 F__law_draw) [] (aCons (mVar 0) (aCons (mC (.int 3)) aNil))) (mC (.int 0)))) (mVar 11) [11])) (aCons (closeE (mComp (mIt (fSeq FU) (mCall (arity 1 F__law_rows) [] (aCons (mBin opSub (mVar 2) (mVar 8)) aNil))) (tgName 11) (mTest (mBin opEq (mCall (arity 2 F__law_draw) [] (aCons (mVar 0) (aCons (mC (.int 2)) aNil))) (mC (.int 0)))) (mVar 11) [11])) aNil)))
  (sSeq (sAsg (mNew aNil) (gmName 5))
  (sFor (mIt (fSeq FU) (mVar 9)) (gmName 11)
  (sAsg (mBin opAdd (mVar 5) (closeE (mComp (mIt (fSeq FU) (mVar 10)) (tgName 13) mTrue (mBin opAdd (mVar 11) (mVar 13)) [13]))) (gmName 5))))) [some (.ref 1), a1, some (.int n), a3, some (.lst ((allR n).map iT)), j5, j6, j7, j8, j9, j10, j11, j12, j13] (TP t more)) fun r s => r.1 = .nx ∧ L5 more n a1 a3 r.2 s := by
  have hz := sz_val
  refine sw_seq (sw_asg (sw_bin (sw_c (sw_call0 (sw_acons (sw_var rfl (sw_acons (sw_pure (os := []) (a := .int ((n : Int) - 1)) (by rfl') g.cg (sw_anil ⟨rfl, ?_⟩)))))))))
  refine sw_draw g (by omega) (by omega) fun v t1 v0 v1 g1 => ?_
  obtain ⟨c, rfl⟩ := Int.eq_ofNat_of_zero_le v0
  have hc : c + 1 < n := by omega
  refine sw_eq (a := .int ((c + 1 : Nat) : Int)) (st := TP t1 more) (by rw [show ((c + 1 : Nat) : Int) = 1 + (c : Int) by omega]; rfl) ?_
  show sat (sSeq _ _ [some (.ref 1), a1, some (.int n), a3, some (.lst ((allR n).map iT)), j5, j6, j7, some (.int ((c + 1 : Nat) : Int)), j9, j10, j11, j12, j13] (TP t1 more)) _
  have r1 := rows_sz (n := c + 1) (by omega)
  have r2 := rows_sz (n := n - (c + 1)) (by omega)
  rw [List.length_map] at r1 r2
  have e1 : sat (aCons (closeE (mComp (mIt (fSeq FU) (mCall (arity 1 F__law_rows) [] (aCons (mVar 8) aNil))) (tgName 11) (mTest (mBin opGtI (mCall (arity 2 F__law_draw) [] (aCons (mVar 0) (aCons (mC (.int 3)) aNil))) (mC (.int 0)))) (mVar 11) [11])) (aCons (closeE (mComp (mIt (fSeq FU) (mCall (arity 1 F__law_rows) [] (aCons (mBin opSub (mVar 2) (mVar 8)) aNil))) (tgName 11) (mTest (mBin opEq (mCall (arity 2 F__law_draw) [] (aCons (mVar 0) (aCons (mC (.int 2)) aNil))) (mC (.int 0)))) (mVar 11) [11])) aNil) [some (.ref 1), a1, some (.int n), a3, some (.lst ((allR n).map iT)), j5, j6, j7, some (.int ((c + 1 : Nat) : Int)), j9, j10, j11, j12, j13] (TP t1 more)) fun ds s => ∃ (t : Tape) (x y : List (List Int)), ds = [.lst (x.map iT), .lst (y.map iT)] ∧ OT t more ∧ s = TP t more ∧ (∀ r ∈ x, IsRow (c + 1) r) ∧ (∀ r ∈ y, IsRow (n - (c + 1)) r) ∧ x.length ≤ 64 ∧ y.length ≤ 64 := by
    refine sw_acons (sw_PT (comp_tapeF (ys := allR (c + 1)) (h := iT) (f := iT) (E := fun r => [some (.ref 1), a1, some (.int n), a3, some (.lst ((allR n).map iT)), j5, j6, j7, some (.int ((c + 1 : Nat) : Int)), j9, j10, some (iT r), j12, j13]) g1 ?_ (fun _ _ => rfl) (by omega) (fun r hr t' more' g' => draw_gt0 rfl (by decide) (by decide) g') (fun _ _ => ev_var rfl) (fun _ _ => bnd_iT)) ?_)
    · exact evi_lst (ev_call0 (ds := [.int ((c + 1 : Nat) : Int)]) (by rfl') (law_rows_ev (by omega)) rfl)
    rintro _ t2 ⟨x, hx, rfl⟩ g2
    refine sw_acons (sw_PT (comp_tapeF (ys := allR (n - (c + 1))) (h := iT) (f := iT) (E := fun r => [some (.ref 1), a1, some (.int n), a3, some (.lst ((allR n).map iT)), j5, j6, j7, some (.int ((c + 1 : Nat) : Int)), j9, j10, some (iT r), j12, j13]) g2 ?_ (fun _ _ => rfl) (by omega) (fun r hr t' more' g' => draw_eq0 rfl (by decide) (by decide) g') (fun _ _ => ev_var rfl) (fun _ _ => bnd_iT)) ?_)
    · exact evi_lst (ev_call0 (ds := [.int ((n - (c + 1) : Nat) : Int)]) (ev_cons (ev_eq (a := .int ((n : Int) - ((c + 1 : Nat) : Int))) (by rfl') (by congr 1; omega)) ev_nil) (law_rows_ev (by omega)) rfl)
    rintro _ t3 ⟨y, hy, rfl⟩ g3
    exact sw_anil ⟨t3, x, y, rfl, g3, rfl, fun r hr => mem_allR.mp (hx.subset hr), fun r hr => mem_allR.mp (hy.subset hr), Nat.le_trans hx.length_le r1, Nat.le_trans hy.length_le r2⟩
  obtain ⟨ds, s, e2, t2, x, y, rfl, g2, rfl, hx, hy, lx, ly⟩ := sat_iff.mp e1
  have e3 : sPar 9 10 (aCons (closeE (mComp (mIt (fSeq FU) (mCall (arity 1 F__law_rows) [] (aCons (mVar 8) aNil))) (tgName 11) (mTest (mBin opGtI (mCall (arity 2 F__law_draw) [] (aCons (mVar 0) (aCons (mC (.int 3)) aNil))) (mC (.int 0)))) (mVar 11) [11])) (aCons (closeE (mComp (mIt (fSeq FU) (mCall (arity 1 F__law_rows) [] (aCons (mBin opSub (mVar 2) (mVar 8)) aNil))) (tgName 11) (mTest (mBin opEq (mCall (arity 2 F__law_draw) [] (aCons (mVar 0) (aCons (mC (.int 2)) aNil))) (mC (.int 0)))) (mVar 11) [11])) aNil)) [some (.ref 1), a1, some (.int n), a3, some (.lst ((allR n).map iT)), j5, j6, j7, some (.int ((c + 1 : Nat) : Int)), j9, j10, j11, j12, j13] (TP t1 more) = .ok (.nx, [some (.ref 1), a1, some (.int n), a3, some (.lst ((allR n).map iT)), j5, j6, j7, some (.int ((c + 1 : Nat) : Int)), some (.lst (x.map iT)), some (.lst (y.map iT)), j11, j12, j13]) (TP t2 more) := by
    unfold sPar
    rw [e2]
    rfl
  refine sw_seq (sw_eq e3 ?_)
  refine sw_seq (sw_asg (sw_new (sw_anil ⟨by simp, ?_⟩)))
  show sat (sFor _ _ _ [some (.ref 1), a1, some (.int n), a3, some (.lst ((allR n).map iT)), some (.ref (more.length + 3 + 0)), j6, j7, some (.int ((c + 1 : Nat) : Int)), some (.lst (x.map iT)), some (.lst (y.map iT)), j11, j12, j13] (TP t2 (more ++ [.lst []]))) _
  have gp : OT t2 (more ++ [.lst []]) := g2.pushL rfl
  refine sw_for (os := []) (ys := x) (h := iT) (fun k ρ s => ∃ (fs : List (List Int)) (d : D) (j11 : Option D), ρ = [some (.ref 1), a1, some (.int n), a3, some (.lst ((allR n).map iT)), some d, j6, j7, some (.int ((c + 1 : Nat) : Int)), some (.lst (x.map iT)), some (.lst (y.map iT)), j11, j12, j13] ∧ s = TP t2 (more ++ [.lst []]) ∧ (∀ r ∈ fs, IsRow n r) ∧ fs.length ≤ 64 * k ∧ ∀ t, lstOf (TP t (more ++ [.lst []])) d = some (fs.map iT)) (by rfl') ?_ ⟨[], _, _, rfl, rfl, by simp, by simp, fun t => TP_lst (k := 0) rfl⟩ ?_ ?_
  · rintro _ _ _ ⟨_, _, _, _, rfl, _⟩
    exact gp.cg
  · rintro k r _ _ er ⟨fs, d, j11, rfl, rfl, hfs, hfl, hl⟩
    have hk : k < x.length := (List.getElem?_eq_some_iff.mp er).1
    have hr := hx r (List.mem_of_getElem? er)
    have hrl := hr.len
    show sat (Res.bind (Res.ok [some (.ref 1), a1, some (.int n), a3, some (.lst ((allR n).map iT)), some d, j6, j7, some (.int ((c + 1 : Nat) : Int)), some (.lst (x.map iT)), some (.lst (y.map iT)), some (iT r), j12, j13] _) _) _
    rw [bind_ok]
    refine sw_asg (sw_bin (sw_var rfl (sw_pure (os := []) (a := .lst ((y.map fun q => r ++ q).map iT)) ?_ gp.cg ?_)))
    · refine ev_eq (a := .lst (y.map fun q => .tup (r.map D.int ++ q.map D.int))) ?_ (by rw [List.map_map]; simp [Function.comp_def])
      rfl'
      · rename_i q hq
        have := (hy q hq).len
        simp only [List.length_map]
        omega
      · intro q hq
        show bndL 0 _ = true
        rw [← List.map_append]
        exact bnd_ints
    · refine sw_eq (add_lst (hl t2) rfl (by simp only [List.length_map]; omega)) ⟨fs ++ y.map fun q => r ++ q, .lst (fs.map iT ++ (y.map fun q => r ++ q).map iT), _, rfl, rfl, fun q hq => ?_, ?_, fun t => ?_⟩
      · rcases List.mem_append.mp hq with q1 | q1
        · exact hfs q q1
        · obtain ⟨z, hz', rfl⟩ := List.mem_map.mp q1
          have := hy z hz'
          exact ⟨by rw [List.length_append, hrl, this.len]; omega, fun a ha => by
            rcases List.mem_append.mp ha with w | w
            · exact hr.bit a w
            · exact this.bit a w⟩
      · rw [List.length_append, List.length_map]
        omega
      · show some _ = _
        simp
  · rintro _ _ ⟨fs, d, j11, rfl, rfl, hfs, hfl, hl⟩
    exact ⟨rfl, t2, [.lst []], d, fs, _, _, _, _, _, _, _, _, rfl, g2, rfl, hl t2, hfs⟩
theorem lot_A5 {more : Store} {n : Nat} {a1 a3 : Option D} {t : Tape} {j5 j6 j7 j8 j9 j10 j11 j12 j13 : Option D} (g : OT t more) (hn : n ≤ 6) :
    sat (sAsg (mCall (arity 2 F__law_pick) [] (aCons (mVar 0) (aCons (mLst (aCons (mVar 4) (aCons (mLst aNil) (aCons (mLst (aCons (mCall (arity 2 F__law_pick) [] (aCons (mVar 0) (aCons (mVar 4) aNil))) aNil)) (aCons (mLst (aCons (mCall (arity 2 F__law_pick) [] (aCons (mVar 0) (aCons (mVar 4) aNil))) (aCons (mCall (arity 2 F__law_pick) [] (aCons (mVar 0) (aCons (mVar 4) aNil))) aNil))) aNil))))) aNil))) (gmName 5) [some (.ref 1), a1, some (.int n), a3, some (.lst ((allR n).map iT)), j5, j6, j7, j8, j9, j10, j11, j12, j13] (TP t more)) fun r s => r.1 = .nx ∧ L5 more n a1 a3 r.2 s := by
  have hz := sz_val
  refine sw_asg (sw_call0 (sw_acons (sw_var rfl (sw_acons (sw_lst (sw_acons (sw_var rfl (sw_acons (sw_lst (sw_anil ⟨by simp, sw_acons (sw_lst (sw_acons (pick_rows rfl rfl hn g fun p1 t1 h1 g1 => sw_anil ⟨by simp only [List.length_cons, List.length_nil]; omega, ?_⟩)))⟩))))))))))
  refine sw_acons (sw_lst (sw_acons (pick_rows rfl rfl hn g1 fun p2 t2 h2 g2 => sw_acons (pick_rows rfl rfl hn g2 fun p3 t3 h3 g3 => sw_anil ⟨by simp only [List.length_cons, List.length_nil]; omega, ?_⟩))))
  refine sw_anil ⟨by simp only [List.length_cons, List.length_nil]; omega, sw_anil ⟨rfl, ?_⟩⟩
  refine sw_pick g3 rfl (by simp) (by simp only [List.length_cons, List.length_nil]; omega) (fun y hy => ?_) fun y t4 hy g4 => ?_
  · simp only [List.mem_cons, List.not_mem_nil, or_false] at hy
    rcases hy with rfl | rfl | rfl | rfl
    · exact bnd_rows
    · rfl
    · exact bnd_rows (rs := [p1])
    · exact bnd_rows (rs := [p2, p3])
  · have hy2 : ∃ fs : List (List Int), y = .lst (fs.map iT) ∧ ∀ r ∈ fs, IsRow n r := by
      simp only [List.mem_cons, List.not_mem_nil, or_false] at hy
      rcases hy with rfl | rfl | rfl | rfl
      · exact ⟨allR n, rfl, fun r hr => mem_allR.mp hr⟩
      · exact ⟨[], rfl, by simp⟩
      · exact ⟨[p1], rfl, fun r hr => by rw [List.mem_singleton.mp hr]; exact h1⟩
      · refine ⟨[p2, p3], rfl, fun r hr => ?_⟩
        simp only [List.mem_cons, List.not_mem_nil, or_false] at hr
        rcases hr with rfl | rfl
        · exact h2
        · exact h3
    obtain ⟨fs, rfl, hfs⟩ := hy2
    exact ⟨rfl, t4, [], _, fs, j6, j7, j8, j9, j10, j11, j12, j13, rfl, g4, by rw [List.append_nil], rfl, hfs⟩
/-- a drawn lot -/
theorem sw_lot {t : Tape} {more : Store} {most : Nat} {Q : D → Store → Prop} (g : OT t more) (hm : 1 ≤ most) (h6 : most ≤ 6) (h : ∀ n rs t', n ≤ most → IsLot n rs → OT t' more → Q (lotT n rs) (TP t' more)) : sat (F__law_lot [.ref 1, .int most] (TP t more)) Q := by
  refine sw_PT (P := fun d => ∃ n rs, n ≤ most ∧ IsLot n rs ∧ d = lotT n rs) (tp_fn ?_) (by rintro _ t' ⟨n, rs, hn, hl, rfl⟩ g'; exact h n rs t' hn hl g')
  unfold m__law_lot
  have hz := sz_val
  have e1 : sat (aCons (mBin opAdd (mC (.int 1)) (mCall (arity 2 F__law_draw) [] (aCons (mVar 0) (aCons (mVar 1) aNil)))) (aCons (mCall (arity 2 F__law_draw) [] (aCons (mVar 0) (aCons (mC (.int 8)) aNil))) aNil) (startE 14 [.ref 1, .int most]) (TP t more)) fun ds s => ∃ (t : Tape) (n : Nat) (turn : Int), ds = [.int n, .int turn] ∧ OT t more ∧ s = TP t more ∧ 1 ≤ n ∧ n ≤ most ∧ 0 ≤ turn ∧ turn < 8 := by
    refine sw_acons (sw_bin (sw_c (sw_call0 (sw_acons (sw_var rfl (sw_acons (sw_var rfl (sw_anil ⟨rfl, ?_⟩))))))))
    refine sw_draw g (by omega) (by omega) fun v t1 v0 v1 g1 => ?_
    obtain ⟨c, rfl⟩ := Int.eq_ofNat_of_zero_le v0
    refine sw_eq (a := .int ((c + 1 : Nat) : Int)) (st := TP t1 more) (by rw [show ((c + 1 : Nat) : Int) = 1 + (c : Int) by omega]; rfl) ?_
    refine sw_acons (draw_c rfl (by decide) (by decide) g1 fun w t2 w0 w1 g2 => sw_anil ⟨t2, c + 1, w, rfl, g2, rfl, by omega, by omega, w0, w1⟩)
  obtain ⟨ds, s, e2, t1, n, turn, rfl, g1, rfl, n1, nm, tu0, tu1⟩ := sat_iff.mp e1
  have hn : n ≤ 6 := by omega
  have e3 : sPar 2 3 (aCons (mBin opAdd (mC (.int 1)) (mCall (arity 2 F__law_draw) [] (aCons (mVar 0) (aCons (mVar 1) aNil)))) (aCons (mCall (arity 2 F__law_draw) [] (aCons (mVar 0) (aCons (mC (.int 8)) aNil))) aNil)) (startE 14 [.ref 1, .int most]) (TP t more) = .ok (.nx, [some (.ref 1), some (.int most), some (.int n), some (.int turn), none, none, none, none, none, none, none, none, none, none]) (TP t1 more) := by
    unfold sPar
    rw [e2]
    rfl
  refine sw_seq (sw_eq e3 ?_)
  refine sw_seq (sw_asg (sw_pure (os := []) (ev_call0 (ds := [.int n]) (by rfl') (law_rows_ev hn) rfl) g1.cg ?_))
  show sat (sSeq _ _ [some (.ref 1), some (.int most), some (.int n), some (.int turn), some (.lst ((allR n).map iT)), none, none, none, none, none, none, none, none, none] (TP t1 more)) _
  refine sw_sq (P := L5 more n (some (.int most)) (some (.int turn))) ?_ ?_
  · refine sw_if (sw_pure (os := []) (ev_test (ev_bin (f := opEq) (ρ := [some (.ref 1), some (.int most), some (.int n), some (.int turn), some (.lst ((allR n).map iT)), none, none, none, none, none, none, none, none, none]) (d1 := .int turn) (d2 := .int 0) (ev_var rfl) ev_c (evo_eq rfl rfl))) g1.cg ⟨fun _ => lot_A01 g1 hn (by decide) (by decide), fun _ => ?_⟩)
    refine sw_if (sw_pure (os := []) (ev_test (ev_bin (f := opEq) (ρ := [some (.ref 1), some (.int most), some (.int n), some (.int turn), some (.lst ((allR n).map iT)), none, none, none, none, none, none, none, none, none]) (d1 := .int turn) (d2 := .int 1) (ev_var rfl) ev_c (evo_eq rfl rfl))) g1.cg ⟨fun _ => lot_A01 g1 hn (by decide) (by decide), fun _ => ?_⟩)
    refine sw_if (sw_pure (os := []) (ev_test (ev_bin (f := opLtI) (ρ := [some (.ref 1), some (.int most), some (.int n), some (.int turn), some (.lst ((allR n).map iT)), none, none, none, none, none, none, none, none, none]) (ev_var rfl) ev_c evo_lt)) g1.cg ⟨fun _ => lot_A2 g1 n1 hn, fun _ => ?_⟩)
    refine sw_if (sw_pure (os := []) (ev_test (ev_bin (f := opLtI) (ρ := [some (.ref 1), some (.int most), some (.int n), some (.int turn), some (.lst ((allR n).map iT)), none, none, none, none, none, none, none, none, none]) (ev_var rfl) ev_c evo_lt)) g1.cg ⟨fun _ => lot_A3 g1 n1 hn, fun _ => ?_⟩)
    refine sw_if (sw_pure (os := []) (a := deq (.int turn) (.int 6) && decide ((1 : Int) < n)) (ev_tand (ev_test (ev_bin (f := opEq) (d1 := .int turn) (d2 := .int 6) (ev_var rfl) ev_c (evo_eq rfl rfl))) fun _ => ev_test (ev_bin (f := opGtI) (ev_var rfl) ev_c evo_gt)) g1.cg ⟨fun hb => ?_, fun _ => lot_A5 g1 hn⟩)
    simp only [Bool.and_eq_true, decide_eq_true_eq] at hb
    exact lot_A4 g1 (by omega) hn
  · rintro _ _ ⟨t2, l, d, fs, j6, j7, j8, j9, j10, j11, j12, j13, rfl, g2, rfl, hl, hfs⟩
    obtain ⟨e4, il⟩ := sortset_lot hl n1 hn hfs
    have e5 : mTup (aCons (mVar 2) (aCons (mCB bTuple (aCons (mCB bSortSet (aCons (mVar 5) aNil)) aNil)) aNil)) [some (.ref 1), some (.int most), some (.int n), some (.int turn), some (.lst ((allR n).map iT)), some d, j6, j7, j8, j9, j10, j11, j12, j13] (TP t2 (more ++ l)) = .ok (lotT n (srt fs.eraseDups)) (TP t2 (more ++ l)) := e_tup (a_cons rfl (a_cons (e_cb (a_cons (e_cb (a_cons rfl rfl) e4) rfl) rfl) rfl)) (by simp only [List.length_cons, List.length_nil]; omega)
    refine sw_ret (sw_eq e5 ⟨_, t2, l, rfl, ?_, ⟨n, _, nm, il, rfl⟩, g2, rfl⟩)
    show (bnd 0 (D.int n) && (bnd 0 (.tup ((srt fs.eraseDups).map iT)) && true)) = true
    rw [show bnd 0 (.tup ((srt fs.eraseDups).map iT)) = true from bnd_rows]
    rfl
end Lk63
set_option maxRecDepth 100000
set_option maxHeartbeats 2000000
namespace Lk63
open SL PySem
local macro_rules | `(tactic| nofun) => `(tactic| first | ((with_reducible apply nat_le_g) <;> first | (show (_ : Prop); assumption) | (have hz := sz_val; (try simp only [Int.toNat_natCast, List.length_cons, List.length_nil, List.length_map, List.length_append, List.length_range, List.length_zip, List.length_zipIdx, List.length_replicate]); omega) | skip) | ((with_reducible apply nat_lt_g) <;> first | (show (_ : Prop); assumption) | (have hz := sz_val; (try simp only [Int.toNat_natCast, List.length_cons, List.length_nil, List.length_map, List.length_append, List.length_range, List.length_zip, List.length_zipIdx, List.length_replicate]); omega) | skip) | ((with_reducible apply int_le_g) <;> first | (show (_ : Prop); assumption) | (have hz := sz_val; (try simp only [Int.toNat_natCast, List.length_cons, List.length_nil, List.length_map, List.length_append, List.length_range, List.length_zip, List.length_zipIdx, List.length_replicate]); omega) | skip) | ((with_reducible apply int_lt_g) <;> first | (show (_ : Prop); assumption) | (have hz := sz_val; (try simp only [Int.toNat_natCast, List.length_cons, List.length_nil, List.length_map, List.length_append, List.length_range, List.length_zip, List.length_zipIdx, List.length_replicate]); omega) | skip) | ((with_reducible apply okR_le) <;> first | omega | skip) | rfl' | (intro _; rfl') | (intro _ _; rfl') | (intro _ _ _; rfl') | (intro _ _; exact bnd_ints) | (intro _ _; exact bnd_ite rfl rfl) | (intro _ _; exact bnd_iT) | exact bnd_ints | exact rfl | exact mapId_ | exact okP_iT | exact okPL_iT | exact okPL_int | exact okPL_intf | exact okK_iT | exact okK_int | (intro _ _; exact okK_iT) | (intro _ _; exact okK_int) | ((with_reducible apply okP_ite) <;> first | exact rfl | exact okP_iT | nofun) | ((with_reducible apply okP_tmap) <;> nofun) | (intro _ _; exact okP_ite rfl rfl) | (intro _ _; exact okP_iT) | (intro _ _; exact rfl) | (show (_ : Prop); assumption) | decide | (intro _ _; exact rfl) | (intro _ _ _; exact rfl) | (intro _ _; exact bnd_iT) | (intro _ _ _; exact bnd_iT) | (intros; have hz := sz_val; (try simp only [Int.toNat_natCast, List.length_cons, List.length_nil, List.length_map, List.length_append, List.length_range, List.length_zip, List.length_zipIdx]); omega) | skip)
local macro_rules | `(tactic| rfl') => `(tactic| first
  | with_reducible assumption
  | with_reducible exact ev_pno
  | with_reducible exact evo_sl_t
  | with_reducible exact evo_sl_l
  | with_reducible exact ev_nil
  | with_reducible exact ev_c
  | with_reducible exact evo_add_int
  | with_reducible exact evo_sub_int
  | with_reducible exact evo_lt
  | with_reducible exact evo_le
  | with_reducible exact evo_gt
  | with_reducible exact evo_ge
  | with_reducible exact evo_isN
  | with_reducible exact evo_notN
  | with_reducible exact evo_neg
  | with_reducible exact evb_len_t
  | with_reducible exact evb_len_l
  | with_reducible exact evb_len_d
  | with_reducible exact evb_tuple_l
  | with_reducible exact evb_tuple_t
  | with_reducible exact evb_list_l
  | with_reducible exact evb_list_t
  | with_reducible exact evb_int
  | with_reducible exact evb_abs
  | with_reducible exact evb_all
  | with_reducible exact evb_any
  | with_reducible exact evb_sum
  | with_reducible exact evb_min2
  | with_reducible exact evb_max2
  | (with_reducible apply ev_fn) <;> nofun
  | (with_reducible apply ev_cons) <;> nofun
  | (with_reducible apply ev_tup) <;> nofun
  | (with_reducible apply ev_lst) <;> nofun
  | (with_reducible apply ev_bin) <;> nofun
  | (with_reducible apply ev_un) <;> nofun
  | (with_reducible apply ev_cb) <;> nofun
  | (with_reducible apply ev_call0) <;> nofun
  | (with_reducible apply ev_call11) <;> nofun
  | (with_reducible apply ev_call21) <;> nofun
  | (with_reducible apply ev_callK1) <;> nofun
  | (with_reducible apply ev_callK2) <;> nofun
  | (with_reducible apply ev_callK2') <;> nofun
  | (with_reducible apply ev_callK3) <;> nofun
  | (with_reducible apply ev_prop0) <;> nofun
  | (with_reducible apply ev_methO0) <;> nofun
  | (with_reducible apply ev_test) <;> nofun
  | (with_reducible apply ev_tnot) <;> nofun
  | (with_reducible apply ev_tand) <;> nofun
  | (with_reducible apply ev_tor) <;> nofun
  | (with_reducible apply ev_and) <;> nofun
  | (with_reducible apply ev_or) <;> nofun
  | (with_reducible apply ev_not) <;> nofun
  | (with_reducible apply ev_if) <;> nofun
  | (with_reducible apply ev_chain) <;> nofun
  | (with_reducible apply ev_comp_t) <;> nofun
  | (with_reducible apply ev_comp) <;> nofun
  | (with_reducible apply evr_ret) <;> nofun
  | (with_reducible apply evr_asg) <;> nofun
  | (with_reducible apply evr_expr) <;> nofun
  | (with_reducible apply evr_ifr) <;> nofun
  | (with_reducible apply evi_rng1) <;> nofun
  | (with_reducible apply evi_rng2) <;> nofun
  | (with_reducible apply evi_seqG) <;> nofun
  | (with_reducible apply evi_enumG) <;> nofun
  | (with_reducible apply evi_zipG) <;> nofun
  | (with_reducible apply ev_sl) <;> nofun
  | (with_reducible apply ev_psome) <;> nofun
  | (with_reducible apply ev_sexpr) <;> nofun
  | (with_reducible apply ev_sseq) <;> nofun
  | (with_reducible apply ev_sifn) <;> nofun
  | (with_reducible apply ev_sasg) <;> nofun
  | (with_reducible apply evr_snil) <;> nofun
  | (with_reducible apply evr_assoc) <;> nofun
  | (with_reducible apply evb_sorted_keys) <;> nofun
  | (with_reducible apply evb_sortedI) <;> nofun
  | (with_reducible apply ev_dcomp_t) <;> nofun
  | (with_reducible apply ev_dcomp) <;> nofun
  | (with_reducible apply ev_var) <;> nofun
  | (with_reducible apply evo_add_tup) <;> nofun
  | (with_reducible apply evo_add_lst) <;> nofun
  | (with_reducible apply evo_eq) <;> nofun
  | (with_reducible apply evo_ne) <;> nofun
  | (with_reducible apply evo_in) <;> nofun
  | (with_reducible apply evo_notIn) <;> nofun
  | (with_reducible apply evb_min) <;> nofun
  | (with_reducible apply evb_max) <;> nofun
  | (with_reducible apply evb_rngF) <;> nofun
  | (with_reducible apply evo_mod) <;> nofun
  | (with_reducible apply evo_div) <;> nofun
  | (with_reducible apply evo_fld) <;> nofun
  | (with_reducible apply evo_isa) <;> nofun
  | (with_reducible apply evo_ix_t) <;> nofun
  | (with_reducible apply evo_ix_l) <;> nofun
  | (with_reducible apply evo_ix) <;> nofun
  | (with_reducible apply evo_mul_int) <;> nofun)
local macro_rules | `(tactic| nofun) => `(tactic| with_reducible exact okP_oI)
local macro_rules | `(tactic| nofun) => `(tactic| with_reducible exact okPL_oI)
local macro_rules | `(tactic| nofun) => `(tactic| with_reducible exact bnd_oI)
local macro_rules | `(tactic| nofun) => `(tactic| with_reducible exact okP_told)
local macro_rules | `(tactic| rfl') => `(tactic| (with_reducible apply lot_fld0) <;> nofun)
local macro_rules | `(tactic| rfl') => `(tactic| (with_reducible apply lot_fld1) <;> nofun)
local macro_rules | `(tactic| rfl') => `(tactic| (with_reducible apply lot_fld2) <;> nofun)
local macro_rules | `(tactic| rfl') => `(tactic| (with_reducible apply is_number_ev) <;> nofun)
local macro_rules | `(tactic| rfl') => `(tactic| (with_reducible apply is_between_ev) <;> nofun)
local macro_rules | `(tactic| rfl') => `(tactic| (with_reducible apply is_list_ev) <;> nofun)
local macro_rules | `(tactic| rfl') => `(tactic| (with_reducible apply is_tuple_of_tup) <;> nofun)
local macro_rules | `(tactic| rfl') => `(tactic| (with_reducible apply is_row_tup) <;> nofun)
local macro_rules | `(tactic| rfl') => `(tactic| (with_reducible apply pow18) <;> nofun)
local macro_rules | `(tactic| rfl') => `(tactic| (with_reducible apply law_rows_ev) <;> nofun)
local macro_rules | `(tactic| rfl') => `(tactic| (with_reducible apply lies_in_ev) <;> nofun)
local macro_rules | `(tactic| rfl') => `(tactic| (with_reducible apply law_lies_ev) <;> nofun)
local macro_rules | `(tactic| rfl') => `(tactic| (with_reducible apply lot_rows_ev) <;> nofun)
local macro_rules | `(tactic| rfl') => `(tactic| (with_reducible apply lot_places_ev) <;> nofun)
local macro_rules | `(tactic| rfl') => `(tactic| (with_reducible apply need_lot_ev) <;> nofun)
local macro_rules | `(tactic| rfl') => `(tactic| (with_reducible apply is_told_yes) <;> nofun)
local macro_rules | `(tactic| rfl') => `(tactic| (with_reducible apply need_told_ev) <;> nofun)
local macro_rules | `(tactic| rfl') => `(tactic| (with_reducible apply fewest_lies_ev) <;> nofun)
local macro_rules | `(tactic| rfl') => `(tactic| (with_reducible apply left_by_ev) <;> nofun)
local macro_rules | `(tactic| rfl') => `(tactic| (with_reducible apply need_lies_ev) <;> nofun)
local macro_rules | `(tactic| rfl') => `(tactic| (with_reducible apply need_told_lies_ev) <;> nofun)
local macro_rules | `(tactic| rfl') => `(tactic| (with_reducible apply left_with_ev) <;> nofun)
local macro_rules | `(tactic| rfl') => `(tactic| (with_reducible apply wrong_places_ev) <;> nofun)
local macro_rules | `(tactic| rfl') => `(tactic| (with_reducible apply lies_told_ev) <;> nofun)
local macro_rules | `(tactic| rfl') => `(tactic| (with_reducible apply sure_with_ev) <;> nofun)
local macro_rules | `(tactic| rfl') => `(tactic| (with_reducible apply law_is_of_lot) <;> nofun)
local macro_rules | `(tactic| rfl') => `(tactic| (with_reducible apply law_is_of_told) <;> nofun)
local macro_rules | `(tactic| rfl') => `(tactic| (with_reducible apply law_is_of_number) <;> nofun)
local macro_rules | `(tactic| rfl') => `(tactic| (with_reducible apply law_flip_ev) <;> nofun)
local macro_rules | `(tactic| rfl') => `(tactic| (with_reducible apply lotT_ix0) <;> nofun)
local macro_rules | `(tactic| rfl') => `(tactic| (with_reducible apply lotT_ix1) <;> nofun)
local macro_rules | `(tactic| rfl') => `(tactic| (with_reducible apply law_told_right_ev) <;> nofun)
local macro_rules | `(tactic| rfl') => `(tactic| (with_reducible apply law_below_ev) <;> nofun)
local macro_rules | `(tactic| rfl') => `(tactic| (with_reducible apply law_made_ev) <;> nofun)
local macro_rules | `(tactic| rfl') => `(tactic| with_reducible assumption)
-- _law_errors_right
theorem isT_reps {n : Nat} : IsTold n (List.replicate n none) := ⟨by simp, fun a ha => .inl (List.eq_of_mem_replicate ha)⟩
theorem need_told_lies_x1 {os} {d x y : D} (h : noLot d = true) : EvX os (F_need_told_lies [d, x, y]) 4 [.non] := by
  unfold F_need_told_lies m_need_told_lies
  exact evx_fn (evx_seq1 (evx_sexpr (evx_call11 (by rfl') (need_lot_no h rfl)))) rfl
theorem need_told_lies_x2 {os} {n : Nat} {rs : List (List Int)} {x y : D} (h : Ev os (F_is_told [.int n, x]) (.bl false)) : EvX os (F_need_told_lies [lotD n rs, x, y]) 16 [] := by
  unfold F_need_told_lies m_need_told_lies
  exact evx_fn (evx_seq2 (ρ1 := startE 3 [lotD n rs, x, y]) (by rfl') (evx_seq1 (evx_sexpr (evx_call0 (by rfl') (need_told_no h) rfl)))) rfl
theorem need_told_lies_x3 {os} {n : Nat} {rs : List (List Int)} {told : List (Option Int)} {y : D} (h : IsTold n told) (hn : n ≤ 6) (hp : plainD y = true) (hb : betw 0 6 y = false) : EvX os (F_need_told_lies [lotD n rs, .tup (told.map oI), y]) 3 [.str "lies"] := by
  unfold F_need_told_lies m_need_told_lies
  exact evx_fn (evx_seq2 (ρ1 := startE 3 [lotD n rs, .tup (told.map oI), y]) (by rfl') (evx_seq2 (ρ1 := startE 3 [lotD n rs, .tup (told.map oI), y]) (by rfl') (evx_sexpr (evx_call0 (by rfl') (need_lies_no hp hb) rfl)))) rfl
/-- work that raises what need_told_lies raises -/
def Wk (F : CF) : Prop := ∀ os d x y c fs, EvX os (F_need_told_lies [d, x, y]) c fs → bndL 0 fs = true → EvX os (F [d, x, y]) c fs
theorem wk_left : Wk F_left_with := fun os d x y c fs h hb => by
  unfold F_left_with m_left_with
  exact evx_fn (evx_seq1 (evx_sexpr (evx_call0 (by rfl') h rfl))) hb
theorem wk_sure : Wk F_sure_with := fun os d x y c fs h hb => by
  unfold F_sure_with m_sure_with
  exact evx_fn (evx_seq1 (evx_sexpr (evx_call0 (by rfl') h rfl))) hb
theorem wk_told : Wk F_lies_told := fun os d x y c fs h hb => by
  unfold F_lies_told m_lies_told
  exact evx_fn (evx_seq1 (evx_sexpr (evx_call0 (by rfl') h rfl))) hb
def errs8 : List D := [.exc 4 [.non], .exc 16 [], .exc 16 [], .exc 16 [], .exc 16 [], .exc 3 [.str "lies"], .exc 3 [.str "lies"], .exc 3 [.str "lies"]]
theorem cg_last {st : Store} {xs : List D} (g : CG [] st) (hb : bndL 0 xs = true) : CG [(st.length, .lst xs)] (st ++ [.lst xs]) := g.new (bndL_mono (Nat.zero_le _) hb)
/-- one more of the found errors -/
theorem err_step {st : Store} {ρ : SL.Env} {xs : List D} {m : EM} {x : D} {k : SM} {Q : Fl × SL.Env → Store → Prop} (g : CG [] st) (hb : bndL 0 xs = true) (h4 : ρ[4]? = some (some (.ref st.length))) (hm : Ev [] (m ρ) x) (hl : xs.length < 100) (h : sat (k ρ (st ++ [.lst (xs ++ [x])])) Q) : sat (sSeq (sExpr (mMeth "list" fAppend (mVar 4) (aCons m aNil))) k ρ (st ++ [.lst xs])) Q := by
  have hz := sz_val
  refine sw_seq (sw_expr (sw_append (n := st.length) (xs := xs) ?_ lst_last (sw_acons (sw_pure hm (cg_last g hb).weak (sw_anil ⟨x, xs, rfl, lst_last, by omega, ?_⟩)))))
  · unfold mVar
    rw [h4]
  · rw [lst_set]
    exact h
theorem law_errors_right_ev {n : Nat} {rs : List (List Int)} (hp : 1 ≤ n) (hn : n ≤ 6) : Ev [] (F__law_errors_right [lotD n rs, .int n]) (.bl true) := by
  have hz := sz_val
  unfold F__law_errors_right m__law_errors_right
  refine ev_fnS (fun st g => ?_) rfl
  have erep : (.tup (List.replicate n .non) : D) = .tup ((List.replicate n none).map oI) := by simp [oI]
  refine sw_seq (sw_asg (sw_pure (os := []) (a := .tup ((List.replicate n none).map oI)) ?_ g ?_))
  · rw [← erep]
    exact ev_bin (ev_tup (ev_cons ev_c ev_nil) (by decide)) (ev_var rfl) (mul_tup1 (by omega))
  refine sw_sq (P := fun ρ s => (∃ a3 a4 a5 a6 : Option D, ρ = [some (lotD n rs), some (.int n), some (.tup ((List.replicate n none).map oI)), a3, a4, a5, a6]) ∧ s.take st.length = st ∧ CG [] s) ?_ ?_
  · refine sw_for (os := []) (ys := [D.fn 13, .fn 14, .fn 17]) (h := fun d => d) (fun k ρ s => (∃ a3 a4 a5 a6 : Option D, ρ = [some (lotD n rs), some (.int n), some (.tup ((List.replicate n none).map oI)), a3, a4, a5, a6]) ∧ s.take st.length = st ∧ CG [] s) ?_ ?_ ⟨⟨_, _, _, _, rfl⟩, List.take_length, g⟩ ?_ ?_
    · exact evi_seq0 (ev_lst (ev_cons ev_c (ev_cons ev_c (ev_cons ev_c ev_nil))) (by decide)) rfl
    · rintro _ _ _ ⟨_, _, h⟩
      exact h
    · rintro k y _ s ey ⟨⟨a3, a4, a5, a6, rfl⟩, hs, gs⟩
      have hy : ∃ j F, y = .fn j ∧ ([(13, arity 3 F_left_with), (14, arity 3 F_sure_with), (17, arity 3 F_lies_told)] : List (Nat × CF)).lookup j = some (arity 3 F) ∧ Wk F := by
        have hm := List.mem_of_getElem? ey
        simp only [List.mem_cons, List.not_mem_nil, or_false] at hm
        rcases hm with rfl | rfl | rfl
        · exact ⟨13, _, rfl, rfl, wk_left⟩
        · exact ⟨14, _, rfl, rfl, wk_sure⟩
        · exact ⟨17, _, rfl, rfl, wk_told⟩
      obtain ⟨j, F, rfl, hF, wk⟩ := hy
      show sat (Res.bind (Res.ok [some (lotD n rs), some (.int n), some (.tup ((List.replicate n none).map oI)), some (.fn j), a4, a5, a6] _) _) _
      rw [bind_ok]
      have ok4 : okC 4 = true := rfl
      have ok16 : okC 16 = true := rfl
      have ok3 : okC 3 = true := rfl
      have call : ∀ (ρ : SL.Env) (am : AM) (d x y : D) (c : Nat) (fs : List D), ρ[3]? = some (some (.fn j)) → Ev [] (am ρ) [d, x, y] → EvX [] (F_need_told_lies [d, x, y]) c fs → bndL 0 fs = true → okC c = true → Ev [] (mCaught okC (mCallV 3 (fun j => [(13, arity 3 F_left_with), (14, arity 3 F_sure_with), (17, arity 3 F_lies_told)].lookup j) am) ρ) (.exc c fs) := fun ρ am d x y c fs h3 ha hx hb hc => ev_caught_x (evx_callV (n := 3) (F := F) h3 hF ha rfl (wk [] d x y c fs hx hb)) hc
      have isT := isT_reps (n := n)
      have t1 : Ev [] (F_is_told [.int n, .lst ((List.replicate n none).map oI)]) (.bl false) := is_told_no rfl (by simp)
      have t2 : Ev [] (F_is_told [.int n, .tup ((List.replicate n none).map oI ++ [.int 0])]) (.bl false) := by
        refine ev_eq (is_told_tup ?_ (by simp; omega)) ?_
        · intro d hd
          rcases List.mem_append.mp hd with q | q
          · exact plain_told d q
          · rw [List.mem_singleton.mp q]
            rfl
        · unfold tupOf
          dsimp only
          rw [decide_eq_false (by simp; omega)]
          rfl
      have t3 : Ev [] (F_is_told [.int n, .tup (List.replicate n (.bl true))]) (.bl false) := by
        refine ev_eq (is_told_tup (fun d hd => by rw [List.eq_of_mem_replicate hd]; rfl) (by simp; omega)) ?_
        obtain ⟨m, rfl⟩ : ∃ m, n = m + 1 := ⟨n - 1, by omega⟩
        unfold tupOf
        dsimp only
        rw [List.replicate_succ, List.all_cons, show told1 (.bl true) = false from rfl]
        simp
      refine sw_seq (sw_asg (sw_new (sw_acons (sw_pure (os := []) (call _ _ .non .non .non 4 [.non] rfl (by rfl') (need_told_lies_x1 rfl) rfl ok4) gs (sw_anil ⟨by simp only [List.length_cons, List.length_nil]; omega, ?_⟩)))))
      show sat (sSeq _ _ [some (lotD n rs), some (.int n), some (.tup ((List.replicate n none).map oI)), some (.fn j), some (.ref s.length), a5, a6] (s ++ [.lst [.exc 4 [.non]]])) _
      refine err_step gs rfl rfl (call _ _ (lotD n rs) .non .non 16 [] rfl (by rfl') (need_told_lies_x2 (is_told_no rfl (by simp))) rfl ok16) (by simp) ?_
      refine err_step gs rfl rfl (call _ _ (lotD n rs) (.lst ((List.replicate n none).map oI)) (.int 0) 16 [] rfl (by rfl') (need_told_lies_x2 t1) rfl ok16) (by simp) ?_
      have hx : Ev [] (aCons (mVar 0) (aCons (mBin opAdd (mVar 2) (mTup (aCons (mC (.int 0)) aNil))) (aCons (mC (.int 0)) aNil)) [some (lotD n rs), some (.int n), some (.tup ((List.replicate n none).map oI)), some (.fn j), some (.ref s.length), a5, a6]) [lotD n rs, .tup ((List.replicate n none).map oI ++ [.int 0]), .int 0] := by
        rfl'
      refine err_step gs rfl rfl (call _ _ _ _ _ 16 [] rfl hx (need_told_lies_x2 t2) rfl ok16) (by simp) ?_
      refine err_step gs rfl rfl (call _ _ (lotD n rs) (.tup (List.replicate n (.bl true))) (.int 0) 16 [] rfl (ev_cons (ev_var rfl) (ev_cons (ev_bin (ev_tup (ev_cons ev_c ev_nil) (by decide)) (ev_var rfl) (mul_tup1 (by omega))) (ev_cons ev_c ev_nil))) (need_told_lies_x2 t3) rfl ok16) (by simp) ?_
      refine err_step gs rfl rfl (call _ _ (lotD n rs) (.tup ((List.replicate n none).map oI)) (.int 7) 3 [.str "lies"] rfl (by rfl') (need_told_lies_x3 isT hn rfl rfl) rfl ok3) (by simp) ?_
      refine err_step gs rfl rfl (call _ _ (lotD n rs) (.tup ((List.replicate n none).map oI)) (.int (-1)) 3 [.str "lies"] rfl (by rfl') (need_told_lies_x3 isT hn rfl rfl) rfl ok3) (by simp) ?_
      refine err_step gs rfl rfl (call _ _ (lotD n rs) (.tup ((List.replicate n none).map oI)) (.bl true) 3 [.str "lies"] rfl (by rfl') (need_told_lies_x3 isT hn rfl rfl) rfl ok3) (by simp) ?_
      have cg : CG [(s.length, .lst errs8)] (s ++ [.lst errs8]) := cg_last gs rfl
      generalize hρ : ([some (lotD n rs), some (.int n), some (.tup ((List.replicate n none).map oI)), some (.fn j), some (.ref s.length), a5, a6] : SL.Env) = ρ
      show sat (sSeq _ _ ρ (s ++ [.lst errs8])) _
      have h4 : ∀ st, mVar 4 ρ st = .ok (.ref s.length) st := fun st => by rw [← hρ]; rfl
      have c1 : Ev [(s.length, .lst errs8)] (closeE (mComp (mZip 0 (mVar 4) (mLst (aCons (mC (.str "lot")) (aCons (mC (.str "told")) (aCons (mC (.str "told")) (aCons (mC (.str "told")) (aCons (mC (.str "told")) (aCons (mC (.str "number")) (aCons (mC (.str "number")) (aCons (mC (.str "number")) aNil)))))))))) (tgTup [5, 6]) (tmNot (mTest (mCall (arity 2 F__law_is_of) [] (aCons (mVar 5) (aCons (mVar 6) aNil))))) (mC (.int 1)) [5, 6]) ρ) (.lst []) := by
        refine ev_eq (ev_comp (ys := List.zipWith (fun x y => D.tup [x, y]) errs8 [.str "lot", .str "told", .str "told", .str "told", .str "told", .str "number", .str "number", .str "number"]) (h := fun d => d) (E := fun y => (tgTup [5, 6] y (wipeE ρ [5, 6])).getD []) (p := fun _ => false) (f := fun _ => .int 1) (evi_zip_ref List.mem_cons_self (fun st _ => h4 st) (ev_lst (ds := [.str "lot", .str "told", .str "told", .str "told", .str "told", .str "number", .str "number", .str "number"]) (by rfl') (by decide)) rfl) ?_ ?_ (fun _ _ h => by cases h) (by decide) (fun _ _ h => by cases h)) (by simp)
        · intro y hy
          simp only [errs8, List.zipWith_cons_cons, List.zipWith_nil_left, List.mem_cons, List.not_mem_nil, or_false] at hy
          rcases hy with rfl | rfl | rfl | rfl | rfl | rfl | rfl | rfl <;> rfl
        · intro y hy
          subst hρ
          simp only [errs8, List.zipWith_cons_cons, List.zipWith_nil_left, List.mem_cons, List.not_mem_nil, or_false] at hy
          rcases hy with rfl | rfl | rfl | rfl | rfl | rfl | rfl | rfl
          · exact ev_tnot (b := true) (ev_test (ev_call0 (ds := [_, _]) (ev_cons (ev_var rfl) (ev_cons (ev_var rfl) ev_nil)) law_is_of_lot rfl))
          iterate 4 exact ev_tnot (b := true) (ev_test (ev_call0 (ds := [_, _]) (ev_cons (ev_var rfl) (ev_cons (ev_var rfl) ev_nil)) law_is_of_told rfl))
          iterate 3 exact ev_tnot (b := true) (ev_test (ev_call0 (ds := [_, _]) (ev_cons (ev_var rfl) (ev_cons (ev_var rfl) ev_nil)) law_is_of_number rfl))
      have c2 : Ev [(s.length, .lst errs8)] (closeE (mComp (mIt (fSeq FU) (mSl (mVar 4) (pSome (mC (.int 5))) pNo)) (tgName 5) mTrue (mUn (opXf okX_part) (mVar 5)) [5]) ρ) (.lst [.str "lies", .str "lies", .str "lies"]) := by
        refine ev_eq (ev_comp_t (ys := [D.exc 3 [.str "lies"], .exc 3 [.str "lies"], .exc 3 [.str "lies"]]) (h := fun d => d) (E := fun y => (wipeE ρ [5]).set 5 (some y)) (f := fun _ => .str "lies") (evi_seq0 (d := .lst [D.exc 3 [.str "lies"], .exc 3 [.str "lies"], .exc 3 [.str "lies"]]) (fun st gt => ?_) rfl) (fun _ _ => rfl) ?_ (by decide) (fun _ _ => rfl)) rfl
        · have q := gt.2 _ List.mem_cons_self
          unfold mSl
          rw [h4 st, bind_ok]
          show opSl (.ref s.length) (some 5) none st = _
          unfold opSl lstOf
          dsimp only at q ⊢
          rw [q]
          rfl
        · intro y hy
          subst hρ
          simp only [List.mem_cons, List.not_mem_nil, or_false, or_self] at hy
          subst hy
          exact fun _ _ => rfl
      refine sw_seq (sw_eq (s_if_f (t_test (e_bin (c1 _ cg) (e_lst rfl (by decide)) ((evo_ne (os := []) rfl rfl _ cg.weak).trans (by rw [deq_lst, deqL_nn]; rfl)))) rfl) ?_)
      refine sw_eq (s_if_f (t_test (e_bin (c2 _ cg) (d2 := .lst [.str "lies", .str "lies", .str "lies"]) (e_lst rfl (by decide)) ((evo_ne (os := []) (by decide +kernel) (by decide +kernel) _ cg.weak).trans (by rw [deq_lst]; simp only [deqL_cons, deq_str, deqL_nn]; rfl)))) rfl) ⟨⟨some (.fn j), some (.ref s.length), a5, a6, hρ.symm⟩, ?_, cg.weak⟩
      rw [List.take_append_of_le_length (by
        have := congrArg List.length hs
        rw [List.length_take] at this
        omega), hs]
    · rintro ρ s ⟨h1, h2, h3⟩
      exact ⟨rfl, h1, h2, h3⟩
  · rintro _ s ⟨⟨a3, a4, a5, a6, rfl⟩, hs, gs⟩
    have t1 : Ev [] (F_is_told [.int n, .tup (List.replicate n (.int 2))]) (.bl false) := by
      refine ev_eq (is_told_tup (fun d hd => by rw [List.eq_of_mem_replicate hd]; rfl) (by simp; omega)) ?_
      obtain ⟨m, rfl⟩ : ∃ m, n = m + 1 := ⟨n - 1, by omega⟩
      unfold tupOf
      dsimp only
      rw [List.replicate_succ, List.all_cons, show told1 (.int 2) = false from rfl]
      simp
    have x1 : EvX [] (F_fewest_lies [lotD n rs, .tup (List.replicate n (.int 2))]) 16 [] := by
      unfold F_fewest_lies m_fewest_lies
      exact evx_fn (evx_seq2 (ρ1 := startE 4 [lotD n rs, .tup (List.replicate n (.int 2))]) (by rfl') (evx_seq1 (evx_sexpr (evx_call0 (by rfl') (need_told_no t1) rfl)))) rfl
    refine sw_ret (sw_pure (os := []) (a := .bl true) (ev_un (ev_caught_x (evx_call0 (ds := [lotD n rs, .tup (List.replicate n (.int 2))]) (ev_cons (ev_var rfl) (ev_cons (ev_bin (ev_tup (ev_cons ev_c ev_nil) (by decide)) (ev_var rfl) (mul_tup1 (by omega))) ev_nil)) x1 rfl) rfl) evo_isa) gs ⟨rfl, hs⟩)
local macro_rules | `(tactic| rfl') => `(tactic| (with_reducible apply law_errors_right_ev) <;> nofun)
end Lk63
set_option maxRecDepth 100000
set_option maxHeartbeats 2000000
namespace Lk63
open SL PySem
local macro_rules | `(tactic| nofun) => `(tactic| first | ((with_reducible apply nat_le_g) <;> first | (show (_ : Prop); assumption) | (have hz := sz_val; (try simp only [Int.toNat_natCast, List.length_cons, List.length_nil, List.length_map, List.length_append, List.length_range, List.length_zip, List.length_zipIdx, List.length_replicate]); omega) | skip) | ((with_reducible apply nat_lt_g) <;> first | (show (_ : Prop); assumption) | (have hz := sz_val; (try simp only [Int.toNat_natCast, List.length_cons, List.length_nil, List.length_map, List.length_append, List.length_range, List.length_zip, List.length_zipIdx, List.length_replicate]); omega) | skip) | ((with_reducible apply int_le_g) <;> first | (show (_ : Prop); assumption) | (have hz := sz_val; (try simp only [Int.toNat_natCast, List.length_cons, List.length_nil, List.length_map, List.length_append, List.length_range, List.length_zip, List.length_zipIdx, List.length_replicate]); omega) | skip) | ((with_reducible apply int_lt_g) <;> first | (show (_ : Prop); assumption) | (have hz := sz_val; (try simp only [Int.toNat_natCast, List.length_cons, List.length_nil, List.length_map, List.length_append, List.length_range, List.length_zip, List.length_zipIdx, List.length_replicate]); omega) | skip) | ((with_reducible apply okR_le) <;> first | omega | skip) | rfl' | (intro _; rfl') | (intro _ _; rfl') | (intro _ _ _; rfl') | (intro _ _; exact bnd_ints) | (intro _ _; exact bnd_ite rfl rfl) | (intro _ _; exact bnd_iT) | exact bnd_ints | exact rfl | exact mapId_ | exact okP_iT | exact okPL_iT | exact okPL_int | exact okPL_intf | exact okK_iT | exact okK_int | (intro _ _; exact okK_iT) | (intro _ _; exact okK_int) | ((with_reducible apply okP_ite) <;> first | exact rfl | exact okP_iT | nofun) | ((with_reducible apply okP_tmap) <;> nofun) | (intro _ _; exact okP_ite rfl rfl) | (intro _ _; exact okP_iT) | (intro _ _; exact rfl) | (show (_ : Prop); assumption) | decide | (intro _ _; exact rfl) | (intro _ _ _; exact rfl) | (intro _ _; exact bnd_iT) | (intro _ _ _; exact bnd_iT) | (intros; have hz := sz_val; (try simp only [Int.toNat_natCast, List.length_cons, List.length_nil, List.length_map, List.length_append, List.length_range, List.length_zip, List.length_zipIdx]); omega) | skip)
local macro_rules | `(tactic| rfl') => `(tactic| first
  | with_reducible assumption
  | with_reducible exact ev_pno
  | with_reducible exact evo_sl_t
  | with_reducible exact evo_sl_l
  | with_reducible exact ev_nil
  | with_reducible exact ev_c
  | with_reducible exact evo_add_int
  | with_reducible exact evo_sub_int
  | with_reducible exact evo_lt
  | with_reducible exact evo_le
  | with_reducible exact evo_gt
  | with_reducible exact evo_ge
  | with_reducible exact evo_isN
  | with_reducible exact evo_notN
  | with_reducible exact evo_neg
  | with_reducible exact evb_len_t
  | with_reducible exact evb_len_l
  | with_reducible exact evb_len_d
  | with_reducible exact evb_tuple_l
  | with_reducible exact evb_tuple_t
  | with_reducible exact evb_list_l
  | with_reducible exact evb_list_t
  | with_reducible exact evb_int
  | with_reducible exact evb_abs
  | with_reducible exact evb_all
  | with_reducible exact evb_any
  | with_reducible exact evb_sum
  | with_reducible exact evb_min2
  | with_reducible exact evb_max2
  | (with_reducible apply ev_fn) <;> nofun
  | (with_reducible apply ev_cons) <;> nofun
  | (with_reducible apply ev_tup) <;> nofun
  | (with_reducible apply ev_lst) <;> nofun
  | (with_reducible apply ev_bin) <;> nofun
  | (with_reducible apply ev_un) <;> nofun
  | (with_reducible apply ev_cb) <;> nofun
  | (with_reducible apply ev_call0) <;> nofun
  | (with_reducible apply ev_call11) <;> nofun
  | (with_reducible apply ev_call21) <;> nofun
  | (with_reducible apply ev_callK1) <;> nofun
  | (with_reducible apply ev_callK2) <;> nofun
  | (with_reducible apply ev_callK2') <;> nofun
  | (with_reducible apply ev_callK3) <;> nofun
  | (with_reducible apply ev_prop0) <;> nofun
  | (with_reducible apply ev_methO0) <;> nofun
  | (with_reducible apply ev_test) <;> nofun
  | (with_reducible apply ev_tnot) <;> nofun
  | (with_reducible apply ev_tand) <;> nofun
  | (with_reducible apply ev_tor) <;> nofun
  | (with_reducible apply ev_and) <;> nofun
  | (with_reducible apply ev_or) <;> nofun
  | (with_reducible apply ev_not) <;> nofun
  | (with_reducible apply ev_if) <;> nofun
  | (with_reducible apply ev_chain) <;> nofun
  | (with_reducible apply ev_comp_t) <;> nofun
  | (with_reducible apply ev_comp) <;> nofun
  | (with_reducible apply evr_ret) <;> nofun
  | (with_reducible apply evr_asg) <;> nofun
  | (with_reducible apply evr_expr) <;> nofun
  | (with_reducible apply evr_ifr) <;> nofun
  | (with_reducible apply evi_rng1) <;> nofun
  | (with_reducible apply evi_rng2) <;> nofun
  | (with_reducible apply evi_seqG) <;> nofun
  | (with_reducible apply evi_enumG) <;> nofun
  | (with_reducible apply evi_zipG) <;> nofun
  | (with_reducible apply ev_sl) <;> nofun
  | (with_reducible apply ev_psome) <;> nofun
  | (with_reducible apply ev_sexpr) <;> nofun
  | (with_reducible apply ev_sseq) <;> nofun
  | (with_reducible apply ev_sifn) <;> nofun
  | (with_reducible apply ev_sasg) <;> nofun
  | (with_reducible apply evr_snil) <;> nofun
  | (with_reducible apply evr_assoc) <;> nofun
  | (with_reducible apply evb_sorted_keys) <;> nofun
  | (with_reducible apply evb_sortedI) <;> nofun
  | (with_reducible apply ev_dcomp_t) <;> nofun
  | (with_reducible apply ev_dcomp) <;> nofun
  | (with_reducible apply ev_var) <;> nofun
  | (with_reducible apply evo_add_tup) <;> nofun
  | (with_reducible apply evo_add_lst) <;> nofun
  | (with_reducible apply evo_eq) <;> nofun
  | (with_reducible apply evo_ne) <;> nofun
  | (with_reducible apply evo_in) <;> nofun
  | (with_reducible apply evo_notIn) <;> nofun
  | (with_reducible apply evb_min) <;> nofun
  | (with_reducible apply evb_max) <;> nofun
  | (with_reducible apply evb_rngF) <;> nofun
  | (with_reducible apply evo_mod) <;> nofun
  | (with_reducible apply evo_div) <;> nofun
  | (with_reducible apply evo_fld) <;> nofun
  | (with_reducible apply evo_isa) <;> nofun
  | (with_reducible apply evo_ix_t) <;> nofun
  | (with_reducible apply evo_ix_l) <;> nofun
  | (with_reducible apply evo_ix) <;> nofun
  | (with_reducible apply evo_mul_int) <;> nofun)
local macro_rules | `(tactic| nofun) => `(tactic| with_reducible exact okP_oI)
local macro_rules | `(tactic| nofun) => `(tactic| with_reducible exact okPL_oI)
local macro_rules | `(tactic| nofun) => `(tactic| with_reducible exact bnd_oI)
local macro_rules | `(tactic| nofun) => `(tactic| with_reducible exact okP_told)
local macro_rules | `(tactic| rfl') => `(tactic| (with_reducible apply lot_fld0) <;> nofun)
local macro_rules | `(tactic| rfl') => `(tactic| (with_reducible apply lot_fld1) <;> nofun)
local macro_rules | `(tactic| rfl') => `(tactic| (with_reducible apply lot_fld2) <;> nofun)
local macro_rules | `(tactic| rfl') => `(tactic| (with_reducible apply is_number_ev) <;> nofun)
local macro_rules | `(tactic| rfl') => `(tactic| (with_reducible apply is_between_ev) <;> nofun)
local macro_rules | `(tactic| rfl') => `(tactic| (with_reducible apply is_list_ev) <;> nofun)
local macro_rules | `(tactic| rfl') => `(tactic| (with_reducible apply is_tuple_of_tup) <;> nofun)
local macro_rules | `(tactic| rfl') => `(tactic| (with_reducible apply is_row_tup) <;> nofun)
local macro_rules | `(tactic| rfl') => `(tactic| (with_reducible apply pow18) <;> nofun)
local macro_rules | `(tactic| rfl') => `(tactic| (with_reducible apply law_rows_ev) <;> nofun)
local macro_rules | `(tactic| rfl') => `(tactic| (with_reducible apply lies_in_ev) <;> nofun)
local macro_rules | `(tactic| rfl') => `(tactic| (with_reducible apply law_lies_ev) <;> nofun)
local macro_rules | `(tactic| rfl') => `(tactic| (with_reducible apply lot_rows_ev) <;> nofun)
local macro_rules | `(tactic| rfl') => `(tactic| (with_reducible apply lot_places_ev) <;> nofun)
local macro_rules | `(tactic| rfl') => `(tactic| (with_reducible apply need_lot_ev) <;> nofun)
local macro_rules | `(tactic| rfl') => `(tactic| (with_reducible apply is_told_yes) <;> nofun)
local macro_rules | `(tactic| rfl') => `(tactic| (with_reducible apply need_told_ev) <;> nofun)
local macro_rules | `(tactic| rfl') => `(tactic| (with_reducible apply fewest_lies_ev) <;> nofun)
local macro_rules | `(tactic| rfl') => `(tactic| (with_reducible apply left_by_ev) <;> nofun)
local macro_rules | `(tactic| rfl') => `(tactic| (with_reducible apply need_lies_ev) <;> nofun)
local macro_rules | `(tactic| rfl') => `(tactic| (with_reducible apply need_told_lies_ev) <;> nofun)
local macro_rules | `(tactic| rfl') => `(tactic| (with_reducible apply left_with_ev) <;> nofun)
local macro_rules | `(tactic| rfl') => `(tactic| (with_reducible apply wrong_places_ev) <;> nofun)
local macro_rules | `(tactic| rfl') => `(tactic| (with_reducible apply lies_told_ev) <;> nofun)
local macro_rules | `(tactic| rfl') => `(tactic| (with_reducible apply sure_with_ev) <;> nofun)
local macro_rules | `(tactic| rfl') => `(tactic| (with_reducible apply law_is_of_lot) <;> nofun)
local macro_rules | `(tactic| rfl') => `(tactic| (with_reducible apply law_is_of_told) <;> nofun)
local macro_rules | `(tactic| rfl') => `(tactic| (with_reducible apply law_is_of_number) <;> nofun)
local macro_rules | `(tactic| rfl') => `(tactic| (with_reducible apply law_flip_ev) <;> nofun)
local macro_rules | `(tactic| rfl') => `(tactic| (with_reducible apply lotT_ix0) <;> nofun)
local macro_rules | `(tactic| rfl') => `(tactic| (with_reducible apply lotT_ix1) <;> nofun)
local macro_rules | `(tactic| rfl') => `(tactic| (with_reducible apply law_told_right_ev) <;> nofun)
local macro_rules | `(tactic| rfl') => `(tactic| (with_reducible apply law_below_ev) <;> nofun)
local macro_rules | `(tactic| rfl') => `(tactic| (with_reducible apply law_made_ev) <;> nofun)
local macro_rules | `(tactic| rfl') => `(tactic| (with_reducible apply law_errors_right_ev) <;> nofun)
local macro_rules | `(tactic| rfl') => `(tactic| with_reducible assumption)
-- law
/-! what the law asks, without the program -/
theorem liesN_nn {t : List (Option Int)} {r : List Int} : 0 ≤ liesN t r := Int.natCast_nonneg _
theorem liesN_le {n : Nat} {t : List (Option Int)} {r : List Int} (h : t.length = n) : liesN t r ≤ n := by
  unfold liesN
  have := List.length_filter_le (fun p : Option Int × Int => p.1.isSome && !decide (p.1 = some p.2)) (t.zip r)
  rw [List.length_zip] at this
  omega
theorem leftR_mono {rs : List (List Int)} {t : List (Option Int)} {l m : Int} (h : l ≤ m) : ∀ r ∈ leftR rs t l, r ∈ leftR rs t m := fun r hr => by
  obtain ⟨h1, h2⟩ := leftR_mem.mp hr
  exact leftR_mem.mpr ⟨h1, by omega⟩
/-- a row as told answers -/
abbrev asT (r : List Int) : List (Option Int) := r.map some
theorem iT_asT {r : List Int} : iT r = .tup ((asT r).map oI) := by simp [oI, Function.comp_def]
theorem IsRow.told {n : Nat} {r : List Int} (h : IsRow n r) : IsTold n (asT r) := ⟨by simp [h.len], fun a ha => by
  obtain ⟨b, hb, rfl⟩ := List.mem_map.mp ha
  rcases h.bit b hb with rfl | rfl
  · exact .inr (.inl rfl)
  · exact .inr (.inr rfl)⟩
theorem liesN_flip {n : Nat} {r A : List Int} (h : IsRow n r) (nd : A.Nodup) (sub : ∀ a ∈ A, ∃ k : Nat, k < n ∧ a = k) : liesN (asT (flipS r A)) r = A.length := by
  have e1 : (asT (flipS r A)).zip r = r.zipIdx.map fun p => (some (if (p.2 : Int) ∈ A then 1 - p.1 else p.1), p.1) := by
    refine List.ext_getElem? fun i => ?_
    simp only [asT, flipS, List.getElem?_zip_eq_some, List.map_map, List.zip_eq_zipWith, List.getElem?_zipWith, List.getElem?_map, List.getElem?_zipIdx]
    cases r[i]? <;> simp
  have e2 : (r.zipIdx.filter fun p => decide ((p.2 : Int) ∈ A)).map (fun p => (p.2 : Int)) = ((List.range n).map fun (k : Nat) => (k : Int)).filter fun k => decide (k ∈ A) := by
    have e3 : r.zipIdx.map (fun p => (p.2 : Int)) = (List.range n).map fun (k : Nat) => (k : Int) := by
      refine List.ext_getElem? fun i => ?_
      simp only [List.getElem?_map, List.getElem?_zipIdx]
      by_cases hi : i < n
      · rw [List.getElem?_eq_getElem (by rw [h.len]; exact hi), List.getElem?_range hi]
        simp
      · rw [List.getElem?_eq_none (by rw [h.len]; omega), List.getElem?_eq_none (by simp; omega)]
        rfl
    rw [← e3, List.filter_map]
    rfl
  unfold liesN
  rw [e1, List.filter_map, List.length_map]
  have e4 : (r.zipIdx.filter ((fun p : Option Int × Int => p.1.isSome && !decide (p.1 = some p.2)) ∘ fun p => (some (if (p.2 : Int) ∈ A then 1 - p.1 else p.1), p.1))) = r.zipIdx.filter fun p => decide ((p.2 : Int) ∈ A) := by
    refine List.filter_congr fun p _ => ?_
    simp only [Function.comp, Option.isSome_some, Bool.true_and, Option.some.injEq]
    by_cases c : (p.2 : Int) ∈ A
    · simp only [c, if_true, decide_true]
      have : ¬ (1 - p.1 = p.1) := by omega
      simp [this]
    · simp [c]
  rw [e4, ← List.length_map (as := r.zipIdx.filter fun p => decide ((p.2 : Int) ∈ A)) (f := fun p => (p.2 : Int)), e2]
  have p : (((List.range n).map fun (k : Nat) => (k : Int)).filter fun k => decide (k ∈ A)).Perm A := by
    refine (List.perm_ext_iff_of_nodup ((nodup_mapI (fun x y e => by exact_mod_cast e) List.nodup_range).filter _) nd).mpr fun a => ?_
    · rw [List.mem_filter, decide_eq_true_eq]
      constructor
      · exact fun q => q.2
      · intro q
        obtain ⟨k, hk, rfl⟩ := sub a q
        exact ⟨List.mem_map.mpr ⟨k, by simpa using hk, rfl⟩, q⟩
  rw [p.length_eq]
theorem botI_le {l : List Int} {a : Int} (h : a ∈ l) : botI l ≤ a := by
  induction l with
  | nil => cases h
  | cons x l ih =>
    cases l with
    | nil =>
      rw [List.mem_singleton.mp h]
      exact Int.le_refl _
    | cons y l =>
      have e : botI (x :: y :: l) = min x (botI (y :: l)) := rfl
      rw [e]
      rcases List.mem_cons.mp h with rfl | h
      · exact Int.min_le_left _ _
      · exact Int.le_trans (Int.min_le_right _ _) (ih h)
theorem botI_mem {l : List Int} (h : l ≠ []) : botI l ∈ l := by
  induction l with
  | nil => exact (h rfl).elim
  | cons x l ih =>
    cases l with
    | nil => exact List.mem_cons_self
    | cons y l =>
      have e : botI (x :: y :: l) = min x (botI (y :: l)) := rfl
      rw [e]
      rcases Int.le_total x (botI (y :: l)) with c | c
      · rw [Int.min_eq_left c]
        exact List.mem_cons_self
      · rw [Int.min_eq_right c]
        exact List.mem_cons_of_mem _ (ih (by simp))
theorem more_lies {t : List (Option Int)} {r : List Int} {p : Nat} {v : Int} (h : t.getD p none = none) : liesN t r ≤ liesN (t.take p ++ some v :: t.drop (p + 1)) r := by
  have key : ∀ (t : List (Option Int)) (r : List Int) (p : Nat), t.getD p none = none → ((t.zip r).filter fun q => q.1.isSome && !decide (q.1 = some q.2)).length ≤ (((t.take p ++ some v :: t.drop (p + 1)).zip r).filter fun q => q.1.isSome && !decide (q.1 = some q.2)).length := by
    intro t
    induction t with
    | nil => intro r p _; simp
    | cons a t ih =>
      intro r p h
      cases r with
      | nil => simp
      | cons b r =>
        cases p with
        | zero =>
          simp only [List.getD_cons_zero] at h
          subst h
          simp only [List.take_zero, List.nil_append, Nat.zero_add, List.drop_succ_cons, List.drop_zero, List.zip_cons_cons, List.filter_cons]
          simp only [Option.isSome_none, Bool.false_and, Bool.false_eq_true, if_false]
          split
          · simp
          · exact Nat.le_refl _
        | succ p =>
          simp only [List.getD_cons_succ] at h
          have := ih r p h
          simp only [List.take_succ_cons, List.cons_append, List.drop_succ_cons, List.zip_cons_cons, List.filter_cons]
          split
          · simpa using this
          · exact this
  unfold liesN
  exact_mod_cast key t r p h
def backS (r : List Int) : List Int := r.map fun a => 1 - a
theorem back_row {n : Nat} {r : List Int} (h : IsRow n r) : IsRow n (backS r) := ⟨by simp [backS, h.len], fun a ha => by
  obtain ⟨b, hb, rfl⟩ := List.mem_map.mp ha
  rcases h.bit b hb with rfl | rfl
  · exact .inr rfl
  · exact .inl rfl⟩
theorem lies_back {n : Nat} {s r : List Int} (hs : IsRow n s) (hr : IsRow n r) : liesN (asT s) r + liesN (asT (backS s)) r = n := by
  have key : ∀ (s r : List Int) (n : Nat), IsRow n s → IsRow n r → (((asT s).zip r).filter fun q => q.1.isSome && !decide (q.1 = some q.2)).length + (((asT (backS s)).zip r).filter fun q => q.1.isSome && !decide (q.1 = some q.2)).length = n := by
    intro s
    induction s with
    | nil =>
      intro r n hs hr
      have := hs.len
      simp at this
      subst this
      simp [asT, backS]
    | cons a s ih =>
      intro r n hs hr
      cases r with
      | nil =>
        have h1 := hs.len
        have h2 := hr.len
        simp at h1 h2
        omega
      | cons b r =>
        have h1 := hs.len
        have h2 := hr.len
        simp only [List.length_cons] at h1 h2
        have := ih r (n - 1) ⟨by omega, fun x hx => hs.bit x (List.mem_cons_of_mem _ hx)⟩ ⟨by omega, fun x hx => hr.bit x (List.mem_cons_of_mem _ hx)⟩
        have ha := hs.bit a List.mem_cons_self
        have hb := hr.bit b List.mem_cons_self
        simp only [asT, backS, List.map_cons, List.zip_cons_cons, List.filter_cons, Option.isSome_some, Bool.true_and, Option.some.injEq]
        simp only [asT, backS, List.map_map] at this
        rcases ha with rfl | rfl <;> rcases hb with rfl | rfl <;> simp <;> omega
  unfold liesN
  exact_mod_cast key s r n hs hr
theorem shuf_take {n l : Nat} {ys : List D} (p : ys.Perm ((List.range n).map fun (k : Nat) => D.int (k : Int))) (hl : l ≤ n) : ∃ A : List Int, ys.take l = A.map .int ∧ A.Nodup ∧ A.length = l ∧ ∀ a ∈ A, ∃ k : Nat, k < n ∧ a = k := by
  have hex : ∀ ys : List D, (∀ y ∈ ys, ∃ k : Nat, k < n ∧ y = .int (k : Int)) → ∃ B : List Int, ys = B.map .int ∧ ∀ a ∈ B, ∃ k : Nat, k < n ∧ a = k := by
    intro ys
    induction ys with
    | nil => intro _; exact ⟨[], rfl, by simp⟩
    | cons y ys ih =>
      intro h
      obtain ⟨B, e, hB⟩ := ih fun z hz => h z (List.mem_cons_of_mem _ hz)
      obtain ⟨k, hk, e2⟩ := h y List.mem_cons_self
      refine ⟨(k : Int) :: B, by rw [e, e2]; rfl, fun a ha => ?_⟩
      rcases List.mem_cons.mp ha with rfl | ha
      · exact ⟨k, hk, rfl⟩
      · exact hB a ha
  obtain ⟨B, e, hB⟩ := hex ys fun y hy => by
    obtain ⟨k, hk, e⟩ := List.mem_map.mp (p.mem_iff.mp hy)
    exact ⟨k, by simpa using hk, e.symm⟩
  have nd : B.Nodup := by
    have h1 : ((List.range n).map fun (k : Nat) => D.int (k : Int)).Nodup := nodup_mapI (fun x y e => by
      injection e with e
      exact_mod_cast e) List.nodup_range
    have h2 : ys.Nodup := p.nodup_iff.mpr h1
    rw [e] at h2
    exact nodup_ofmap h2
  have hlen : B.length = n := by
    have := p.length_eq
    rw [e] at this
    simpa using this
  exact ⟨B.take l, by rw [e, List.map_take], nd.sublist (List.take_sublist _ _), by rw [List.length_take]; omega, fun a ha => hB a (List.mem_of_mem_take ha)⟩
theorem left_ne {told : List (Option Int)} {rs : List (List Int)} {l : Int} {r : List Int} (hr : r ∈ rs) (h : liesN told r ≤ l) : leftR rs told l ≠ [] := fun e => by
  have := leftR_mem.mpr ⟨hr, h⟩
  rw [e] at this
  cases this
abbrev EL (ns : List D) (k : D) (n : Nat) (rs : List (List Int)) (told : List (Option Int)) (j6 j7 j8 j9 j10 j11 j12 j13 j14 j15 j16 j17 : Option D) : SL.Env := [some (.lst ns), some (.ref 1), some k, some (lotT n rs), some (lotD n rs), some (.tup (told.map oI)), j6, j7, j8, j9, j10, j11, j12, j13, j14, j15, j16, j17]
section
variable {ns : List D} {k : D} {n : Nat} {rs : List (List Int)} {told : List (Option Int)} {j6 j7 j8 j9 j10 j11 j12 j13 j14 j15 j16 j17 : Option D} {t : Tape}
theorem q6 (hL : IsLot n rs) (ht : IsTold n told) : Ev [] (q_law_6 (EL ns k n rs told (some (.lst (rs.map fun r => .int (liesN told r)))) j7 j8 j9 j10 j11 j12 j13 j14 j15 j16 j17)) (.nx, EL ns k n rs told (some (.lst (rs.map fun r => .int (liesN told r)))) j7 j8 j9 j10 j11 j12 j13 j14 j15 j16 j17) := by
  have hn := hL.le
  have hrs := hL.sz
  have hp := hL.pos
  unfold q_law_6
  apply ev_sifn
  · rfl'
    rename_i c
    rintro rfl
    cases c
  · by_cases c : rs = []
    · subst c
      simp [deq_lst, deqL_nil, deq_nn]
    · simp [c, deq_lst, deqL_nil, deq_int]
theorem q8 {y : Nat} (hL : IsLot n rs) (ht : IsTold n told) (hy : y ≤ 6) : Ev [] (q_law_8 (EL ns k n rs told j6 (some (.int (y : Int))) j8 j9 j10 j11 j12 j13 j14 j15 j16 j17)) (.nx, EL ns k n rs told j6 (some (.int (y : Int))) j8 j9 j10 j11 j12 j13 j14 j15 j16 j17) := by
  have hn := hL.le
  have hrs := hL.sz
  have hr := hL.row
  have y0 : (0 : Int) ≤ y := by omega
  have y6 : (y : Int) ≤ 6 := by omega
  unfold q_law_8
  apply ev_sifn
  · rfl'
  · rfl
theorem q10 {y : Nat} (hL : IsLot n rs) (ht : IsTold n told) (hy : y ≤ 6) : Ev [] (q_law_10 (EL ns k n rs told j6 (some (.int (y : Int))) j8 j9 j10 j11 j12 j13 j14 j15 j16 j17)) (.nx, EL ns k n rs told j6 (some (.int (y : Int))) j8 j9 j10 j11 j12 j13 j14 j15 j16 j17) := by
  have hn := hL.le
  have hrs := hL.sz
  have y0 : (0 : Int) ≤ y := by omega
  have y6 : (y : Int) ≤ 6 := by omega
  have h3 : (leftR rs told ((y : Int) - 1)).length < sizeLine := Nat.lt_of_le_of_lt leftR_len hrs
  unfold q_law_10
  apply ev_sifn
  · rfl'
    all_goals
      rename_i c
      simp only [decide_eq_true_eq] at c
      omega
  · by_cases c : (0 : Int) < y
    · simp only [any_deq (f := iT), deq_lst, deqL_nil, c, decide_true, Bool.true_and]
      rw [Bool.not_eq_false', List.isEmpty_iff, List.map_eq_nil_iff, List.filter_eq_nil_iff]
      intro r hr
      simpa using leftR_mono (by omega) r hr
    · rw [decide_eq_false c, Bool.false_and]
theorem q11 (hL : IsLot n rs) (ht : IsTold n told) (g : OT t []) : sat (q_law_11 (EL ns k n rs told j6 j7 j8 j9 j10 j11 j12 j13 j14 j15 j16 j17) (TP t [])) fun r s => r.1 = .nx ∧ (∃ j7, r.2 = EL ns k n rs told j6 j7 j8 j9 j10 j11 j12 j13 j14 j15 j16 j17) ∧ s = TP t [] := by
  unfold q_law_11
  refine sw_for (os := []) (ys := List.range 7) (h := fun (k : Nat) => D.int (k : Int)) (fun _ ρ s => (∃ j7, ρ = EL ns k n rs told j6 j7 j8 j9 j10 j11 j12 j13 j14 j15 j16 j17) ∧ s = TP t []) ?_ ?_ ⟨⟨_, rfl⟩, rfl⟩ ?_ ?_
  · exact evi_rng1 (j := 7) (by rfl') (by decide)
  · rintro _ _ _ ⟨_, rfl⟩
    exact g.cg
  · rintro i y _ _ ey ⟨⟨j7, rfl⟩, rfl⟩
    have hy : y ≤ 6 := by
      have := List.mem_of_getElem? ey
      simp at this
      omega
    show sat (Res.bind (Res.ok (EL ns k n rs told j6 (some (.int (y : Int))) j8 j9 j10 j11 j12 j13 j14 j15 j16 j17) _) _) _
    rw [bind_ok]
    exact sw_seq (sw_pure (q8 hL ht hy) g.cg (sw_pure (q10 hL ht hy) g.cg ⟨⟨_, rfl⟩, rfl⟩))
  · rintro ρ s h
    exact ⟨rfl, h⟩
theorem q4 (hL : IsLot n rs) (ht : IsTold n told) : Ev [] (q_law_4 (EL ns k n rs told j6 j7 j8 j9 j10 j11 j12 j13 j14 j15 j16 j17)) (.nx, EL ns k n rs told (some (.lst (rs.map fun r => .int (liesN told r)))) j7 j8 j9 j10 j11 j12 j13 j14 j15 j16 j17) := by
  have hrs := hL.sz
  have hts := ht.sz hL.le
  unfold q_law_4
  exact ev_sasg (by rfl')
theorem q3 {j4 j5 : Option D} {Q : Fl × SL.Env → Store → Prop} (hL : IsLot n rs) (g : OT t []) (h : ∀ told t', IsTold n told → OT t' [] → Q (.nx, EL ns k n rs told j6 j7 j8 j9 j10 j11 j12 j13 j14 j15 j16 j17) (TP t' [])) : sat (q_law_3 [some (.lst ns), some (.ref 1), some k, some (lotT n rs), j4, j5, j6, j7, j8, j9, j10, j11, j12, j13, j14, j15, j16, j17] (TP t [])) Q := by
  have hz := sz_val
  unfold q_law_3
  have p1 : Ev [] (mCall (arity 1 F__law_made) [] (aCons (mVar 3) aNil) [some (.lst ns), some (.ref 1), some k, some (lotT n rs), j4, j5, j6, j7, j8, j9, j10, j11, j12, j13, j14, j15, j16, j17]) (lotD n rs) := by
    rfl'
  have p2 : Ev [] (mBin opIx (mVar 3) (mC (.int 0)) [some (.lst ns), some (.ref 1), some k, some (lotT n rs), j4, j5, j6, j7, j8, j9, j10, j11, j12, j13, j14, j15, j16, j17]) (.int n) := by
    rfl'
  refine sw_asgG (sw_tup (sw_acons (sw_pure p1 g.cg ?_)))
  refine sw_acons (sw_call0 (sw_acons (sw_var rfl (sw_acons (sw_pure p2 g.cg (sw_anil ⟨rfl, ?_⟩))))))
  refine sw_told g hL.le fun told t2 ht g2 => ?_
  exact sw_anil ⟨by simp only [List.length_cons, List.length_nil]; omega, sw_eq (a := EL ns k n rs told j6 j7 j8 j9 j10 j11 j12 j13 j14 j15 j16 j17) rfl (h told t2 ht g2)⟩
theorem q13 {Q : Fl × SL.Env → Store → Prop} (hL : IsLot n rs) (hne : rs ≠ []) (g : OT t []) (h : ∀ row (l : Nat) t', row ∈ rs → l ≤ n → OT t' [] → Q (.nx, EL ns k n rs told j6 (some (.int (l : Int))) (some (iT row)) j9 j10 j11 j12 j13 j14 j15 j16 j17) (TP t' [])) : sat (q_law_13 (EL ns k n rs told j6 j7 j8 j9 j10 j11 j12 j13 j14 j15 j16 j17) (TP t [])) Q := by
  have hz := sz_val
  have hn := hL.le
  unfold q_law_13
  have p3 : Ev [] (mBin opIx (mVar 3) (mC (.int 1)) (EL ns k n rs told j6 j7 j8 j9 j10 j11 j12 j13 j14 j15 j16 j17)) (.tup (rs.map iT)) := by
    rfl'
  have p4 : Ev [] (mBin opAdd (mBin opIx (mVar 3) (mC (.int 0))) (mC (.int 1)) (EL ns k n rs told j6 j7 j8 j9 j10 j11 j12 j13 j14 j15 j16 j17)) (.int (n + 1)) := by
    rfl'
  refine sw_asgG (sw_tup (sw_acons (sw_call0 (sw_acons (sw_var rfl (sw_acons (sw_pure p3 g.cg (sw_anil ⟨rfl, ?_⟩))))))))
  refine sw_pick g (xs := rs.map iT) rfl (by simpa using hne) (by rw [List.length_map]; exact hL.sz) (fun y hy => by
    obtain ⟨r, _, rfl⟩ := List.mem_map.mp hy
    exact bnd_iT) fun y t3 hy g3 => ?_
  obtain ⟨row, hrow', rfl⟩ := List.mem_map.mp hy
  refine sw_acons (sw_call0 (sw_acons (sw_var rfl (sw_acons (sw_pure p4 g3.cg (sw_anil ⟨rfl, ?_⟩))))))
  refine sw_draw g3 (by omega) (by omega) fun v t4 v0 v1 g4 => ?_
  obtain ⟨l, rfl⟩ := Int.eq_ofNat_of_zero_le v0
  exact sw_anil ⟨by simp only [List.length_cons, List.length_nil]; omega, sw_eq (a := EL ns k n rs told j6 (some (.int (l : Int))) (some (iT row)) j9 j10 j11 j12 j13 j14 j15 j16 j17) rfl (h row l t4 hrow' (by omega) g4)⟩
theorem q14 {l : Nat} {Q : Fl × SL.Env → Store → Prop} (hn : n ≤ 6) (hl : l ≤ n) (g : OT t []) (h : ∀ (A : List Int) t', A.Nodup → A.length = l → (∀ a ∈ A, ∃ k : Nat, k < n ∧ a = k) → OT t' [] → Q (.nx, EL ns k n rs told j6 (some (.int (l : Int))) j8 (some (iT A)) j10 j11 j12 j13 j14 j15 j16 j17) (TP t' [])) : sat (q_law_14 (EL ns k n rs told j6 (some (.int (l : Int))) j8 j9 j10 j11 j12 j13 j14 j15 j16 j17) (TP t [])) Q := by
  have hz := sz_val
  have hf := fu_val
  unfold q_law_14
  have p1 : Ev [] (mCB bListRngF (aCons (mBin opIx (mVar 3) (mC (.int 0))) aNil) (EL ns k n rs told j6 (some (.int (l : Int))) j8 j9 j10 j11 j12 j13 j14 j15 j16 j17)) (.lst ((List.range n).map fun (k : Nat) => D.int (k : Int))) := by
    apply ev_eq
    · rfl'
    · rw [Int.toNat_natCast]
  refine sw_asg (sw_cb (sw_acons (sw_sl (sw_call0 (sw_acons (sw_var rfl (sw_acons (sw_pure p1 g.cg (sw_anil ⟨rfl, ?_⟩)))))))))
  refine sw_shuffled g (xs := (List.range n).map fun (k : Nat) => D.int (k : Int)) rfl (by simp only [List.length_map, List.length_range]; omega) okPL_intf fun ys t5 hp g5 => ?_
  refine sw_eq (a := none) (st := TP t5 []) rfl (sw_eq (a := some (l : Int)) (st := TP t5 []) rfl ?_)
  obtain ⟨A, hA, ndA, lenA, subA⟩ := shuf_take hp hl
  have hyl : l ≤ ys.length := by
    rw [hp.length_eq, List.length_map, List.length_range]
    exact hl
  exact sw_eq (a := .lst (A.map .int)) (st := TP t5 []) (by rw [← hA, ← cut_take hyl]; rfl) (sw_anil (sw_eq (a := iT A) (st := TP t5 []) rfl (h A t5 ndA lenA subA g5)))
theorem q17 {row s : List Int} {l : Nat} (hL : IsLot n rs) (hr : row ∈ rs) (hs : IsRow n s) (hl : l ≤ 6) (he : liesN (asT s) row = l) : Ev [] (q_law_17 (EL ns k n rs told j6 (some (.int (l : Int))) (some (iT row)) j9 (some (iT s)) j11 j12 j13 j14 j15 j16 j17)) (.nx, EL ns k n rs told j6 (some (.int (l : Int))) (some (iT row)) j9 (some (iT s)) j11 j12 j13 j14 j15 j16 j17) := by
  have hn := hL.le
  have hrs := hL.sz
  have hrw := hL.row
  have ht := hs.told
  have l0 : (0 : Int) ≤ l := by omega
  have l6 : (l : Int) ≤ 6 := by omega
  have hne : rs ≠ [] := fun e => by rw [e] at hr; cases hr
  have rin : row ∈ leftR rs (asT s) l := leftR_mem.mpr ⟨hr, by omega⟩
  have hfe : Ev [] (F_fewest_lies [lotD n rs, .tup ((asT s).map oI)]) (.int (botI (rs.map (liesN (asT s))))) := ev_eq (fewest_lies_ev ht hn hrs) (if_neg hne)
  have hb : botI (rs.map (liesN (asT s))) ≤ l := Int.le_trans (botI_le (List.mem_map_of_mem hr)) (by omega)
  rw [iT_asT (r := s)]
  unfold q_law_17
  apply ev_sifn
  · rfl'
  · have h9 : ¬ ((l : Int) < botI (rs.map (liesN (asT s)))) := by omega
    simp only [any_deq (f := iT), decide_eq_true rin, Bool.not_true, Bool.false_or, decide_eq_false h9]
    simpa using rin
theorem tk_drop {α : Type} {xs : List α} {f : α → D} {p : Nat} {v : D} (h : p < xs.length) : cutD (xs.map f) none (some (p : Int)) ++ [v] ++ cutD (xs.map f) (some ((p + 1 : Nat) : Int)) none = (xs.take p).map f ++ v :: (xs.drop (p + 1)).map f := by
  rw [cut_take (by rw [List.length_map]; omega), cut_drop (by rw [List.length_map]; omega), ← List.map_take, ← List.map_drop]
  simp
theorem q18 {Q : Fl × SL.Env → Store → Prop} (hL : IsLot n rs) (ht : IsTold n told) (hne : rs ≠ []) (g : OT t []) (h : ∀ (p : Nat) t', p < n → OT t' [] → Q (.nx, EL ns k n rs told j6 j7 j8 j9 j10 (some (.int (p : Int))) (some (.int (botI (rs.map (liesN told))))) j13 j14 j15 j16 j17) (TP t' [])) : sat (q_law_18 (EL ns k n rs told j6 j7 j8 j9 j10 j11 j12 j13 j14 j15 j16 j17) (TP t [])) Q := by
  have hn := hL.le
  have hp := hL.pos
  have hrs := hL.sz
  have hfe : Ev [] (F_fewest_lies [lotD n rs, .tup (told.map oI)]) (.int (botI (rs.map (liesN told)))) := ev_eq (fewest_lies_ev ht hn hrs) (if_neg hne)
  have p1 : Ev [] (mBin opIx (mVar 3) (mC (.int 0)) (EL ns k n rs told j6 j7 j8 j9 j10 j11 j12 j13 j14 j15 j16 j17)) (.int n) := by
    rfl'
  have p2 : Ev [] (mCall (arity 2 F_fewest_lies) [] (aCons (mVar 4) (aCons (mVar 5) aNil)) (EL ns k n rs told j6 j7 j8 j9 j10 j11 j12 j13 j14 j15 j16 j17)) (.int (botI (rs.map (liesN told)))) := by
    rfl'
  have e1 : sat (aCons (mCall (arity 2 F__law_draw) [] (aCons (mVar 1) (aCons (mBin opIx (mVar 3) (mC (.int 0))) aNil))) (aCons (mCall (arity 2 F_fewest_lies) [] (aCons (mVar 4) (aCons (mVar 5) aNil))) aNil) (EL ns k n rs told j6 j7 j8 j9 j10 j11 j12 j13 j14 j15 j16 j17) (TP t [])) fun ds s => ∃ (p : Nat) (t' : Tape), ds = [.int (p : Int), .int (botI (rs.map (liesN told)))] ∧ p < n ∧ OT t' [] ∧ s = TP t' [] := by
    refine sw_acons (sw_call0 (sw_acons (sw_var rfl (sw_acons (sw_pure p1 g.cg (sw_anil ⟨rfl, ?_⟩))))))
    refine sw_draw g (by omega) (by omega) fun v t1 v0 v1 g1 => ?_
    obtain ⟨p, rfl⟩ := Int.eq_ofNat_of_zero_le v0
    exact sw_acons (sw_pure p2 g1.cg (sw_anil ⟨p, t1, rfl, by omega, g1, rfl⟩))
  obtain ⟨ds, s, e2, p, t', rfl, hpn, g', rfl⟩ := sat_iff.mp e1
  unfold q_law_18 sPar
  rw [e2]
  exact .ok (h p t' hpn g')
/-- told with one answer more -/
def moreT (told : List (Option Int)) (p : Nat) (v : Int) : List (Option Int) := told.take p ++ some v :: told.drop (p + 1)
theorem moreT_ok {p : Nat} {v : Int} (ht : IsTold n told) (hp : p < n) (hv : v = 0 ∨ v = 1) : IsTold n (moreT told p v) := ⟨by
  have := ht.len
  simp [moreT]
  omega, fun a ha => by
  rcases List.mem_append.mp ha with q | q
  · exact ht.bit a (List.mem_of_mem_take q)
  · rcases List.mem_cons.mp q with rfl | q
    · rcases hv with rfl | rfl <;> simp
    · exact ht.bit a (List.mem_of_mem_drop q)⟩
theorem q19 {p : Nat} {Q : Fl × SL.Env → Store → Prop} (hn : n ≤ 6) (ht : IsTold n told) (hp : p < n) (g : OT t []) (h : ∀ (v : Int) t', (v = 0 ∨ v = 1) → OT t' [] → Q (.nx, EL ns k n rs told j6 j7 j8 j9 j10 (some (.int (p : Int))) j12 (some (.tup ((moreT told p v).map oI))) j14 j15 j16 j17) (TP t' [])) : sat (q_law_19 (EL ns k n rs told j6 j7 j8 j9 j10 (some (.int (p : Int))) j12 j13 j14 j15 j16 j17) (TP t [])) Q := by
  have hz := sz_val
  have hl := ht.len
  have p1 : Ev [] (mSl (mVar 5) pNo (pSome (mVar 11)) (EL ns k n rs told j6 j7 j8 j9 j10 (some (.int (p : Int))) j12 j13 j14 j15 j16 j17)) (.tup (cutD (told.map oI) none (some (p : Int)))) := by
    rfl'
  have p2 : Ev [] (mSl (mVar 5) (pSome (mBin opAdd (mVar 11) (mC (.int 1)))) pNo (EL ns k n rs told j6 j7 j8 j9 j10 (some (.int (p : Int))) j12 j13 j14 j15 j16 j17)) (.tup (cutD (told.map oI) (some ((p + 1 : Nat) : Int)) none)) := by
    apply ev_eq
    · rfl'
    · rfl
  have l1 : (cutD (told.map oI) none (some (p : Int))).length ≤ 6 := by
    rw [cut_take (by rw [List.length_map]; omega), List.length_take, List.length_map]
    omega
  have l2 : (cutD (told.map oI) (some ((p + 1 : Nat) : Int)) none).length ≤ 6 := by
    rw [cut_drop (by rw [List.length_map]; omega), List.length_drop, List.length_map]
    omega
  unfold q_law_19
  refine sw_asg (sw_bin (sw_bin (sw_pure p1 g.cg (sw_tup (sw_acons (sw_call0 (sw_acons (sw_var rfl (sw_acons (sw_c (sw_anil ⟨rfl, ?_⟩)))))))))))
  refine sw_draw g (by omega) (by omega) fun v t1 v0 v1 g1 => sw_anil ⟨by simp only [List.length_cons, List.length_nil]; omega, ?_⟩
  refine sw_pure (os := []) (evo_add_tup (by simp only [List.length_cons, List.length_nil]; omega)) g1.cg ?_
  refine sw_pure p2 g1.cg (sw_pure (os := []) (evo_add_tup (by simp only [List.length_cons, List.length_nil, List.length_append]; omega)) g1.cg ?_)
  have e : cutD (told.map oI) none (some (p : Int)) ++ [.int v] ++ cutD (told.map oI) (some ((p + 1 : Nat) : Int)) none = (moreT told p v).map oI := by
    rw [tk_drop (by omega)]
    simp [moreT, oI]
  rw [e]
  exact h v t1 (by omega) g1
theorem q21 {p l : Nat} {v : Int} (hL : IsLot n rs) (ht : IsTold n told) (hp : p < n) (hv : v = 0 ∨ v = 1) (hl : l ≤ n) : Ev [] (q_law_21 (EL ns k n rs told j6 (some (.int (l : Int))) j8 j9 j10 (some (.int (p : Int))) j12 (some (.tup ((moreT told p v).map oI))) j14 j15 j16 j17)) (.nx, EL ns k n rs told j6 (some (.int (l : Int))) j8 j9 j10 (some (.int (p : Int))) j12 (some (.tup ((moreT told p v).map oI))) j14 j15 j16 j17) := by
  have hn := hL.le
  have hrs := hL.sz
  have hm := moreT_ok ht hp hv
  have l0 : (0 : Int) ≤ l := by omega
  have l6 : (l : Int) ≤ 6 := by omega
  have hlen := ht.len
  have h3 : (leftR rs (moreT told p v) l).length < sizeLine := Nat.lt_of_le_of_lt leftR_len hrs
  unfold q_law_21
  apply ev_sifn
  · rfl'
  · simp only [any_deq (f := iT), deq_lst, deqL_nil, isNon_oI, Int.toNat_natCast]
    by_cases c : told.getD p none = none
    · have e : (told.getD p default) = none := c
      rw [e, Option.isNone_none, Bool.true_and, Bool.not_eq_false', List.isEmpty_iff, List.map_eq_nil_iff, List.filter_eq_nil_iff]
      intro r hr
      obtain ⟨h1, h2⟩ := leftR_mem.mp hr
      have := more_lies (r := r) (v := v) c
      have : r ∈ leftR rs told l := leftR_mem.mpr ⟨h1, Int.le_trans this h2⟩
      simpa using this
    · have e : (told.getD p default).isNone = false := by
        cases h : told.getD p default with
        | none => exact (c h).elim
        | some a => rfl
      rw [e, Bool.false_and]
theorem q23 (hL : IsLot n rs) (ht : IsTold n told) (hne : rs ≠ []) : Ev [] (q_law_23 (EL ns k n rs told j6 j7 j8 j9 j10 j11 (some (.int (botI (rs.map (liesN told))))) j13 j14 j15 j16 j17)) (.nx, EL ns k n rs told j6 j7 j8 j9 j10 j11 (some (.int (botI (rs.map (liesN told))))) j13 j14 j15 j16 j17) := by
  have hn := hL.le
  have hrs := hL.sz
  obtain ⟨r0, hr0, e0⟩ := List.mem_map.mp (botI_mem (l := rs.map (liesN told)) (by simpa using hne))
  have b0 : 0 ≤ botI (rs.map (liesN told)) := by rw [← e0]; exact liesN_nn
  have b6 : botI (rs.map (liesN told)) ≤ 6 := by
    rw [← e0]
    have := liesN_le (r := r0) ht.len
    omega
  have h3 : leftR rs told (botI (rs.map (liesN told))) ≠ [] := left_ne hr0 (by omega)
  have h4 : leftR rs told (botI (rs.map (liesN told)) - 1) = [] := List.filter_eq_nil_iff.mpr fun r hr => by
    have := botI_le (List.mem_map_of_mem (f := liesN told) hr)
    simp
    omega
  unfold q_law_23
  apply ev_sifn
  · rfl'
    all_goals
      rename_i c
      simp only [decide_eq_true_eq] at c
      omega
  · rw [deq_tnil, deq_tnil, h4]
    simp [h3]
theorem q24 {s : List Int} (hs : IsRow n s) (hn : n ≤ 6) : Ev [] (q_law_24 (EL ns k n rs told j6 j7 j8 j9 (some (iT s)) j11 j12 j13 j14 j15 j16 j17)) (.nx, EL ns k n rs told j6 j7 j8 j9 (some (iT s)) j11 j12 j13 (some (iT (backS s))) j15 j16 j17) := by
  have hz := hs.sz hn
  unfold q_law_24
  refine ev_sasg (ev_eq (by rfl') ?_)
  simp [backS, Function.comp_def]
theorem q26 {row s : List Int} {l : Nat} (hL : IsLot n rs) (hr : row ∈ rs) (hs : IsRow n s) (hl : l ≤ n) (he : liesN (asT s) row = l) : Ev [] (q_law_26 (EL ns k n rs told j6 (some (.int (l : Int))) j8 j9 (some (iT s)) j11 j12 j13 (some (iT (backS s))) j15 j16 j17)) (.nx, EL ns k n rs told j6 (some (.int (l : Int))) j8 j9 (some (iT s)) j11 j12 j13 (some (iT (backS s))) j15 j16 j17) := by
  have hn := hL.le
  have hrs := hL.sz
  have ht := hs.told
  have hb := (back_row hs).told
  have hts := ht.sz hn
  have hbs := hb.sz hn
  have l0 : (0 : Int) ≤ (n : Int) - l := by omega
  have l6 : (n : Int) - l ≤ 6 := by omega
  have hlb := lies_back hs (hL.row row hr)
  have h3 : leftR rs (asT (backS s)) ((n : Int) - l) ≠ [] := left_ne hr (by omega)
  rw [iT_asT (r := s), iT_asT (r := backS s)]
  unfold q_law_26
  apply ev_sifn
  · rfl'
  · rw [deq_tnil, deq_lst, deqL_nil]
    simp only [deq_int]
    have e : (rs.filter fun y => !decide (liesN (asT s) y + liesN (asT (backS s)) y = (n : Int))) = [] := List.filter_eq_nil_iff.mpr fun r hr' => by
      simp [lies_back hs (hL.row r hr')]
    rw [e]
    simp [h3]
end
/-- what holds of the law's store between laps -/
def LI (ds : List D) (ρ : SL.Env) (s : Store) : Prop := ∃ (t : Tape) (j2 j3 j4 j5 j6 j7 j8 j9 j10 j11 j12 j13 j14 j15 j16 j17 : Option D), ρ = [some (.lst ds), some (.ref 1), j2, j3, j4, j5, j6, j7, j8, j9, j10, j11, j12, j13, j14, j15, j16, j17] ∧ OT t [] ∧ s = TP t []
theorem q27 {ns : List Int} (hl : ns.length ≤ 63) : sat (q_law_27 [some (.lst (ns.map .int)), some (.ref 1), none, none, none, none, none, none, none, none, none, none, none, none, none, none, none, none] (TP (tape0 ns) [])) fun r s => r.1 = .nx ∧ LI (ns.map .int) r.2 s := by
  unfold q_law_27
  refine sw_for_rng (fun N k ρ s => LI (ns.map .int) ρ s) ?_ ?_ ?_
  · refine sw_pure (os := []) (a := .int ((4 + min ns.length 9 : Nat) : Int)) ?_ (OT.init hl).cg ⟨4 + min ns.length 9, rfl, by omega, tape0 ns, none, none, none, none, none, none, none, none, none, none, none, none, none, none, none, none, rfl, OT.init hl, rfl⟩
    refine ev_eq (by rfl') ?_
    congr 1
    simp only [List.length_map]
    split <;> omega
  · rintro N k _ _ hk ⟨t, j2, j3, j4, j5, j6, j7, j8, j9, j10, j11, j12, j13, j14, j15, j16, j17, rfl, g, rfl⟩
    show sat (Res.bind (Res.ok [some (.lst (ns.map .int)), some (.ref 1), some (.int (k : Int)), j3, j4, j5, j6, j7, j8, j9, j10, j11, j12, j13, j14, j15, j16, j17] _) _) _
    rw [bind_ok]
    unfold q_law_2
    refine sw_seq (sw_asg (sw_call0 (sw_acons (sw_var rfl (sw_acons (sw_c (sw_anil ⟨rfl, ?_⟩)))))))
    refine sw_lot (most := 6) g (by decide) (by decide) fun n rs t1 hn hL g1 => ?_
    refine sw_seq (q3 hL g1 fun told t2 ht g2 => ?_)
    refine sw_seq (sw_pure (q4 hL ht) g2.cg ?_)
    refine sw_seq (sw_pure (q6 hL ht) g2.cg ?_)
    refine sw_sq (P := fun ρ s => (∃ j7, ρ = EL (ns.map .int) (.int (k : Int)) n rs told (some (.lst (rs.map fun r => .int (liesN told r)))) j7 j8 j9 j10 j11 j12 j13 j14 j15 j16 j17) ∧ s = TP t2 []) (q11 hL ht g2) ?_
    rintro _ _ ⟨⟨j7, rfl⟩, rfl⟩
    have p12 : Ev [] (mTest (mBin opEq (mBin opIx (mVar 3) (mC (.int 1))) (mTup aNil)) (EL (ns.map .int) (.int (k : Int)) n rs told (some (.lst (rs.map fun r => .int (liesN told r)))) j7 j8 j9 j10 j11 j12 j13 j14 j15 j16 j17)) rs.isEmpty := ev_eq (by rfl') deq_tnil
    unfold q_law_12
    refine sw_seq (sw_if (sw_pure p12 g2.cg ⟨fun _ => sw_cont ⟨t2, _, _, _, _, _, _, _, _, _, _, _, _, _, _, _, _, rfl, g2, rfl⟩, fun hne => sw_nil ?_⟩))
    have hrs0 : rs ≠ [] := by
      rintro rfl
      cases hne
    refine sw_seq (q13 hL hrs0 g2 fun row l t3 hrow hln g3 => ?_)
    refine sw_seq (q14 hn hln g3 fun A t4 ndA lenA subA g4 => ?_)
    have hR := hL.row row hrow
    have hS := flip_row (a := A) hR
    have eS : liesN (asT (flipS row A)) row = l := by rw [liesN_flip hR ndA subA, lenA]
    have p15 : Ev [] (q_law_15 (EL (ns.map .int) (.int (k : Int)) n rs told (some (.lst (rs.map fun r => .int (liesN told r)))) (some (.int (l : Int))) (some (iT row)) (some (iT A)) j10 j11 j12 j13 j14 j15 j16 j17)) (.nx, EL (ns.map .int) (.int (k : Int)) n rs told (some (.lst (rs.map fun r => .int (liesN told r)))) (some (.int (l : Int))) (some (iT row)) (some (iT A)) (some (iT (flipS row A))) j11 j12 j13 j14 j15 j16 j17) := by
      have hz := hR.sz hn
      unfold q_law_15
      exact ev_sasg (by rfl')
    refine sw_seq (sw_pure p15 g4.cg ?_)
    refine sw_seq (sw_pure (q17 hL hrow hS (by omega) eS) g4.cg ?_)
    refine sw_seq (q18 hL ht hrs0 g4 fun p t5 hp g5 => ?_)
    refine sw_seq (q19 hn ht hp g5 fun v t6 hv g6 => ?_)
    refine sw_seq (sw_pure (q21 hL ht hp hv hln) g6.cg ?_)
    refine sw_seq (sw_pure (q23 hL ht hrs0) g6.cg ?_)
    refine sw_seq (sw_pure (q24 hS hn) g6.cg ?_)
    exact sw_pure (q26 hL hrow hS hln eS) g6.cg ⟨t6, _, _, _, _, _, _, _, _, _, _, _, _, _, _, _, _, rfl, g6, rfl⟩
  · rintro N ρ s h
    exact ⟨rfl, h⟩
theorem srt_self {rs : List (List Int)} (h : rs.Pairwise fun a b => leR a b = true) : srt rs = rs := List.Perm.eq_of_pairwise (le := fun a b => leR a b = true) (fun _ _ _ _ h1 h2 => leR_anti h1 h2) (srt_pw _) h (srt_perm _)
def lot3 : List (List Int) := [[0, 0], [0, 1], [1, 0]]
theorem lot3_ok : IsLot 2 lot3 := ⟨by decide, by decide, fun r hr => by
  simp only [lot3, List.mem_cons, List.not_mem_nil, or_false] at hr
  rcases hr with rfl | rfl | rfl <;> exact ⟨rfl, by decide⟩, by decide, srt_self (by
  unfold lot3
  decide +kernel)⟩
theorem lot3_made {os ρ} : Ev os (closeE (mMake 34 (arity 3 F_Lot___init__) [] (aCons (mC (.int 2)) (aCons (mLst (aCons (mTup (aCons (mC (.int 0)) (aCons (mC (.int 0)) aNil))) (aCons (mTup (aCons (mC (.int 0)) (aCons (mC (.int 1)) aNil))) (aCons (mTup (aCons (mC (.int 1)) (aCons (mC (.int 0)) aNil))) aNil)))) aNil))) ρ) (lotD 2 lot3) := by
  have z := lot_make (os := os) (ρ := ρ) (am := aCons (mC (.int 2)) (aCons (mLst (aCons (mTup (aCons (mC (.int 0)) (aCons (mC (.int 0)) aNil))) (aCons (mTup (aCons (mC (.int 0)) (aCons (mC (.int 1)) aNil))) (aCons (mTup (aCons (mC (.int 1)) (aCons (mC (.int 0)) aNil))) aNil)))) aNil)) (n := 2) (rs := lot3) (by
    refine ev_cons ev_c (ev_cons (ev_lst (ds := lot3.map iT) ?_ (by decide)) ev_nil)
    exact ev_cons (ev_tup (ds := [.int 0, .int 0]) (ev_cons ev_c (ev_cons ev_c ev_nil)) (by decide)) (ev_cons (ev_tup (ds := [.int 0, .int 1]) (ev_cons ev_c (ev_cons ev_c ev_nil)) (by decide)) (ev_cons (ev_tup (ds := [.int 1, .int 0]) (ev_cons ev_c (ev_cons ev_c ev_nil)) (by decide)) ev_nil))) (by decide) (by decide) lot3_ok.row lot3_ok.nd
  rwa [lot3_ok.srt] at z
theorem told_lit {a b : Option Int} (ha : a = none ∨ a = some 0 ∨ a = some 1) (hb : b = none ∨ b = some 0 ∨ b = some 1) : IsTold 2 [a, b] := ⟨rfl, fun x hx => by
  simp only [List.mem_cons, List.not_mem_nil, or_false] at hx
  rcases hx with rfl | rfl
  · exact ha
  · exact hb⟩
theorem tail_ok {ns : List D} {t : Tape} {j2 j3 j4 j5 j6 j7 j8 j9 j10 j11 j12 j13 j14 j15 j16 j17 : Option D} (g : OT t []) : sat (sSeq q_law_28 (sSeq q_law_30 q_law_31) [some (.lst ns), some (.ref 1), j2, j3, j4, j5, j6, j7, j8, j9, j10, j11, j12, j13, j14, j15, j16, j17] (TP t [])) fun r _ => r.1 = .rt (.bl true) := by
  have hL := lot3_ok
  have t11 : IsTold 2 [some 1, some 1] := told_lit (by simp) (by simp)
  have t1n : IsTold 2 [some 1, none] := told_lit (by simp) (by simp)
  have tn1 : IsTold 2 [none, some 1] := told_lit (by simp) (by simp)
  have f1 : Ev [] (F_left_with [lotD 2 lot3, .tup [.int 1, .int 1], .int 1]) (.tup [iT [0, 1], iT [1, 0]]) := by
    have z := left_with_ev (os := []) (l := 1) t11 (by decide) (by decide) (by decide) hL.sz
    rw [show leftR lot3 [some 1, some 1] 1 = [[0, 1], [1, 0]] by decide +kernel] at z
    simp only [List.map_cons, List.map_nil, oI] at z
    exact z
  have f2 : Ev [] (F_sure_with [lotD 2 lot3, .tup [.int 1, .int 1], .int 1]) (.tup [.non, .non]) := by
    have z := sure_with_ev (os := []) (l := 1) t11 (by decide) hL.row (by decide) (by decide) hL.sz
    rw [show leftR lot3 [some 1, some 1] 1 = [[0, 1], [1, 0]] by decide +kernel, if_neg (by decide), show sureS 2 [[0, 1], [1, 0]] = [none, none] by decide +kernel] at z
    simp only [List.map_cons, List.map_nil, oI] at z
    exact z
  have f3 : Ev [] (F_fewest_lies [lotD 2 lot3, .tup [.int 1, .int 1]]) (.int 1) := by
    have z := fewest_lies_ev (os := []) t11 (by decide) hL.sz
    rw [if_neg (by decide), show botI (lot3.map (liesN [some 1, some 1])) = 1 by decide +kernel] at z
    simp only [List.map_cons, List.map_nil, oI] at z
    exact z
  have f4 : Ev [] (F_lies_told [lotD 2 lot3, .tup [.int 1, .int 1], .int 0]) .non := by
    have z := lies_told_ev (os := []) (l := 0) t11 (by decide) hL.row (by decide) (by decide) hL.sz
    rw [if_pos (by decide +kernel)] at z
    simp only [List.map_cons, List.map_nil, oI] at z
    exact z
  have f5 : Ev [] (F_lies_told [lotD 2 lot3, .tup [.int 1, .non], .int 1]) (.tup []) := by
    have z := lies_told_ev (os := []) (l := 1) t1n (by decide) hL.row (by decide) (by decide) hL.sz
    rw [if_neg (by decide +kernel), show liesToldS (leftR lot3 [some 1, none] 1) [some 1, none] = [] by decide +kernel] at z
    simp only [List.map_cons, List.map_nil, oI] at z
    exact z
  have f6 : Ev [] (F_sure_with [lotD 2 lot3, .tup [.non, .int 1], .int 0]) (.tup [.int 0, .int 1]) := by
    have z := sure_with_ev (os := []) (l := 0) tn1 (by decide) hL.row (by decide) (by decide) hL.sz
    rw [if_neg (by decide +kernel), show sureS 2 (leftR lot3 [none, some 1] 0) = [some 0, some 1] by decide +kernel] at z
    simp only [List.map_cons, List.map_nil, oI] at z
    exact z
  have f7 : Ev [] (F_lies_told [lotD 2 lot3, .tup [.int 1, .int 1], .int 1]) (.tup []) := by
    have z := lies_told_ev (os := []) (l := 1) t11 (by decide) hL.row (by decide) (by decide) hL.sz
    rw [if_neg (by decide +kernel), show liesToldS (leftR lot3 [some 1, some 1] 1) [some 1, some 1] = [] by decide +kernel] at z
    simp only [List.map_cons, List.map_nil, oI] at z
    exact z
  unfold q_law_28
  refine sw_seq (sw_asg (sw_pure (os := []) lot3_made g.cg ?_))
  simp only [List.set_cons_zero, List.set_cons_succ]
  have c30 : Ev [] (q_law_30 [some (.lst ns), some (.ref 1), j2, j3, j4, j5, j6, j7, j8, j9, j10, j11, j12, j13, j14, some (lotD 2 lot3), j16, j17]) (.nx, [some (.lst ns), some (.ref 1), j2, j3, j4, j5, j6, j7, j8, j9, j10, j11, j12, j13, j14, some (lotD 2 lot3), j16, j17]) := by
    unfold q_law_30
    apply ev_sifn
    · rfl'
    · decide +kernel
  refine sw_seq (sw_pure c30 g.cg ?_)
  have c31 : EvR [] (q_law_31 [some (.lst ns), some (.ref 1), j2, j3, j4, j5, j6, j7, j8, j9, j10, j11, j12, j13, j14, some (lotD 2 lot3), j16, j17]) (.bl true) := by
    unfold q_law_31
    apply evr_eq
    · rfl'
    · refine congrArg D.bl ?_
      decide +kernel
  obtain ⟨ρ', e⟩ := c31 _ g.cg
  exact sw_eq e rfl
theorem law_run {ns : List Int} (hl : ns.length ≤ 63) : sat (m_law (startE 18 [.lst (ns.map D.int)]) []) fun r _ => r.1 = .rt (.bl true) := by
  have e0 : q_law_1 (startE 18 [.lst (ns.map D.int)]) [] = .ok (.nx, [some (.lst (ns.map .int)), some (.ref 1), none, none, none, none, none, none, none, none, none, none, none, none, none, none, none, none]) (TP (tape0 ns) []) := by
    unfold q_law_1
    refine s_asg (d := .ref 1) (e_call (ds := [.lst (ns.map D.int)]) (st1 := []) rfl rfl (begun_eq (Nat.lt_of_le_of_lt hl (by decide)))) ?_
    rfl
  unfold m_law
  refine sw_seq (sw_eq e0 ?_)
  refine sw_sq (P := LI (ns.map .int)) (q27 hl) ?_
  rintro _ _ ⟨t, j2, j3, j4, j5, j6, j7, j8, j9, j10, j11, j12, j13, j14, j15, j16, j17, rfl, g, rfl⟩
  exact tail_ok g
theorem plain (ns : List Int) (hl : ns.length ≤ 63) (hb : ∀ z ∈ ns, Builtin.Int.intBits z ≤ 1048576) : F_law [.lst (ns.map D.int)] [] = .ok (.bl true) [] := by
  obtain ⟨⟨fl, ρ'⟩, st', e, h⟩ := sat_iff.mp (law_run hl)
  obtain rfl : fl = .rt (.bl true) := h
  have z := fn_ret (N := 18) (m := m_law) (ds := [.lst (ns.map D.int)]) (st := []) (d := .bl true) e rfl rfl
  simp only [List.length_nil, List.take_zero] at z
  exact z
end Lk63
set_option maxRecDepth 100000
set_option maxHeartbeats 4000000
namespace Lk63
open PySem PySem.Spec PyProof.Rows L2 PySem.W SL
abbrev PR : Program := PySem.Challenge.pw_fullfree_k63_whole_rows_left_with_lies
def top (i : Nat) : Stmt := PR.main.body.getD i (.Pass ⟨0, 0, 0, 0⟩)
def clsBody : Stmt → List Stmt
  | .ClassDef _ _ _ b _ _ _ _ _ _ _ => b
  | _ => []
def inC (i j : Nat) : Stmt := (clsBody (top i)).getD j (.Pass ⟨0, 0, 0, 0⟩)
abbrev s_is_number : Stmt := top 10
abbrev s_is_between : Stmt := top 11
abbrev s_is_list : Stmt := top 12
abbrev s_is_tuple_of : Stmt := top 13
abbrev s_is_row : Stmt := top 16
abbrev s_need_rows : Stmt := top 17
abbrev s_Lot___init__ : Stmt := inC 18 0
abbrev s__law_begun : Stmt := top 35
abbrev s__law_blend : Stmt := top 36
abbrev s__law_draw : Stmt := top 37
abbrev s__law_caught : Stmt := top 39
abbrev s__law_is_of : Stmt := top 48
abbrev s_Lot_rows : Stmt := inC 18 2
abbrev s_lies_in : Stmt := top 27
abbrev s_need_lot : Stmt := top 19
abbrev s_Lot_places : Stmt := inC 18 1
abbrev s_is_told : Stmt := top 21
abbrev s_need_told : Stmt := top 22
abbrev s_fewest_lies : Stmt := top 31
abbrev s_left_by : Stmt := top 28
abbrev s_need_lies : Stmt := top 25
abbrev s_need_told_lies : Stmt := top 26
abbrev s_left_with : Stmt := top 29
abbrev s_wrong_places : Stmt := top 32
abbrev s_lies_told : Stmt := top 33
abbrev s_sure_with : Stmt := top 30
abbrev s__law_errors_right : Stmt := top 50
abbrev s__law_flip : Stmt := top 42
abbrev s__law_lies : Stmt := top 46
abbrev s__law_below : Stmt := top 43
abbrev s__law_pick : Stmt := top 38
abbrev s__law_rows : Stmt := top 41
abbrev s__law_lot : Stmt := top 44
abbrev s__law_made : Stmt := top 45
abbrev s__law_shuffled : Stmt := top 40
abbrev s__law_told : Stmt := top 47
abbrev s__law_told_right : Stmt := top 49
abbrev s_law : Stmt := top 51
def d_is_number : He.DefD := ⟨("is_number", none), "is_number", "is_number", defArgs s_is_number, defBody s_is_number, defScope s_is_number, [], []⟩
def d_is_between : He.DefD := ⟨("is_between", none), "is_between", "is_between", defArgs s_is_between, defBody s_is_between, defScope s_is_between, [], []⟩
def d_is_list : He.DefD := ⟨("is_list", none), "is_list", "is_list", defArgs s_is_list, defBody s_is_list, defScope s_is_list, [], []⟩
def d_is_tuple_of : He.DefD := ⟨("is_tuple_of", none), "is_tuple_of", "is_tuple_of", defArgs s_is_tuple_of, defBody s_is_tuple_of, defScope s_is_tuple_of, [], []⟩
def d_is_row : He.DefD := ⟨("is_row", none), "is_row", "is_row", defArgs s_is_row, defBody s_is_row, defScope s_is_row, [], []⟩
def d_need_rows : He.DefD := ⟨("need_rows", none), "need_rows", "need_rows", defArgs s_need_rows, defBody s_need_rows, defScope s_need_rows, [], []⟩
def d_Lot___init__ : He.DefD := ⟨("Lot", some "__init__"), "__init__", "Lot.__init__", defArgs s_Lot___init__, defBody s_Lot___init__, defScope s_Lot___init__, [], []⟩
def d__law_begun : He.DefD := ⟨("_law_begun", none), "_law_begun", "_law_begun", defArgs s__law_begun, defBody s__law_begun, defScope s__law_begun, [], []⟩
def d__law_blend : He.DefD := ⟨("_law_blend", none), "_law_blend", "_law_blend", defArgs s__law_blend, defBody s__law_blend, defScope s__law_blend, [], []⟩
def d__law_draw : He.DefD := ⟨("_law_draw", none), "_law_draw", "_law_draw", defArgs s__law_draw, defBody s__law_draw, defScope s__law_draw, [], []⟩
def d__law_caught : He.DefD := ⟨("_law_caught", none), "_law_caught", "_law_caught", defArgs s__law_caught, defBody s__law_caught, defScope s__law_caught, [], []⟩
def d__law_is_of : He.DefD := ⟨("_law_is_of", none), "_law_is_of", "_law_is_of", defArgs s__law_is_of, defBody s__law_is_of, defScope s__law_is_of, [], []⟩
def d_lies_in : He.DefD := ⟨("lies_in", none), "lies_in", "lies_in", defArgs s_lies_in, defBody s_lies_in, defScope s_lies_in, [], []⟩
def d_need_lot : He.DefD := ⟨("need_lot", none), "need_lot", "need_lot", defArgs s_need_lot, defBody s_need_lot, defScope s_need_lot, [.non], []⟩
def d_is_told : He.DefD := ⟨("is_told", none), "is_told", "is_told", defArgs s_is_told, defBody s_is_told, defScope s_is_told, [], []⟩
def d_need_told : He.DefD := ⟨("need_told", none), "need_told", "need_told", defArgs s_need_told, defBody s_need_told, defScope s_need_told, [], []⟩
def d_fewest_lies : He.DefD := ⟨("fewest_lies", none), "fewest_lies", "fewest_lies", defArgs s_fewest_lies, defBody s_fewest_lies, defScope s_fewest_lies, [], []⟩
def d_left_by : He.DefD := ⟨("left_by", none), "left_by", "left_by", defArgs s_left_by, defBody s_left_by, defScope s_left_by, [], []⟩
def d_need_lies : He.DefD := ⟨("need_lies", none), "need_lies", "need_lies", defArgs s_need_lies, defBody s_need_lies, defScope s_need_lies, [], []⟩
def d_need_told_lies : He.DefD := ⟨("need_told_lies", none), "need_told_lies", "need_told_lies", defArgs s_need_told_lies, defBody s_need_told_lies, defScope s_need_told_lies, [], []⟩
def d_left_with : He.DefD := ⟨("left_with", none), "left_with", "left_with", defArgs s_left_with, defBody s_left_with, defScope s_left_with, [], []⟩
def d_wrong_places : He.DefD := ⟨("wrong_places", none), "wrong_places", "wrong_places", defArgs s_wrong_places, defBody s_wrong_places, defScope s_wrong_places, [], []⟩
def d_lies_told : He.DefD := ⟨("lies_told", none), "lies_told", "lies_told", defArgs s_lies_told, defBody s_lies_told, defScope s_lies_told, [], []⟩
def d_sure_with : He.DefD := ⟨("sure_with", none), "sure_with", "sure_with", defArgs s_sure_with, defBody s_sure_with, defScope s_sure_with, [], []⟩
def d__law_errors_right : He.DefD := ⟨("_law_errors_right", none), "_law_errors_right", "_law_errors_right", defArgs s__law_errors_right, defBody s__law_errors_right, defScope s__law_errors_right, [], []⟩
def d__law_flip : He.DefD := ⟨("_law_flip", none), "_law_flip", "_law_flip", defArgs s__law_flip, defBody s__law_flip, defScope s__law_flip, [], []⟩
def d__law_lies : He.DefD := ⟨("_law_lies", none), "_law_lies", "_law_lies", defArgs s__law_lies, defBody s__law_lies, defScope s__law_lies, [], []⟩
def d__law_below : He.DefD := ⟨("_law_below", none), "_law_below", "_law_below", defArgs s__law_below, defBody s__law_below, defScope s__law_below, [], []⟩
def d__law_pick : He.DefD := ⟨("_law_pick", none), "_law_pick", "_law_pick", defArgs s__law_pick, defBody s__law_pick, defScope s__law_pick, [], []⟩
def d__law_rows : He.DefD := ⟨("_law_rows", none), "_law_rows", "_law_rows", defArgs s__law_rows, defBody s__law_rows, defScope s__law_rows, [], []⟩
def d__law_lot : He.DefD := ⟨("_law_lot", none), "_law_lot", "_law_lot", defArgs s__law_lot, defBody s__law_lot, defScope s__law_lot, [], []⟩
def d__law_made : He.DefD := ⟨("_law_made", none), "_law_made", "_law_made", defArgs s__law_made, defBody s__law_made, defScope s__law_made, [], []⟩
def d__law_shuffled : He.DefD := ⟨("_law_shuffled", none), "_law_shuffled", "_law_shuffled", defArgs s__law_shuffled, defBody s__law_shuffled, defScope s__law_shuffled, [], []⟩
def d__law_told : He.DefD := ⟨("_law_told", none), "_law_told", "_law_told", defArgs s__law_told, defBody s__law_told, defScope s__law_told, [], []⟩
def d__law_told_right : He.DefD := ⟨("_law_told_right", none), "_law_told_right", "_law_told_right", defArgs s__law_told_right, defBody s__law_told_right, defScope s__law_told_right, [], []⟩
def d_law : He.DefD := ⟨("law", none), "law", "law", defArgs s_law, defBody s_law, defScope s_law, [], []⟩
def fn : List He.DefD := [d_is_number, d_is_between, d_is_list, d_is_tuple_of, d_is_row, d_need_rows, d_Lot___init__, d__law_begun, d__law_blend, d__law_draw, d__law_caught, d__law_is_of, d_lies_in, d_need_lot, d_is_told, d_need_told, d_fewest_lies, d_left_by, d_need_lies, d_need_told_lies, d_left_with, d_wrong_places, d_lies_told, d_sure_with, d__law_errors_right, d__law_flip, d__law_lies, d__law_below, d__law_pick, d__law_rows, d__law_lot, d__law_made, d__law_shuffled, d__law_told, d__law_told_right, d_law]
def r_Lot_rows : PrF := ⟨"Lot", "rows", "Lot.rows", defArgs s_Lot_rows, defBody s_Lot_rows, defScope s_Lot_rows⟩
def r_Lot_places : PrF := ⟨"Lot", "places", "Lot.places", defArgs s_Lot_places, defBody s_Lot_places, defScope s_Lot_places⟩
def pr : List PrF := [r_Lot_rows, r_Lot_places]
abbrev i_PartError : Stmt := inC 2 0
def ini_PartError : IniF := ⟨"PartError", "PartError.__init__", defArgs i_PartError, defBody i_PartError, defScope i_PartError⟩
abbrev i_ItemError : Stmt := inC 3 0
def ini_ItemError : IniF := ⟨"ItemError", "ItemError.__init__", defArgs i_ItemError, defBody i_ItemError, defScope i_ItemError⟩
def ini : List IniF := [ini_PartError, ini_ItemError]
def tf : List He.Defn := [("_law_errors_right", none)]
def fnm : Nat → He.Defn := fun i => (([("is_number", none), ("is_between", none), ("is_list", none), ("is_tuple_of", none), ("is_row", none), ("need_rows", none), ("need_lot", none), ("is_told", none), ("need_told", none), ("need_lies", none), ("need_told_lies", none), ("lies_in", none), ("left_by", none), ("left_with", none), ("sure_with", none), ("fewest_lies", none), ("wrong_places", none), ("lies_told", none), ("_law_begun", none), ("_law_blend", none), ("_law_draw", none), ("_law_pick", none), ("_law_caught", none), ("_law_shuffled", none), ("_law_rows", none)] : List He.Defn) ++ ([("_law_flip", none), ("_law_below", none), ("_law_lot", none), ("_law_made", none), ("_law_lies", none), ("_law_told", none), ("_law_is_of", none), ("_law_told_right", none), ("_law_errors_right", none), ("law", none)] : List He.Defn)).getD i ("", none)
def cnm : Nat → Str := fun i => ((["LotError", "PartError", "ItemError", "BadNumber", "NoLot", "BadRows", "", "", "", "", "BadPlaces", "", "", "", "", "", "BadTold", "", "", "", "", "", "", "", ""] : List Str) ++ (["", "", "", "", "", "", "", "", "", "Lot", "", "", ""] : List Str)).getD i ""
def flds : Nat → List Str := fun i => (([[], ["part"], ["index"], ["part"], ["part"], ["index"], [], [], [], [], [], [], [], [], [], [], [], [], [], [], [], [], [], [], []] : List (List Str)) ++ ([[], [], [], [], [], [], [], [], [], ["own_places", "own_rows", "own_known"], [], [], []] : List (List Str))).getD i []
def qn : He.Defn → Str := fun p => p.1 ++ ".<locals>." ++ "<lambda>"
def TT (K : Frag) : Tab := ⟨fun i => He.fAd K (fnm i), fun c => He.ga K (cnm c), flds, tf.map fun p => ((He.cT K p).2, qn p)⟩
def fa : List He.Fa := [.glo "is_number", .glo "is_between", .glo "is_list", .glo "is_tuple_of", .glo "is_row", .glo "need_rows", .glo "need_lot", .glo "is_told", .glo "need_told", .glo "need_lies", .glo "need_told_lies", .glo "lies_in", .glo "left_by", .glo "left_with", .glo "sure_with", .glo "fewest_lies", .glo "wrong_places", .glo "lies_told", .glo "_law_begun", .glo "_law_blend", .glo "_law_draw", .glo "_law_pick", .glo "_law_caught", .glo "_law_shuffled", .glo "_law_rows", .glo "_law_flip", .glo "_law_below", .glo "_law_lot", .glo "_law_made", .glo "_law_lies", .glo "_law_told", .glo "_law_is_of", .glo "_law_told_right", .glo "_law_errors_right", .glo "law", .glo "LotError", .glo "PartError", .glo "ItemError", .glo "BadNumber", .glo "NoLot", .glo "BadRows", .glo "BadPlaces", .glo "BadTold", .glo "Lot", .free "abs", .free "all", .free "bool", .free "enumerate", .free "int", .free "isinstance", .free "len", .free "list", .free "min", .free "range", .free "set", .free "sorted", .free "super", .free "tuple", .free "zip", .int "MOST_PLACES" 6, .int "MOST_LIES" 6, .cls "Lot", .noat "Lot" "own_places", .noat "Lot" "own_rows", .noat "Lot" "own_known", .mkr "Lot", .exc "BadPlaces", .exc "BadTold"]
def exs : List (Frag → Bool) := [fun K => propB K "Lot" "rows", fun K => prB K r_Lot_rows, fun K => propB K "Lot" "places", fun K => prB K r_Lot_places, fun K => isaB K (TT K) isa_bool [.type "bool"], fun K => isaB K (TT K) isa_int [.type "int"], fun K => isaB K (TT K) isa_list_tuple [.type "list", .type "tuple"], fun K => isaB K (TT K) isa_tuple [.type "tuple"], fun K => isaB K (TT K) isa_NoLot [.ref (He.ga K "NoLot")], fun K => isaB K (TT K) isa_BadTold [.ref (He.ga K "BadTold")], fun K => isaB K (TT K) isa_BadNumber [.ref (He.ga K "BadNumber")], fun K => isaB K (TT K) isa_Lot [.ref (He.ga K "Lot")], fun K => ([2, 5] : List Nat).all fun c => xfldB K ((TT K).ca c) "index" && decide ((TT K).fl c = (["index"] : List Str)), fun K => ([1, 3, 4] : List Nat).all fun c => xfldB K ((TT K).ca c) "part" && decide ((TT K).fl c = (["part"] : List Str)), fun K => ([0, 1, 2, 3, 4, 5, 10, 16] : List Nat).all fun c => decide (exmOne K (.ref ((TT K).ca c)) (.ref (He.ga K "LotError")) = some true), fun K => decide ((tf.map fun p => (He.cT K p).2).Nodup), fun K => iniB PR K "PartError" "PartError.__init__", fun K => iniB PR K "ItemError" "ItemError.__init__", fun K => raise1B K "BadNumber" "PartError" "part", fun K => raise1B K "NoLot" "PartError" "part", fun K => raise1B K "BadRows" "ItemError" "index", fun K => noListB K]
def ex (K : Frag) : Bool := exs.all fun f => f K
def loose : List Str := (["LotError", "PartError", "ItemError", "BadNumber", "NoLot", "BadRows", "BadPlaces", "BadTold", "is_number", "is_between", "is_list", "is_tuple_of", "MOST_PLACES", "is_row", "need_rows", "Lot", "need_lot", "is_told", "need_told", "MOST_LIES", "need_lies", "need_told_lies", "lies_in", "left_by", "left_with", "sure_with", "fewest_lies", "wrong_places", "lies_told", "_law_begun"] : List Str) ++ (["_law_blend", "_law_draw", "_law_pick", "_law_caught", "_law_shuffled", "_law_rows", "_law_flip", "_law_below", "_law_lot", "_law_made", "_law_lies", "_law_told", "_law_is_of", "_law_told_right", "_law_errors_right"] : List Str)
structure Ctx (w : World) (K : Frag) (mg : Str → Option Value) (base h : Heap) : Prop where
  c : SaysS fa fn tf ini pr ex w h K
  X : K.In h
  G : h.Ns mainGlobals mg
  tab : ∀ p ∈ tf.map (He.cT K), LamX.TabB base mg p.1 p.2
section
variable {w : World} {K : Frag} {mg : Str → Option Value} {base h : Heap}
theorem Ctx.more (C : Ctx w K mg base h) (i : Nat) {f : Frag → Bool} (e : exs[i]? = some f) : f K = true := List.all_eq_true.mp C.c.x.more f (List.mem_of_getElem? e)
theorem Ctx.g_is_number (C : Ctx w K mg base h) : mg "is_number" = some (.ref (He.ga K "is_number")) := He.glo_ok C.X C.G (C.c.fact 0 (f := .glo "is_number") rfl)
theorem Ctx.g_is_between (C : Ctx w K mg base h) : mg "is_between" = some (.ref (He.ga K "is_between")) := He.glo_ok C.X C.G (C.c.fact 1 (f := .glo "is_between") rfl)
theorem Ctx.g_is_list (C : Ctx w K mg base h) : mg "is_list" = some (.ref (He.ga K "is_list")) := He.glo_ok C.X C.G (C.c.fact 2 (f := .glo "is_list") rfl)
theorem Ctx.g_is_tuple_of (C : Ctx w K mg base h) : mg "is_tuple_of" = some (.ref (He.ga K "is_tuple_of")) := He.glo_ok C.X C.G (C.c.fact 3 (f := .glo "is_tuple_of") rfl)
theorem Ctx.g_is_row (C : Ctx w K mg base h) : mg "is_row" = some (.ref (He.ga K "is_row")) := He.glo_ok C.X C.G (C.c.fact 4 (f := .glo "is_row") rfl)
theorem Ctx.g_need_rows (C : Ctx w K mg base h) : mg "need_rows" = some (.ref (He.ga K "need_rows")) := He.glo_ok C.X C.G (C.c.fact 5 (f := .glo "need_rows") rfl)
theorem Ctx.g_need_lot (C : Ctx w K mg base h) : mg "need_lot" = some (.ref (He.ga K "need_lot")) := He.glo_ok C.X C.G (C.c.fact 6 (f := .glo "need_lot") rfl)
theorem Ctx.g_is_told (C : Ctx w K mg base h) : mg "is_told" = some (.ref (He.ga K "is_told")) := He.glo_ok C.X C.G (C.c.fact 7 (f := .glo "is_told") rfl)
theorem Ctx.g_need_told (C : Ctx w K mg base h) : mg "need_told" = some (.ref (He.ga K "need_told")) := He.glo_ok C.X C.G (C.c.fact 8 (f := .glo "need_told") rfl)
theorem Ctx.g_need_lies (C : Ctx w K mg base h) : mg "need_lies" = some (.ref (He.ga K "need_lies")) := He.glo_ok C.X C.G (C.c.fact 9 (f := .glo "need_lies") rfl)
theorem Ctx.g_need_told_lies (C : Ctx w K mg base h) : mg "need_told_lies" = some (.ref (He.ga K "need_told_lies")) := He.glo_ok C.X C.G (C.c.fact 10 (f := .glo "need_told_lies") rfl)
theorem Ctx.g_lies_in (C : Ctx w K mg base h) : mg "lies_in" = some (.ref (He.ga K "lies_in")) := He.glo_ok C.X C.G (C.c.fact 11 (f := .glo "lies_in") rfl)
theorem Ctx.g_left_by (C : Ctx w K mg base h) : mg "left_by" = some (.ref (He.ga K "left_by")) := He.glo_ok C.X C.G (C.c.fact 12 (f := .glo "left_by") rfl)
theorem Ctx.g_left_with (C : Ctx w K mg base h) : mg "left_with" = some (.ref (He.ga K "left_with")) := He.glo_ok C.X C.G (C.c.fact 13 (f := .glo "left_with") rfl)
theorem Ctx.g_sure_with (C : Ctx w K mg base h) : mg "sure_with" = some (.ref (He.ga K "sure_with")) := He.glo_ok C.X C.G (C.c.fact 14 (f := .glo "sure_with") rfl)
theorem Ctx.g_fewest_lies (C : Ctx w K mg base h) : mg "fewest_lies" = some (.ref (He.ga K "fewest_lies")) := He.glo_ok C.X C.G (C.c.fact 15 (f := .glo "fewest_lies") rfl)
theorem Ctx.g_wrong_places (C : Ctx w K mg base h) : mg "wrong_places" = some (.ref (He.ga K "wrong_places")) := He.glo_ok C.X C.G (C.c.fact 16 (f := .glo "wrong_places") rfl)
theorem Ctx.g_lies_told (C : Ctx w K mg base h) : mg "lies_told" = some (.ref (He.ga K "lies_told")) := He.glo_ok C.X C.G (C.c.fact 17 (f := .glo "lies_told") rfl)
theorem Ctx.g__law_begun (C : Ctx w K mg base h) : mg "_law_begun" = some (.ref (He.ga K "_law_begun")) := He.glo_ok C.X C.G (C.c.fact 18 (f := .glo "_law_begun") rfl)
theorem Ctx.g__law_blend (C : Ctx w K mg base h) : mg "_law_blend" = some (.ref (He.ga K "_law_blend")) := He.glo_ok C.X C.G (C.c.fact 19 (f := .glo "_law_blend") rfl)
theorem Ctx.g__law_draw (C : Ctx w K mg base h) : mg "_law_draw" = some (.ref (He.ga K "_law_draw")) := He.glo_ok C.X C.G (C.c.fact 20 (f := .glo "_law_draw") rfl)
theorem Ctx.g__law_pick (C : Ctx w K mg base h) : mg "_law_pick" = some (.ref (He.ga K "_law_pick")) := He.glo_ok C.X C.G (C.c.fact 21 (f := .glo "_law_pick") rfl)
theorem Ctx.g__law_caught (C : Ctx w K mg base h) : mg "_law_caught" = some (.ref (He.ga K "_law_caught")) := He.glo_ok C.X C.G (C.c.fact 22 (f := .glo "_law_caught") rfl)
theorem Ctx.g__law_shuffled (C : Ctx w K mg base h) : mg "_law_shuffled" = some (.ref (He.ga K "_law_shuffled")) := He.glo_ok C.X C.G (C.c.fact 23 (f := .glo "_law_shuffled") rfl)
theorem Ctx.g__law_rows (C : Ctx w K mg base h) : mg "_law_rows" = some (.ref (He.ga K "_law_rows")) := He.glo_ok C.X C.G (C.c.fact 24 (f := .glo "_law_rows") rfl)
theorem Ctx.g__law_flip (C : Ctx w K mg base h) : mg "_law_flip" = some (.ref (He.ga K "_law_flip")) := He.glo_ok C.X C.G (C.c.fact 25 (f := .glo "_law_flip") rfl)
theorem Ctx.g__law_below (C : Ctx w K mg base h) : mg "_law_below" = some (.ref (He.ga K "_law_below")) := He.glo_ok C.X C.G (C.c.fact 26 (f := .glo "_law_below") rfl)
theorem Ctx.g__law_lot (C : Ctx w K mg base h) : mg "_law_lot" = some (.ref (He.ga K "_law_lot")) := He.glo_ok C.X C.G (C.c.fact 27 (f := .glo "_law_lot") rfl)
theorem Ctx.g__law_made (C : Ctx w K mg base h) : mg "_law_made" = some (.ref (He.ga K "_law_made")) := He.glo_ok C.X C.G (C.c.fact 28 (f := .glo "_law_made") rfl)
theorem Ctx.g__law_lies (C : Ctx w K mg base h) : mg "_law_lies" = some (.ref (He.ga K "_law_lies")) := He.glo_ok C.X C.G (C.c.fact 29 (f := .glo "_law_lies") rfl)
theorem Ctx.g__law_told (C : Ctx w K mg base h) : mg "_law_told" = some (.ref (He.ga K "_law_told")) := He.glo_ok C.X C.G (C.c.fact 30 (f := .glo "_law_told") rfl)
theorem Ctx.g__law_is_of (C : Ctx w K mg base h) : mg "_law_is_of" = some (.ref (He.ga K "_law_is_of")) := He.glo_ok C.X C.G (C.c.fact 31 (f := .glo "_law_is_of") rfl)
theorem Ctx.g__law_told_right (C : Ctx w K mg base h) : mg "_law_told_right" = some (.ref (He.ga K "_law_told_right")) := He.glo_ok C.X C.G (C.c.fact 32 (f := .glo "_law_told_right") rfl)
theorem Ctx.g__law_errors_right (C : Ctx w K mg base h) : mg "_law_errors_right" = some (.ref (He.ga K "_law_errors_right")) := He.glo_ok C.X C.G (C.c.fact 33 (f := .glo "_law_errors_right") rfl)
theorem Ctx.g_law (C : Ctx w K mg base h) : mg "law" = some (.ref (He.ga K "law")) := He.glo_ok C.X C.G (C.c.fact 34 (f := .glo "law") rfl)
theorem Ctx.g_LotError (C : Ctx w K mg base h) : mg "LotError" = some (.ref (He.ga K "LotError")) := He.glo_ok C.X C.G (C.c.fact 35 (f := .glo "LotError") rfl)
theorem Ctx.g_PartError (C : Ctx w K mg base h) : mg "PartError" = some (.ref (He.ga K "PartError")) := He.glo_ok C.X C.G (C.c.fact 36 (f := .glo "PartError") rfl)
theorem Ctx.g_ItemError (C : Ctx w K mg base h) : mg "ItemError" = some (.ref (He.ga K "ItemError")) := He.glo_ok C.X C.G (C.c.fact 37 (f := .glo "ItemError") rfl)
theorem Ctx.g_BadNumber (C : Ctx w K mg base h) : mg "BadNumber" = some (.ref (He.ga K "BadNumber")) := He.glo_ok C.X C.G (C.c.fact 38 (f := .glo "BadNumber") rfl)
theorem Ctx.g_NoLot (C : Ctx w K mg base h) : mg "NoLot" = some (.ref (He.ga K "NoLot")) := He.glo_ok C.X C.G (C.c.fact 39 (f := .glo "NoLot") rfl)
theorem Ctx.g_BadRows (C : Ctx w K mg base h) : mg "BadRows" = some (.ref (He.ga K "BadRows")) := He.glo_ok C.X C.G (C.c.fact 40 (f := .glo "BadRows") rfl)
theorem Ctx.g_BadPlaces (C : Ctx w K mg base h) : mg "BadPlaces" = some (.ref (He.ga K "BadPlaces")) := He.glo_ok C.X C.G (C.c.fact 41 (f := .glo "BadPlaces") rfl)
theorem Ctx.g_BadTold (C : Ctx w K mg base h) : mg "BadTold" = some (.ref (He.ga K "BadTold")) := He.glo_ok C.X C.G (C.c.fact 42 (f := .glo "BadTold") rfl)
theorem Ctx.g_Lot (C : Ctx w K mg base h) : mg "Lot" = some (.ref (He.ga K "Lot")) := He.glo_ok C.X C.G (C.c.fact 43 (f := .glo "Lot") rfl)
theorem Ctx.b_abs (C : Ctx w K mg base h) : mg "abs" = none := He.free_ok C.X C.G (C.c.fact 44 (f := .free "abs") rfl)
theorem Ctx.b_all (C : Ctx w K mg base h) : mg "all" = none := He.free_ok C.X C.G (C.c.fact 45 (f := .free "all") rfl)
theorem Ctx.b_bool (C : Ctx w K mg base h) : mg "bool" = none := He.free_ok C.X C.G (C.c.fact 46 (f := .free "bool") rfl)
theorem Ctx.b_enumerate (C : Ctx w K mg base h) : mg "enumerate" = none := He.free_ok C.X C.G (C.c.fact 47 (f := .free "enumerate") rfl)
theorem Ctx.b_int (C : Ctx w K mg base h) : mg "int" = none := He.free_ok C.X C.G (C.c.fact 48 (f := .free "int") rfl)
theorem Ctx.b_isinstance (C : Ctx w K mg base h) : mg "isinstance" = none := He.free_ok C.X C.G (C.c.fact 49 (f := .free "isinstance") rfl)
theorem Ctx.b_len (C : Ctx w K mg base h) : mg "len" = none := He.free_ok C.X C.G (C.c.fact 50 (f := .free "len") rfl)
theorem Ctx.b_list (C : Ctx w K mg base h) : mg "list" = none := He.free_ok C.X C.G (C.c.fact 51 (f := .free "list") rfl)
theorem Ctx.b_min (C : Ctx w K mg base h) : mg "min" = none := He.free_ok C.X C.G (C.c.fact 52 (f := .free "min") rfl)
theorem Ctx.b_range (C : Ctx w K mg base h) : mg "range" = none := He.free_ok C.X C.G (C.c.fact 53 (f := .free "range") rfl)
theorem Ctx.b_set (C : Ctx w K mg base h) : mg "set" = none := He.free_ok C.X C.G (C.c.fact 54 (f := .free "set") rfl)
theorem Ctx.b_sorted (C : Ctx w K mg base h) : mg "sorted" = none := He.free_ok C.X C.G (C.c.fact 55 (f := .free "sorted") rfl)
theorem Ctx.b_super (C : Ctx w K mg base h) : mg "super" = none := He.free_ok C.X C.G (C.c.fact 56 (f := .free "super") rfl)
theorem Ctx.b_tuple (C : Ctx w K mg base h) : mg "tuple" = none := He.free_ok C.X C.G (C.c.fact 57 (f := .free "tuple") rfl)
theorem Ctx.b_zip (C : Ctx w K mg base h) : mg "zip" = none := He.free_ok C.X C.G (C.c.fact 58 (f := .free "zip") rfl)
theorem Ctx.v_MOST_PLACES (C : Ctx w K mg base h) : ∃ t, mg "MOST_PLACES" = some (.int 6 t) := He.int_ok C.X C.G (C.c.fact 59 (f := .int "MOST_PLACES" 6) rfl)
theorem Ctx.v_MOST_LIES (C : Ctx w K mg base h) : ∃ t, mg "MOST_LIES" = some (.int 6 t) := He.int_ok C.X C.G (C.c.fact 60 (f := .int "MOST_LIES" 6) rfl)
theorem Ctx.cls_Lot (C : Ctx w K mg base h) : Cls K ((TT K).ca 34) := He.cls_ok (C.c.fact 61 (f := .cls "Lot") rfl)
theorem nf_Lot : (flds 34).Nodup := by decide +kernel
theorem nl_Lot : (flds 34).length < 1000 := by decide +kernel
theorem Ctx.na_Lot_own_places (C : Ctx w K mg base h) : NoAttr K ((TT K).ca 34) "own_places" := He.noat_ok (C.c.fact 62 (f := .noat "Lot" "own_places") rfl)
theorem Ctx.na_Lot_own_rows (C : Ctx w K mg base h) : NoAttr K ((TT K).ca 34) "own_rows" := He.noat_ok (C.c.fact 63 (f := .noat "Lot" "own_rows") rfl)
theorem Ctx.na_Lot_own_known (C : Ctx w K mg base h) : NoAttr K ((TT K).ca 34) "own_known" := He.noat_ok (C.c.fact 64 (f := .noat "Lot" "own_known") rfl)
theorem Ctx.mk_Lot (C : Ctx w K mg base h) : Mk K ((TT K).ca 34) (He.fAd K ("Lot", some "__init__")) := He.mkr_ok (C.c.fact 65 (f := .mkr "Lot") rfl)
theorem Ctx.pr_Lot_rows (C : Ctx w K mg base h) : PropOf K ((TT K).ca 34) "rows" (prA K "Lot" "rows") (prG K "Lot" "rows") := propB_ok (C.more 0 rfl)
theorem Ctx.pr_Lot_places (C : Ctx w K mg base h) : PropOf K ((TT K).ca 34) "places" (prA K "Lot" "places") (prG K "Lot" "places") := propB_ok (C.more 2 rfl)
theorem Ctx.isa_bool (C : Ctx w K mg base h) : ∀ t b, ansL isa_bool t = some b → kitOne K (tagV (TT K) t) (.type "bool") = some b ∧ TagOk K (TT K) t := isaB_one (C.more 4 rfl)
theorem Ctx.isa_int (C : Ctx w K mg base h) : ∀ t b, ansL isa_int t = some b → kitOne K (tagV (TT K) t) (.type "int") = some b ∧ TagOk K (TT K) t := isaB_one (C.more 5 rfl)
theorem Ctx.isa_list_tuple (C : Ctx w K mg base h) : ∀ t b, ansL isa_list_tuple t = some b → kitAny K (tagV (TT K) t) [.type "list", .type "tuple"] = some b ∧ TagOk K (TT K) t := isaB_ok (C.more 6 rfl)
theorem Ctx.isa_tuple (C : Ctx w K mg base h) : ∀ t b, ansL isa_tuple t = some b → kitOne K (tagV (TT K) t) (.type "tuple") = some b ∧ TagOk K (TT K) t := isaB_one (C.more 7 rfl)
theorem Ctx.isa_NoLot (C : Ctx w K mg base h) : ∀ t b, ansL isa_NoLot t = some b → kitOne K (tagV (TT K) t) (.ref (He.ga K "NoLot")) = some b ∧ TagOk K (TT K) t := isaB_one (C.more 8 rfl)
theorem Ctx.isa_BadTold (C : Ctx w K mg base h) : ∀ t b, ansL isa_BadTold t = some b → kitOne K (tagV (TT K) t) (.ref (He.ga K "BadTold")) = some b ∧ TagOk K (TT K) t := isaB_one (C.more 9 rfl)
theorem Ctx.isa_BadNumber (C : Ctx w K mg base h) : ∀ t b, ansL isa_BadNumber t = some b → kitOne K (tagV (TT K) t) (.ref (He.ga K "BadNumber")) = some b ∧ TagOk K (TT K) t := isaB_one (C.more 10 rfl)
theorem Ctx.isa_Lot (C : Ctx w K mg base h) : ∀ t b, ansL isa_Lot t = some b → kitOne K (tagV (TT K) t) (.ref (He.ga K "Lot")) = some b ∧ TagOk K (TT K) t := isaB_one (C.more 11 rfl)
theorem Ctx.xf_index (C : Ctx w K mg base h) : ∀ c, okX_index c = true → XfC K ((TT K).ca c) ∧ findIn K (.ref ((TT K).ca c)) "index" = some none ∧ (TT K).fl c = (["index"] : List Str) := fun c hc => by
  obtain ⟨h1, h2⟩ := He.ba (List.all_eq_true.mp (C.more 12 rfl) c (List.contains_iff_mem.mp hc))
  exact ⟨(xfldB_ok h1).1, (xfldB_ok h1).2, of_decide_eq_true h2⟩
theorem Ctx.xf_part (C : Ctx w K mg base h) : ∀ c, okX_part c = true → XfC K ((TT K).ca c) ∧ findIn K (.ref ((TT K).ca c)) "part" = some none ∧ (TT K).fl c = (["part"] : List Str) := fun c hc => by
  obtain ⟨h1, h2⟩ := He.ba (List.all_eq_true.mp (C.more 13 rfl) c (List.contains_iff_mem.mp hc))
  exact ⟨(xfldB_ok h1).1, (xfldB_ok h1).2, of_decide_eq_true h2⟩
theorem Ctx.okc (C : Ctx w K mg base h) : ∀ c, okC c = true → exmOne K (.ref ((TT K).ca c)) (.ref (He.ga K "LotError")) = some true := fun c hc =>
  of_decide_eq_true (List.all_eq_true.mp (C.more 14 rfl) c (List.contains_iff_mem.mp hc))
theorem Ctx.tnd (C : Ctx w K mg base h) : (tf.map fun p => (He.cT K p).2).Nodup := of_decide_eq_true (C.more 15 rfl)
abbrev N__law_caught : List Str := ["work", "found", "error"]
theorem nd__law_caught : N__law_caught.Nodup := by decide +kernel
theorem sc__law_caught : FnScope N__law_caught ["work"] (defScope s__law_caught) := ⟨rfl, rfl, rfl, nd__law_caught, rfl, by decide +kernel, by decide +kernel⟩
theorem Ctx.caught (C : Ctx w K mg base h) : CaughtG K mg (TT K) okC "_law_caught" "work" := by
  obtain ⟨fd, F⟩ := C.c.def_ 10 (d := d__law_caught) rfl
  exact ⟨_, _, fd, _, _, _, N__law_caught, C.okc, C.g__law_caught, F, F.bindsN fun _ _ _ _ _ _ us hl => match us, hl with | [_], _ => rfl, sc__law_caught, rfl, .inl rfl, fun X cdg q e => caught_gives (X := X) (jc := "") (e := "LotError") (n := "error") (y := "found") (i := 2) (j := 1) rfl (e ▸ C.g_LotError) (by decide) nd__law_caught rfl rfl rfl rfl (by decide) (by decide) (by decide) (by decide) (by decide) (by decide) (by decide)⟩
theorem Ctx.lam__law_errors_right (C : Ctx w K mg base h) : LamAt base mg (TT K) (He.codeOf K ("_law_errors_right", none)) (("_law_errors_right" : Str) ++ ".<locals>." ++ "<lambda>") :=
  ⟨(He.cT K ("_law_errors_right", none)).2, C.tab _ (List.mem_map.mpr ⟨("_law_errors_right", none), by decide, rfl⟩), List.mem_map.mpr ⟨("_law_errors_right", none), by decide, rfl⟩, tb_uniq (nm := qn) C.tnd (by decide)⟩
theorem Ctx.ex_BadPlaces (C : Ctx w K mg base h) : Ex0 K mg (TT K) "BadPlaces" 10 :=
  have z := He.exc_ok (C.c.fact 66 (f := .exc "BadPlaces") rfl)
  ⟨z.1, z.2.1, z.2.2.1, z.2.2.2, C.g_BadPlaces⟩
theorem Ctx.ex_BadTold (C : Ctx w K mg base h) : Ex0 K mg (TT K) "BadTold" 16 :=
  have z := He.exc_ok (C.c.fact 67 (f := .exc "BadTold") rfl)
  ⟨z.1, z.2.1, z.2.2.1, z.2.2.2, C.g_BadTold⟩
theorem Ctx.iniok_PartError (C : Ctx w K mg base h) : ∃ fd, FnOk PR w K mg base (CX PR w) 1 (iniA K "PartError") fd ["self", "part"] (spIni K (He.ga K "PartError") "part") ∧ Binds K fd ["self", "part"] [] := by
  obtain ⟨fd, T, kV, doc, pm, an, cdv, ct, cc, e⟩ := iniD_of (d := ini_PartError) (C.c.iniO 0 rfl) (C.more 16 rfl)
  refine ⟨fd, ini_ok (k := 0) (sf := "self") (fld := "part") (par := "part") T ⟨_, rfl, rfl⟩ C.b_super rfl rfl rfl rfl (by decide) (by decide +kernel) rfl rfl rfl (by decide) (by decide) (fun _ => rfl) (fun _ _ _ _ => rfl) (fun _ => rfl) (fun _ => rfl) (fun _ => rfl), ?_⟩
  subst e
  exact .all fun us hl => match us, hl with | [_, _], _ => rfl
theorem Ctx.iniok_ItemError (C : Ctx w K mg base h) : ∃ fd, FnOk PR w K mg base (CX PR w) 1 (iniA K "ItemError") fd ["self", "index"] (spIni K (He.ga K "ItemError") "index") ∧ Binds K fd ["self", "index"] [] := by
  obtain ⟨fd, T, kV, doc, pm, an, cdv, ct, cc, e⟩ := iniD_of (d := ini_ItemError) (C.c.iniO 1 rfl) (C.more 17 rfl)
  refine ⟨fd, ini_ok (k := 0) (sf := "self") (fld := "index") (par := "index") T ⟨_, rfl, rfl⟩ C.b_super rfl rfl rfl rfl (by decide) (by decide +kernel) rfl rfl rfl (by decide) (by decide) (fun _ => rfl) (fun _ _ _ _ => rfl) (fun _ => rfl) (fun _ => rfl) (fun _ => rfl), ?_⟩
  subst e
  exact .all fun us hl => match us, hl with | [_, _], _ => rfl
theorem Ctx.ex_BadNumber (C : Ctx w K mg base h) : Ex1 PR w K mg base (TT K) "BadNumber" 3 := by
  obtain ⟨fd, O, hb⟩ := C.iniok_PartError
  obtain ⟨h1, z⟩ := He.ba (C.more 18 rfl)
  obtain ⟨h2, h3⟩ := He.ba z
  exact ⟨_, _, fd, _, "part", iniCB_ok h1, rfl, of_decide_eq_true h2, of_decide_eq_true h3, O, hb, C.g_BadNumber⟩
theorem Ctx.ex_NoLot (C : Ctx w K mg base h) : Ex1 PR w K mg base (TT K) "NoLot" 4 := by
  obtain ⟨fd, O, hb⟩ := C.iniok_PartError
  obtain ⟨h1, z⟩ := He.ba (C.more 19 rfl)
  obtain ⟨h2, h3⟩ := He.ba z
  exact ⟨_, _, fd, _, "part", iniCB_ok h1, rfl, of_decide_eq_true h2, of_decide_eq_true h3, O, hb, C.g_NoLot⟩
theorem Ctx.ex_BadRows (C : Ctx w K mg base h) : Ex1 PR w K mg base (TT K) "BadRows" 5 := by
  obtain ⟨fd, O, hb⟩ := C.iniok_ItemError
  obtain ⟨h1, z⟩ := He.ba (C.more 20 rfl)
  obtain ⟨h2, h3⟩ := He.ba z
  exact ⟨_, _, fd, _, "index", iniCB_ok h1, rfl, of_decide_eq_true h2, of_decide_eq_true h3, O, hb, C.g_BadRows⟩
theorem Ctx.nolist (C : Ctx w K mg base h) : noListB K = true := (C.more 21 rfl)
abbrev N_is_number : List Str := ["thing"]
theorem nd_is_number : N_is_number.Nodup := by decide +kernel
theorem sc_is_number : FnScope N_is_number ["thing"] (defScope s_is_number) := ⟨rfl, rfl, rfl, nd_is_number, rfl, by decide +kernel, by decide +kernel⟩
theorem ok_is_number (C : Ctx w K mg base h) : ∃ fd, FunD K "is_number" "is_number" (defArgs s_is_number) (defBody s_is_number) (defScope s_is_number) [] [] (He.fAd K ("is_number", none)) fd ∧ FnOk PR w K mg base (CX PR w) 1 (He.fAd K ("is_number", none)) fd ["thing"] (spF ⟨K, w, TT K⟩ 1 F_is_number) := by
  obtain ⟨fd, F⟩ := C.c.def_ 0 (d := d_is_number) rfl
  refine ⟨fd, F, fn_ok F sc_is_number fun cdv A outer s H E hr tk => ?_⟩
  exact (ss_one (ss_ret (se_and (se_isa _ (se_var 0) (pe_bltn (v := .ty "int") rfl C.b_int rfl rfl) (.ty _) C.isa_int C.b_isinstance) (se_one (se_not (se_isa _ (se_var 0) (pe_bltn (v := .ty "bool") rfl C.b_bool rfl rfl) (.ty _) C.isa_bool C.b_isinstance))))))
theorem G_is_number (C : Ctx w K mg base h) : Got PR w K mg base (TT K) "is_number" (He.ga K "is_number") 1 1 F_is_number [] := by
  obtain ⟨fd, F, O⟩ := ok_is_number C
  exact ⟨fd, _, [], [], O, C.g_is_number, F.kp, F.bindsN fun _ _ _ _ _ _ us hl => match us, hl with | [_], _ => rfl, .nil, fun _ _ => .nil⟩
abbrev N_is_between : List Str := ["thing", "low", "high"]
theorem nd_is_between : N_is_between.Nodup := by decide +kernel
theorem sc_is_between : FnScope N_is_between ["thing", "low", "high"] (defScope s_is_between) := ⟨rfl, rfl, rfl, nd_is_between, rfl, by decide +kernel, by decide +kernel⟩
theorem ok_is_between (C : Ctx w K mg base h) : ∃ fd, FunD K "is_between" "is_between" (defArgs s_is_between) (defBody s_is_between) (defScope s_is_between) [] [] (He.fAd K ("is_between", none)) fd ∧ FnOk PR w K mg base (CX PR w) 2 (He.fAd K ("is_between", none)) fd ["thing", "low", "high"] (spF ⟨K, w, TT K⟩ 3 F_is_between) := by
  obtain ⟨fd, F⟩ := C.c.def_ 1 (d := d_is_between) rfl
  refine ⟨fd, F, fn_ok F sc_is_between fun cdv A outer s H E hr tk => ?_⟩
  exact (ss_one (ss_ret (se_and (se_callG (G_is_number C) (hr.mono (by decide)) tk (sa_cons (se_var 0) sa_nil)) (se_one (se_chain o_leI o_leI (se_var 1) (se_var 0) (se_var 2))))))
theorem G_is_between (C : Ctx w K mg base h) : Got PR w K mg base (TT K) "is_between" (He.ga K "is_between") 2 3 F_is_between [] := by
  obtain ⟨fd, F, O⟩ := ok_is_between C
  exact ⟨fd, _, [], [], O, C.g_is_between, F.kp, F.bindsN fun _ _ _ _ _ _ us hl => match us, hl with | [_, _, _], _ => rfl, .nil, fun _ _ => .nil⟩
abbrev N_is_list : List Str := ["thing"]
theorem nd_is_list : N_is_list.Nodup := by decide +kernel
theorem sc_is_list : FnScope N_is_list ["thing"] (defScope s_is_list) := ⟨rfl, rfl, rfl, nd_is_list, rfl, by decide +kernel, by decide +kernel⟩
theorem ok_is_list (C : Ctx w K mg base h) : ∃ fd, FunD K "is_list" "is_list" (defArgs s_is_list) (defBody s_is_list) (defScope s_is_list) [] [] (He.fAd K ("is_list", none)) fd ∧ FnOk PR w K mg base (CX PR w) 1 (He.fAd K ("is_list", none)) fd ["thing"] (spF ⟨K, w, TT K⟩ 1 F_is_list) := by
  obtain ⟨fd, F⟩ := C.c.def_ 2 (d := d_is_list) rfl
  refine ⟨fd, F, fn_ok F sc_is_list fun cdv A outer s H E hr tk => ?_⟩
  exact (ss_one (ss_ret (se_isaT _ (se_var 0) (pa_vs_cons (pe_bltn (v := .ty "list") rfl C.b_list rfl rfl) (pa_vs_cons (pe_bltn (v := .ty "tuple") rfl C.b_tuple rfl rfl) pa_vs_nil)) (.cons (.ty _) (.cons (.ty _) .nil)) C.isa_list_tuple C.b_isinstance (by decide))))
theorem G_is_list (C : Ctx w K mg base h) : Got PR w K mg base (TT K) "is_list" (He.ga K "is_list") 1 1 F_is_list [] := by
  obtain ⟨fd, F, O⟩ := ok_is_list C
  exact ⟨fd, _, [], [], O, C.g_is_list, F.kp, F.bindsN fun _ _ _ _ _ _ us hl => match us, hl with | [_], _ => rfl, .nil, fun _ _ => .nil⟩
abbrev N_is_tuple_of : List Str := ["thing", "many", "low", "high", "item"]
theorem nd_is_tuple_of : N_is_tuple_of.Nodup := by decide +kernel
theorem sc_is_tuple_of : FnScope N_is_tuple_of ["thing", "many", "low", "high"] (defScope s_is_tuple_of) := ⟨rfl, rfl, rfl, nd_is_tuple_of, rfl, by decide +kernel, by decide +kernel⟩
theorem ok_is_tuple_of (C : Ctx w K mg base h) : ∃ fd, FunD K "is_tuple_of" "is_tuple_of" (defArgs s_is_tuple_of) (defBody s_is_tuple_of) (defScope s_is_tuple_of) [] [] (He.fAd K ("is_tuple_of", none)) fd ∧ FnOk PR w K mg base (CX PR w) 3 (He.fAd K ("is_tuple_of", none)) fd ["thing", "many", "low", "high"] (spF ⟨K, w, TT K⟩ 4 F_is_tuple_of) := by
  obtain ⟨fd, F⟩ := C.c.def_ 3 (d := d_is_tuple_of) rfl
  refine ⟨fd, F, fn_ok F sc_is_tuple_of fun cdv A outer s H E hr tk => ?_⟩
  exact (ss_one (ss_ret (se_and (se_isa _ (se_var 0) (pe_bltn (v := .ty "tuple") rfl C.b_tuple rfl rfl) (.ty _) C.isa_tuple C.b_isinstance) (se_and (se_cmp (o_eq (hu64_of hr)) (se_callB cr_lenD C.b_len (sa_cons (se_var 0) sa_nil)) (se_var 1)) (se_one (se_callB (cr_allD rfl) C.b_all (sa_cons (se_close (se_comp (own := [("item", 4)]) rfl nd_is_tuple_of (blkOk_by (by rfl)) (tgOk_name (by decide)) (si_seq FU (se_var 0)) (fun _ _ _ _ _ => (pg_name nd_is_tuple_of (i := 4) rfl (by first | exact Or.inl rfl | exact Or.inr rfl) (by first | exact .inl rfl | exact .inr rfl))) (fun _ _ _ _ _ => sts_nil) (fun _ _ _ _ _ => (se_callG (G_is_between C) (hr.mono (by decide)) tkNo (sa_cons (se_var 4) (sa_cons (se_var 2) (sa_cons (se_var 3) sa_nil))))))) sa_nil)))))))
theorem G_is_tuple_of (C : Ctx w K mg base h) : Got PR w K mg base (TT K) "is_tuple_of" (He.ga K "is_tuple_of") 3 4 F_is_tuple_of [] := by
  obtain ⟨fd, F, O⟩ := ok_is_tuple_of C
  exact ⟨fd, _, [], [], O, C.g_is_tuple_of, F.kp, F.bindsN fun _ _ _ _ _ _ us hl => match us, hl with | [_, _, _, _], _ => rfl, .nil, fun _ _ => .nil⟩
abbrev N_is_row : List Str := ["places", "thing"]
theorem nd_is_row : N_is_row.Nodup := by decide +kernel
theorem sc_is_row : FnScope N_is_row ["places", "thing"] (defScope s_is_row) := ⟨rfl, rfl, rfl, nd_is_row, rfl, by decide +kernel, by decide +kernel⟩
theorem ok_is_row (C : Ctx w K mg base h) : ∃ fd, FunD K "is_row" "is_row" (defArgs s_is_row) (defBody s_is_row) (defScope s_is_row) [] [] (He.fAd K ("is_row", none)) fd ∧ FnOk PR w K mg base (CX PR w) 4 (He.fAd K ("is_row", none)) fd ["places", "thing"] (spF ⟨K, w, TT K⟩ 2 F_is_row) := by
  obtain ⟨fd, F⟩ := C.c.def_ 4 (d := d_is_row) rfl
  refine ⟨fd, F, fn_ok F sc_is_row fun cdv A outer s H E hr tk => ?_⟩
  exact (ss_one (ss_ret (se_callG (G_is_tuple_of C) (hr.mono (by decide)) tk (sa_cons (se_var 1) (sa_cons (se_var 0) (sa_cons se_int (sa_cons se_int sa_nil)))))))
theorem G_is_row (C : Ctx w K mg base h) : Got PR w K mg base (TT K) "is_row" (He.ga K "is_row") 4 2 F_is_row [] := by
  obtain ⟨fd, F, O⟩ := ok_is_row C
  exact ⟨fd, _, [], [], O, C.g_is_row, F.kp, F.bindsN fun _ _ _ _ _ _ us hl => match us, hl with | [_, _], _ => rfl, .nil, fun _ _ => .nil⟩
abbrev N_need_rows : List Str := ["places", "rows", "known", "index", "row"]
theorem nd_need_rows : N_need_rows.Nodup := by decide +kernel
theorem sc_need_rows : FnScope N_need_rows ["places", "rows"] (defScope s_need_rows) := ⟨rfl, rfl, rfl, nd_need_rows, rfl, by decide +kernel, by decide +kernel⟩
theorem ok_need_rows (C : Ctx w K mg base h) : ∃ fd, FunD K "need_rows" "need_rows" (defArgs s_need_rows) (defBody s_need_rows) (defScope s_need_rows) [] [] (He.fAd K ("need_rows", none)) fd ∧ FnOk PR w K mg base (CX PR w) 5 (He.fAd K ("need_rows", none)) fd ["places", "rows"] (spF ⟨K, w, TT K⟩ 2 F_need_rows) := by
  obtain ⟨fd, F⟩ := C.c.def_ 5 (d := d_need_rows) rfl
  refine ⟨fd, F, fn_ok F sc_need_rows fun cdv A outer s H E hr tk => ?_⟩
  exact (ss_cons (ss_if (st_not (st_val (se_callG (G_is_list C) (hr.mono (by decide)) tk (sa_cons (se_var 1) sa_nil))))
  (ss_one (ss_raise1G C.ex_BadRows rfl tk (hr.mono (by decide)) (sa_cons se_non sa_nil)))
  ss_nil)
  (ss_cons (ss_asg (se_newD true) (sg_name 2 nd_need_rows))
  (ss_one (ss_for (L2.passes_of rfl) rfl (si_enum 0 (se_var 1) C.b_enumerate) (sg_tup 2 rfl (sgs_cons (sg_name 3 nd_need_rows) (sgs_cons (sg_name 4 nd_need_rows) sgs_nil)))
  (ss_cons (ss_if (st_bool (sw_or (st_not (st_val (se_callG (G_is_row C) (hr.mono (by decide)) tk (sa_cons (se_var 0) (sa_cons (se_var 4) sa_nil))))) (sw_or1 (st_cmp (o_in (hu_of hr)) (se_var 4) (se_var 2)))))
  (ss_one (ss_raise1G C.ex_BadRows rfl tk (hr.mono (by decide)) (sa_cons (se_var 3) sa_nil)))
  ss_nil)
  (ss_one (ss_asg se_bl (sg_sub (hu_of hr) (se_var 2) (se_var 4)))))))))
theorem G_need_rows (C : Ctx w K mg base h) : Got PR w K mg base (TT K) "need_rows" (He.ga K "need_rows") 5 2 F_need_rows [] := by
  obtain ⟨fd, F, O⟩ := ok_need_rows C
  exact ⟨fd, _, [], [], O, C.g_need_rows, F.kp, F.bindsN fun _ _ _ _ _ _ us hl => match us, hl with | [_, _], _ => rfl, .nil, fun _ _ => .nil⟩
abbrev N_Lot___init__ : List Str := ["self", "places", "rows", "row"]
theorem nd_Lot___init__ : N_Lot___init__.Nodup := by decide +kernel
theorem sc_Lot___init__ : FnScope N_Lot___init__ ["self", "places", "rows"] (defScope s_Lot___init__) := ⟨rfl, rfl, rfl, nd_Lot___init__, rfl, by decide +kernel, by decide +kernel⟩
theorem ok_Lot___init__ (C : Ctx w K mg base h) : ∃ fd, FunD K "__init__" "Lot.__init__" (defArgs s_Lot___init__) (defBody s_Lot___init__) (defScope s_Lot___init__) [] [] (He.fAd K ("Lot", some "__init__")) fd ∧ FnOk PR w K mg base (CX PR w) 6 (He.fAd K ("Lot", some "__init__")) fd ["self", "places", "rows"] (spF ⟨K, w, TT K⟩ 3 F_Lot___init__) := by
  obtain ⟨fd, F⟩ := C.c.def_ 6 (d := d_Lot___init__) rfl
  refine ⟨fd, F, fn_ok F sc_Lot___init__ fun cdv A outer s H E hr tk => ?_⟩
  exact (ss_cons (ss_if (st_not (st_val (se_callG (G_is_between C) (hr.mono (by decide)) tk (sa_cons (se_var 1) (sa_cons se_int (sa_cons (se_globI C.v_MOST_PLACES.choose_spec) sa_nil))))))
  (ss_one (ss_raise0G C.ex_BadPlaces rfl tk))
  ss_nil)
  (ss_cons (ss_expr (se_callG (G_need_rows C) (hr.mono (by decide)) tk (sa_cons (se_var 1) (sa_cons (se_var 2) sa_nil))))
  (ss_cons (ss_fld 34 0 (se_var 1) (se_var 0) C.cls_Lot C.na_Lot_own_places rfl nf_Lot nl_Lot)
  (ss_cons (ss_fld 34 1 (se_callTy cr_tupleD C.b_tuple (sa_cons (se_callB (cr_sortedF rfl (hu70_of hr)) C.b_sorted (sa_cons (se_var 2) sa_nil)) sa_nil)) (se_var 0) C.cls_Lot C.na_Lot_own_rows rfl nf_Lot nl_Lot)
  (ss_one (ss_fld 34 2 (se_dcomp true (own := [("row", 3)]) (hu_of hr) rfl nd_Lot___init__ (blkOk_by (by rfl)) (tgOk_name (by decide)) (si_seq FU (se_fld 34 1 (se_var 0) C.cls_Lot C.na_Lot_own_rows rfl nf_Lot)) (fun _ _ _ _ _ => (pg_name nd_Lot___init__ (i := 3) rfl (by first | exact Or.inl rfl | exact Or.inr rfl) (by first | exact .inl rfl | exact .inr rfl))) (fun _ _ _ _ _ => sts_nil) (fun _ _ _ _ _ => (se_var 3)) (fun _ _ _ _ _ => se_bl)) (se_var 0) C.cls_Lot C.na_Lot_own_known rfl nf_Lot nl_Lot))))))
theorem G_Lot_make (C : Ctx w K mg base h) : GotC PR w K mg base (TT K) "Lot" 34 6 3 F_Lot___init__ := by
  obtain ⟨fd, F, O⟩ := ok_Lot___init__ C
  exact ⟨_, fd, _, O, C.mk_Lot, C.g_Lot, F.bindsN fun _ _ _ _ _ _ us hl => match us, hl with | [_, _, _], _ => rfl⟩
abbrev N__law_begun : List Str := ["script", "large", "grain"]
theorem nd__law_begun : N__law_begun.Nodup := by decide +kernel
theorem sc__law_begun : FnScope N__law_begun ["script"] (defScope s__law_begun) := ⟨rfl, rfl, rfl, nd__law_begun, rfl, by decide +kernel, by decide +kernel⟩
theorem ok__law_begun (C : Ctx w K mg base h) : ∃ fd, FunD K "_law_begun" "_law_begun" (defArgs s__law_begun) (defBody s__law_begun) (defScope s__law_begun) [] [] (He.fAd K ("_law_begun", none)) fd ∧ FnOk PR w K mg base (CX PR w) 1 (He.fAd K ("_law_begun", none)) fd ["script"] (spF ⟨K, w, TT K⟩ 1 F__law_begun) := by
  obtain ⟨fd, F⟩ := C.c.def_ 7 (d := d__law_begun) rfl
  refine ⟨fd, F, fn_okK F sc__law_begun fun cdv A outer s H E hr tk => ?_⟩
  exact (ss_cons (ss_setComp (own := [("grain", 2)]) (i := 1) rfl nd__law_begun rfl rfl rfl (blkOk_by (by rfl)) (tgOk_name (by decide)) (si_seq FU (se_var 0)) (fun _ _ _ _ _ => (pg_name nd__law_begun (i := 2) rfl (by first | exact Or.inl rfl | exact Or.inr rfl) (by first | exact .inl rfl | exact .inr rfl))) (fun _ _ _ _ _ => (sts_one (st_cmp o_geI (se_callB cr_absD C.b_abs (sa_cons (se_var 2) sa_nil)) (se_bin o_pow se_int se_int)))) (fun _ _ _ _ _ => (se_bin o_sub (se_callB cr_absD C.b_abs (sa_cons (se_var 2) sa_nil)) (se_bin o_pow se_int se_int))) (fun h => h))
  (ss_one (ss_ret (se_dict false (hu_of hr) (sp_cons se_str (se_var 1) (sp_cons se_str se_int (sp_cons se_str (se_comp (own := [("grain", 2)]) rfl nd__law_begun (blkOk_by (by rfl)) (tgOk_name (by decide)) (si_seq FU (se_var 0)) (fun _ _ _ _ _ => (pg_name nd__law_begun (i := 2) rfl (by first | exact Or.inl rfl | exact Or.inr rfl) (by first | exact .inl rfl | exact .inr rfl))) (fun _ _ _ _ _ => sts_nil) (fun _ _ _ _ _ => (se_callB cr_absD C.b_abs (sa_cons (se_var 2) sa_nil)))) (sp_cons se_str se_int sp_nil))))))))
theorem G__law_begun (C : Ctx w K mg base h) : Got PR w K mg base (TT K) "_law_begun" (He.ga K "_law_begun") 1 1 F__law_begun [] := by
  obtain ⟨fd, F, O⟩ := ok__law_begun C
  exact ⟨fd, _, [], [], O, C.g__law_begun, F.kp, F.bindsN fun _ _ _ _ _ _ us hl => match us, hl with | [_], _ => rfl, .nil, fun _ _ => .nil⟩
abbrev N__law_blend : List Str := ["tape", "turn", "found", "great", "blended", "grain"]
theorem nd__law_blend : N__law_blend.Nodup := by decide +kernel
theorem sc__law_blend : FnScope N__law_blend ["tape"] (defScope s__law_blend) := ⟨rfl, rfl, rfl, nd__law_blend, rfl, by decide +kernel, by decide +kernel⟩
theorem ok__law_blend (C : Ctx w K mg base h) : ∃ fd, FunD K "_law_blend" "_law_blend" (defArgs s__law_blend) (defBody s__law_blend) (defScope s__law_blend) [] [] (He.fAd K ("_law_blend", none)) fd ∧ FnOk PR w K mg base (CX PR w) 1 (He.fAd K ("_law_blend", none)) fd ["tape"] (spF ⟨K, w, TT K⟩ 1 F__law_blend) := by
  obtain ⟨fd, F⟩ := C.c.def_ 8 (d := d__law_blend) rfl
  refine ⟨fd, F, fn_ok F sc__law_blend fun cdv A outer s H E hr tk => ?_⟩
  exact (ss_cons (ss_asg (se_bin o_add (se_ix (hu_of hr) (se_var 0) se_str) se_int) (sg_sub (hu_of hr) (se_var 0) se_str))
  (ss_cons (ss_par 1 2 rfl nd__law_blend (sa_cons (se_callTy cr_intD C.b_int (sa_cons (se_ix (hu_of hr) (se_var 0) se_str) sa_nil)) (sa_cons se_int sa_nil)))
  (ss_cons (ss_for (L2.passes_of rfl) rfl (si_seq FU (se_lst (sa_cons se_int (sa_cons se_int (sa_cons se_int sa_nil))))) (sg_name 3 nd__law_blend)
  (ss_cons (ss_asg (se_bin o_mod (se_bin o_add (se_bin o_mul (se_var 1) se_int) (se_bin o_div (se_var 3) se_int)) (se_var 3)) (sg_name 4 nd__law_blend))
  (ss_cons (ss_for (L2.passes_of rfl) rfl (si_seq FU (se_ix (hu_of hr) (se_var 0) se_str)) (sg_name 5 nd__law_blend)
  (ss_one (ss_asg (se_bin o_mod (se_bin o_add (se_bin o_mul (se_var 4) se_int) (se_callTy cr_intD C.b_int (sa_cons (se_var 5) sa_nil))) (se_var 3)) (sg_name 4 nd__law_blend))))
  (ss_one (ss_asg (se_bin o_add (se_bin o_mul (se_var 2) se_int) (se_bin o_mod (se_bin o_pow (se_var 4) se_int) (se_var 3))) (sg_name 2 nd__law_blend))))))
  (ss_one (ss_ret (se_var 2))))))
theorem G__law_blend (C : Ctx w K mg base h) : Got PR w K mg base (TT K) "_law_blend" (He.ga K "_law_blend") 1 1 F__law_blend [] := by
  obtain ⟨fd, F, O⟩ := ok__law_blend C
  exact ⟨fd, _, [], [], O, C.g__law_blend, F.kp, F.bindsN fun _ _ _ _ _ _ us hl => match us, hl with | [_], _ => rfl, .nil, fun _ _ => .nil⟩
abbrev N__law_draw : List Str := ["tape", "size", "found"]
theorem nd__law_draw : N__law_draw.Nodup := by decide +kernel
theorem sc__law_draw : FnScope N__law_draw ["tape", "size"] (defScope s__law_draw) := ⟨rfl, rfl, rfl, nd__law_draw, rfl, by decide +kernel, by decide +kernel⟩
theorem ok__law_draw (C : Ctx w K mg base h) : ∃ fd, FunD K "_law_draw" "_law_draw" (defArgs s__law_draw) (defBody s__law_draw) (defScope s__law_draw) [] [] (He.fAd K ("_law_draw", none)) fd ∧ FnOk PR w K mg base (CX PR w) 2 (He.fAd K ("_law_draw", none)) fd ["tape", "size"] (spF ⟨K, w, TT K⟩ 2 F__law_draw) := by
  obtain ⟨fd, F⟩ := C.c.def_ 9 (d := d__law_draw) rfl
  refine ⟨fd, F, fn_ok F sc__law_draw fun cdv A outer s H E hr tk => ?_⟩
  exact (ss_cons (ss_if (st_cmp (o_eq (hu64_of hr)) (se_ix (hu_of hr) (se_var 0) se_str) se_int)
  (ss_one (ss_asg (se_if (st_cmp (o_ne (hu64_of hr)) (se_ix (hu_of hr) (se_var 0) se_str) (se_lst sa_nil)) (se_pop (se_ix (hu_of hr) (se_var 0) se_str) (sa_cons se_int sa_nil)) (se_callG (G__law_blend C) (hr.mono (by decide)) tk (sa_cons (se_var 0) sa_nil))) (sg_sub (hu_of hr) (se_var 0) se_str)))
  ss_nil)
  (ss_cons (ss_asg (se_bin o_mod (se_callTy cr_intD C.b_int (sa_cons (se_ix (hu_of hr) (se_var 0) se_str) sa_nil)) (se_var 1)) (sg_name 2 nd__law_draw))
  (ss_cons (ss_asg (se_bin o_div (se_callTy cr_intD C.b_int (sa_cons (se_ix (hu_of hr) (se_var 0) se_str) sa_nil)) (se_var 1)) (sg_sub (hu_of hr) (se_var 0) se_str))
  (ss_one (ss_ret (se_var 2))))))
theorem G__law_draw (C : Ctx w K mg base h) : Got PR w K mg base (TT K) "_law_draw" (He.ga K "_law_draw") 2 2 F__law_draw [] := by
  obtain ⟨fd, F, O⟩ := ok__law_draw C
  exact ⟨fd, _, [], [], O, C.g__law_draw, F.kp, F.bindsN fun _ _ _ _ _ _ us hl => match us, hl with | [_, _], _ => rfl, .nil, fun _ _ => .nil⟩
abbrev N__law_is_of : List Str := ["error", "word"]
theorem nd__law_is_of : N__law_is_of.Nodup := by decide +kernel
theorem sc__law_is_of : FnScope N__law_is_of ["error", "word"] (defScope s__law_is_of) := ⟨rfl, rfl, rfl, nd__law_is_of, rfl, by decide +kernel, by decide +kernel⟩
theorem ok__law_is_of (C : Ctx w K mg base h) : ∃ fd, FunD K "_law_is_of" "_law_is_of" (defArgs s__law_is_of) (defBody s__law_is_of) (defScope s__law_is_of) [] [] (He.fAd K ("_law_is_of", none)) fd ∧ FnOk PR w K mg base (CX PR w) 1 (He.fAd K ("_law_is_of", none)) fd ["error", "word"] (spF ⟨K, w, TT K⟩ 2 F__law_is_of) := by
  obtain ⟨fd, F⟩ := C.c.def_ 11 (d := d__law_is_of) rfl
  refine ⟨fd, F, fn_ok F sc__law_is_of fun cdv A outer s H E hr tk => ?_⟩
  exact (ss_cons (ss_if (st_cmp (o_eq (hu64_of hr)) (se_var 1) se_str)
  (ss_one (ss_ret (se_isa _ (se_var 0) (pe_glob (v := .ref (He.ga K "NoLot")) rfl C.g_NoLot rfl) (.own _) C.isa_NoLot C.b_isinstance)))
  ss_nil)
  (ss_cons (ss_if (st_cmp (o_eq (hu64_of hr)) (se_var 1) se_str)
  (ss_one (ss_ret (se_isa _ (se_var 0) (pe_glob (v := .ref (He.ga K "BadTold")) rfl C.g_BadTold rfl) (.own _) C.isa_BadTold C.b_isinstance)))
  ss_nil)
  (ss_one (ss_ret (se_isa _ (se_var 0) (pe_glob (v := .ref (He.ga K "BadNumber")) rfl C.g_BadNumber rfl) (.own _) C.isa_BadNumber C.b_isinstance)))))
theorem G__law_is_of (C : Ctx w K mg base h) : Got PR w K mg base (TT K) "_law_is_of" (He.ga K "_law_is_of") 1 2 F__law_is_of [] := by
  obtain ⟨fd, F, O⟩ := ok__law_is_of C
  exact ⟨fd, _, [], [], O, C.g__law_is_of, F.kp, F.bindsN fun _ _ _ _ _ _ us hl => match us, hl with | [_, _], _ => rfl, .nil, fun _ _ => .nil⟩
abbrev N_Lot_rows : List Str := ["self"]
theorem nd_Lot_rows : N_Lot_rows.Nodup := by decide +kernel
theorem sc_Lot_rows : FnScope N_Lot_rows ["self"] (defScope s_Lot_rows) := ⟨rfl, rfl, rfl, nd_Lot_rows, rfl, by decide +kernel, by decide +kernel⟩
theorem ok_Lot_rows (C : Ctx w K mg base h) : ∃ fd, FunD K "rows" "Lot.rows" (defArgs s_Lot_rows) (defBody s_Lot_rows) (defScope s_Lot_rows) [] [] (prG K "Lot" "rows") fd ∧ FnOk PR w K mg base (CX PR w) 1 (prG K "Lot" "rows") fd ["self"] (spF ⟨K, w, TT K⟩ 1 F_Lot_rows) := by
  obtain ⟨fd, F⟩ := prD_of (d := r_Lot_rows) (C.c.prO 0 rfl) (C.more 1 rfl)
  refine ⟨fd, F, fn_ok F sc_Lot_rows fun cdv A outer s H E hr tk => ?_⟩
  exact (ss_one (ss_ret (se_fld 34 1 (se_var 0) C.cls_Lot C.na_Lot_own_rows rfl nf_Lot)))
theorem G_Lot_rows (C : Ctx w K mg base h) : GotP PR w K mg base (TT K) 34 "rows" 1 F_Lot_rows := by
  obtain ⟨fd, F, O⟩ := ok_Lot_rows C
  exact ⟨_, _, fd, _, O, C.cls_Lot, C.pr_Lot_rows, F.bindsN fun _ _ _ _ _ _ us hl => match us, hl with | [_], _ => rfl⟩
abbrev N_lies_in : List Str := ["told", "row", "answer", "own"]
theorem nd_lies_in : N_lies_in.Nodup := by decide +kernel
theorem sc_lies_in : FnScope N_lies_in ["told", "row"] (defScope s_lies_in) := ⟨rfl, rfl, rfl, nd_lies_in, rfl, by decide +kernel, by decide +kernel⟩
theorem ok_lies_in (C : Ctx w K mg base h) : ∃ fd, FunD K "lies_in" "lies_in" (defArgs s_lies_in) (defBody s_lies_in) (defScope s_lies_in) [] [] (He.fAd K ("lies_in", none)) fd ∧ FnOk PR w K mg base (CX PR w) 1 (He.fAd K ("lies_in", none)) fd ["told", "row"] (spF ⟨K, w, TT K⟩ 2 F_lies_in) := by
  obtain ⟨fd, F⟩ := C.c.def_ 12 (d := d_lies_in) rfl
  refine ⟨fd, F, fn_ok F sc_lies_in fun cdv A outer s H E hr tk => ?_⟩
  exact (ss_one (ss_ret (se_callB cr_lenD C.b_len (sa_cons (se_close (se_comp (own := [("answer", 2), ("own", 3)]) rfl nd_lies_in (blkOk_by (by rfl)) (tgOk_tup (by decide)) (si_zip 0 (se_var 0) (se_var 1) C.b_zip) (fun _ _ _ _ _ => (pg_tup rfl (pgs_cons (pg_name nd_lies_in (i := 2) rfl (by first | exact Or.inl rfl | exact Or.inr rfl) (by first | exact .inl rfl | exact .inr rfl)) (pgs_cons (pg_name nd_lies_in (i := 3) rfl (by first | exact Or.inl rfl | exact Or.inr rfl) (by first | exact .inl rfl | exact .inr rfl)) pgs_nil)))) (fun _ _ _ _ _ => (sts_one (st_bool (sw_and (st_cmp o_notN (se_var 2) se_non) (sw_and1 (st_cmp (o_ne (hu64_of hr)) (se_var 2) (se_var 3))))))) (fun _ _ _ _ _ => se_int))) sa_nil))))
theorem G_lies_in (C : Ctx w K mg base h) : Got PR w K mg base (TT K) "lies_in" (He.ga K "lies_in") 1 2 F_lies_in [] := by
  obtain ⟨fd, F, O⟩ := ok_lies_in C
  exact ⟨fd, _, [], [], O, C.g_lies_in, F.kp, F.bindsN fun _ _ _ _ _ _ us hl => match us, hl with | [_, _], _ => rfl, .nil, fun _ _ => .nil⟩
abbrev N_need_lot : List Str := ["lot", "part"]
theorem nd_need_lot : N_need_lot.Nodup := by decide +kernel
theorem sc_need_lot : FnScope N_need_lot ["lot", "part"] (defScope s_need_lot) := ⟨rfl, rfl, rfl, nd_need_lot, rfl, by decide +kernel, by decide +kernel⟩
theorem ok_need_lot (C : Ctx w K mg base h) : ∃ fd, FunD K "need_lot" "need_lot" (defArgs s_need_lot) (defBody s_need_lot) (defScope s_need_lot) [.non] [] (He.fAd K ("need_lot", none)) fd ∧ FnOk PR w K mg base (CX PR w) 8 (He.fAd K ("need_lot", none)) fd ["lot", "part"] (spF ⟨K, w, TT K⟩ 2 F_need_lot) := by
  obtain ⟨fd, F⟩ := C.c.def_ 13 (d := d_need_lot) rfl
  refine ⟨fd, F, fn_ok F sc_need_lot fun cdv A outer s H E hr tk => ?_⟩
  exact (ss_one (ss_if (st_not (st_val (se_isa _ (se_var 0) (pe_glob (v := .ref (He.ga K "Lot")) rfl C.g_Lot rfl) (.own _) C.isa_Lot C.b_isinstance)))
  (ss_one (ss_raise1G C.ex_NoLot rfl tk (hr.mono (by decide)) (sa_cons (se_var 1) sa_nil)))
  ss_nil))
theorem G_need_lot (C : Ctx w K mg base h) : Got PR w K mg base (TT K) "need_lot" (He.ga K "need_lot") 8 2 F_need_lot [] := by
  obtain ⟨fd, F, O⟩ := ok_need_lot C
  obtain ⟨ds, hv, hb⟩ := F.binds1 (ps := ["lot", "part"]) 2 1 (by intro z; cases z) rfl fun _ _ _ _ _ _ _ us its h1 h2 => match us, its, h1, h2 with | [_, _], [_], _, _ => ⟨_, rfl, rfl⟩
  exact ⟨fd, _, ds, _, O, C.g_need_lot, F.kp, hb, hv, fun _ _ => .nil⟩
theorem G1_need_lot (C : Ctx w K mg base h) : Got PR w K mg base (TT K) "need_lot" (He.ga K "need_lot") 8 2 F_need_lot [.non] := by
  obtain ⟨fd, F, O⟩ := ok_need_lot C
  obtain ⟨ds, hv, hb⟩ := F.binds1 (ps := ["lot", "part"]) 1 0 (by intro z; cases z) rfl fun _ _ _ _ _ _ _ us its h1 h2 => match us, its, h1, h2 with | [_], [_], _, _ => ⟨_, rfl, rfl⟩
  exact ⟨fd, _, ds, _, O, C.g_need_lot, F.kp, hb, hv, fun _ _ => .cons .non .nil⟩
abbrev N_Lot_places : List Str := ["self"]
theorem nd_Lot_places : N_Lot_places.Nodup := by decide +kernel
theorem sc_Lot_places : FnScope N_Lot_places ["self"] (defScope s_Lot_places) := ⟨rfl, rfl, rfl, nd_Lot_places, rfl, by decide +kernel, by decide +kernel⟩
theorem ok_Lot_places (C : Ctx w K mg base h) : ∃ fd, FunD K "places" "Lot.places" (defArgs s_Lot_places) (defBody s_Lot_places) (defScope s_Lot_places) [] [] (prG K "Lot" "places") fd ∧ FnOk PR w K mg base (CX PR w) 1 (prG K "Lot" "places") fd ["self"] (spF ⟨K, w, TT K⟩ 1 F_Lot_places) := by
  obtain ⟨fd, F⟩ := prD_of (d := r_Lot_places) (C.c.prO 1 rfl) (C.more 3 rfl)
  refine ⟨fd, F, fn_ok F sc_Lot_places fun cdv A outer s H E hr tk => ?_⟩
  exact (ss_one (ss_ret (se_fld 34 0 (se_var 0) C.cls_Lot C.na_Lot_own_places rfl nf_Lot)))
theorem G_Lot_places (C : Ctx w K mg base h) : GotP PR w K mg base (TT K) 34 "places" 1 F_Lot_places := by
  obtain ⟨fd, F, O⟩ := ok_Lot_places C
  exact ⟨_, _, fd, _, O, C.cls_Lot, C.pr_Lot_places, F.bindsN fun _ _ _ _ _ _ us hl => match us, hl with | [_], _ => rfl⟩
abbrev N_is_told : List Str := ["places", "thing", "item"]
theorem nd_is_told : N_is_told.Nodup := by decide +kernel
theorem sc_is_told : FnScope N_is_told ["places", "thing"] (defScope s_is_told) := ⟨rfl, rfl, rfl, nd_is_told, rfl, by decide +kernel, by decide +kernel⟩
theorem ok_is_told (C : Ctx w K mg base h) : ∃ fd, FunD K "is_told" "is_told" (defArgs s_is_told) (defBody s_is_told) (defScope s_is_told) [] [] (He.fAd K ("is_told", none)) fd ∧ FnOk PR w K mg base (CX PR w) 3 (He.fAd K ("is_told", none)) fd ["places", "thing"] (spF ⟨K, w, TT K⟩ 2 F_is_told) := by
  obtain ⟨fd, F⟩ := C.c.def_ 14 (d := d_is_told) rfl
  refine ⟨fd, F, fn_ok F sc_is_told fun cdv A outer s H E hr tk => ?_⟩
  exact (ss_cons (ss_if (st_bool (sw_or (st_not (st_val (se_isa _ (se_var 1) (pe_bltn (v := .ty "tuple") rfl C.b_tuple rfl rfl) (.ty _) C.isa_tuple C.b_isinstance))) (sw_or1 (st_cmp (o_ne (hu64_of hr)) (se_callB cr_lenD C.b_len (sa_cons (se_var 1) sa_nil)) (se_var 0)))))
  (ss_one (ss_ret se_bl))
  ss_nil)
  (ss_one (ss_ret (se_callB (cr_allD rfl) C.b_all (sa_cons (se_close (se_comp (own := [("item", 2)]) rfl nd_is_told (blkOk_by (by rfl)) (tgOk_name (by decide)) (si_seq FU (se_var 1)) (fun _ _ _ _ _ => (pg_name nd_is_told (i := 2) rfl (by first | exact Or.inl rfl | exact Or.inr rfl) (by first | exact .inl rfl | exact .inr rfl))) (fun _ _ _ _ _ => sts_nil) (fun _ _ _ _ _ => (se_or (se_cmp o_isN (se_var 2) se_non) (se_one (se_callG (G_is_between C) (hr.mono (by decide)) tkNo (sa_cons (se_var 2) (sa_cons se_int (sa_cons se_int sa_nil))))))))) sa_nil)))))
theorem G_is_told (C : Ctx w K mg base h) : Got PR w K mg base (TT K) "is_told" (He.ga K "is_told") 3 2 F_is_told [] := by
  obtain ⟨fd, F, O⟩ := ok_is_told C
  exact ⟨fd, _, [], [], O, C.g_is_told, F.kp, F.bindsN fun _ _ _ _ _ _ us hl => match us, hl with | [_, _], _ => rfl, .nil, fun _ _ => .nil⟩
abbrev N_need_told : List Str := ["lot", "told"]
theorem nd_need_told : N_need_told.Nodup := by decide +kernel
theorem sc_need_told : FnScope N_need_told ["lot", "told"] (defScope s_need_told) := ⟨rfl, rfl, rfl, nd_need_told, rfl, by decide +kernel, by decide +kernel⟩
theorem ok_need_told (C : Ctx w K mg base h) : ∃ fd, FunD K "need_told" "need_told" (defArgs s_need_told) (defBody s_need_told) (defScope s_need_told) [] [] (He.fAd K ("need_told", none)) fd ∧ FnOk PR w K mg base (CX PR w) 4 (He.fAd K ("need_told", none)) fd ["lot", "told"] (spF ⟨K, w, TT K⟩ 2 F_need_told) := by
  obtain ⟨fd, F⟩ := C.c.def_ 15 (d := d_need_told) rfl
  refine ⟨fd, F, fn_ok F sc_need_told fun cdv A outer s H E hr tk => ?_⟩
  exact (ss_one (ss_if (st_not (st_val (se_callG (G_is_told C) (hr.mono (by decide)) tk (sa_cons (se_propG (G_Lot_places C) (hr.mono (by decide)) (se_var 0)) (sa_cons (se_var 1) sa_nil)))))
  (ss_one (ss_raise0G C.ex_BadTold rfl tk))
  ss_nil))
theorem G_need_told (C : Ctx w K mg base h) : Got PR w K mg base (TT K) "need_told" (He.ga K "need_told") 4 2 F_need_told [] := by
  obtain ⟨fd, F, O⟩ := ok_need_told C
  exact ⟨fd, _, [], [], O, C.g_need_told, F.kp, F.bindsN fun _ _ _ _ _ _ us hl => match us, hl with | [_, _], _ => rfl, .nil, fun _ _ => .nil⟩
abbrev N_fewest_lies : List Str := ["lot", "told", "several", "row"]
theorem nd_fewest_lies : N_fewest_lies.Nodup := by decide +kernel
theorem sc_fewest_lies : FnScope N_fewest_lies ["lot", "told"] (defScope s_fewest_lies) := ⟨rfl, rfl, rfl, nd_fewest_lies, rfl, by decide +kernel, by decide +kernel⟩
theorem ok_fewest_lies (C : Ctx w K mg base h) : ∃ fd, FunD K "fewest_lies" "fewest_lies" (defArgs s_fewest_lies) (defBody s_fewest_lies) (defScope s_fewest_lies) [] [] (He.fAd K ("fewest_lies", none)) fd ∧ FnOk PR w K mg base (CX PR w) 9 (He.fAd K ("fewest_lies", none)) fd ["lot", "told"] (spF ⟨K, w, TT K⟩ 2 F_fewest_lies) := by
  obtain ⟨fd, F⟩ := C.c.def_ 16 (d := d_fewest_lies) rfl
  refine ⟨fd, F, fn_ok F sc_fewest_lies fun cdv A outer s H E hr tk => ?_⟩
  exact (ss_cons (ss_expr (se_callG (G1_need_lot C) (hr.mono (by decide)) tk (sa_cons (se_var 0) sa_nil)))
  (ss_cons (ss_expr (se_callG (G_need_told C) (hr.mono (by decide)) tk (sa_cons (se_var 0) (sa_cons (se_var 1) sa_nil))))
  (ss_cons (ss_setComp (own := [("row", 3)]) (i := 2) rfl nd_fewest_lies rfl rfl rfl (blkOk_by (by rfl)) (tgOk_name (by decide)) (si_seq FU (se_propG (G_Lot_rows C) (hr.mono (by decide)) (se_var 0))) (fun _ _ _ _ _ => (pg_name nd_fewest_lies (i := 3) rfl (by first | exact Or.inl rfl | exact Or.inr rfl) (by first | exact .inl rfl | exact .inr rfl))) (fun _ _ _ _ _ => sts_nil) (fun _ _ _ _ _ => (se_callG (G_lies_in C) (hr.mono (by decide)) tkNo (sa_cons (se_var 1) (sa_cons (se_var 3) sa_nil)))) tE_close)
  (ss_one (ss_ret (se_if (st_cmp (o_ne (hu64_of hr)) (se_var 2) (se_lst sa_nil)) (se_callB (cr_minD rfl) C.b_min (sa_cons (se_var 2) sa_nil)) se_non))))))
theorem G_fewest_lies (C : Ctx w K mg base h) : Got PR w K mg base (TT K) "fewest_lies" (He.ga K "fewest_lies") 9 2 F_fewest_lies [] := by
  obtain ⟨fd, F, O⟩ := ok_fewest_lies C
  exact ⟨fd, _, [], [], O, C.g_fewest_lies, F.kp, F.bindsN fun _ _ _ _ _ _ us hl => match us, hl with | [_, _], _ => rfl, .nil, fun _ _ => .nil⟩
theorem GK_fewest_lies_0_1 (C : Ctx w K mg base h) : GotK PR w K mg base (TT K) "fewest_lies" (He.ga K "fewest_lies") 9 2 F_fewest_lies ["lot", "told"] ["lot", "told"] [0, 1] := by
  obtain ⟨fd, F, O⟩ := ok_fewest_lies C
  exact ⟨fd, O, C.g_fewest_lies, F.kp, kwAll F fun _ _ _ _ _ _ us hl => match us, hl with | [_, _], _ => rfl⟩
abbrev N_left_by : List Str := ["lot", "told", "lies", "row"]
theorem nd_left_by : N_left_by.Nodup := by decide +kernel
theorem sc_left_by : FnScope N_left_by ["lot", "told", "lies"] (defScope s_left_by) := ⟨rfl, rfl, rfl, nd_left_by, rfl, by decide +kernel, by decide +kernel⟩
theorem ok_left_by (C : Ctx w K mg base h) : ∃ fd, FunD K "left_by" "left_by" (defArgs s_left_by) (defBody s_left_by) (defScope s_left_by) [] [] (He.fAd K ("left_by", none)) fd ∧ FnOk PR w K mg base (CX PR w) 3 (He.fAd K ("left_by", none)) fd ["lot", "told", "lies"] (spF ⟨K, w, TT K⟩ 3 F_left_by) := by
  obtain ⟨fd, F⟩ := C.c.def_ 17 (d := d_left_by) rfl
  refine ⟨fd, F, fn_ok F sc_left_by fun cdv A outer s H E hr tk => ?_⟩
  exact (ss_one (ss_ret (se_callTy cr_tupleD C.b_tuple (sa_cons (se_close (se_comp (own := [("row", 3)]) rfl nd_left_by (blkOk_by (by rfl)) (tgOk_name (by decide)) (si_seq FU (se_propG (G_Lot_rows C) (hr.mono (by decide)) (se_var 0))) (fun _ _ _ _ _ => (pg_name nd_left_by (i := 3) rfl (by first | exact Or.inl rfl | exact Or.inr rfl) (by first | exact .inl rfl | exact .inr rfl))) (fun _ _ _ _ _ => (sts_one (st_cmp o_leI (se_callG (G_lies_in C) (hr.mono (by decide)) tkNo (sa_cons (se_var 1) (sa_cons (se_var 3) sa_nil))) (se_var 2)))) (fun _ _ _ _ _ => (se_var 3)))) sa_nil))))
theorem G_left_by (C : Ctx w K mg base h) : Got PR w K mg base (TT K) "left_by" (He.ga K "left_by") 3 3 F_left_by [] := by
  obtain ⟨fd, F, O⟩ := ok_left_by C
  exact ⟨fd, _, [], [], O, C.g_left_by, F.kp, F.bindsN fun _ _ _ _ _ _ us hl => match us, hl with | [_, _, _], _ => rfl, .nil, fun _ _ => .nil⟩
abbrev N_need_lies : List Str := ["lot", "lies"]
theorem nd_need_lies : N_need_lies.Nodup := by decide +kernel
theorem sc_need_lies : FnScope N_need_lies ["lot", "lies"] (defScope s_need_lies) := ⟨rfl, rfl, rfl, nd_need_lies, rfl, by decide +kernel, by decide +kernel⟩
theorem ok_need_lies (C : Ctx w K mg base h) : ∃ fd, FunD K "need_lies" "need_lies" (defArgs s_need_lies) (defBody s_need_lies) (defScope s_need_lies) [] [] (He.fAd K ("need_lies", none)) fd ∧ FnOk PR w K mg base (CX PR w) 9 (He.fAd K ("need_lies", none)) fd ["lot", "lies"] (spF ⟨K, w, TT K⟩ 2 F_need_lies) := by
  obtain ⟨fd, F⟩ := C.c.def_ 18 (d := d_need_lies) rfl
  refine ⟨fd, F, fn_ok F sc_need_lies fun cdv A outer s H E hr tk => ?_⟩
  exact (ss_cons (ss_expr (se_callG (G1_need_lot C) (hr.mono (by decide)) tk (sa_cons (se_var 0) sa_nil)))
  (ss_one (ss_if (st_not (st_val (se_callG (G_is_between C) (hr.mono (by decide)) tk (sa_cons (se_var 1) (sa_cons se_int (sa_cons (se_globI C.v_MOST_LIES.choose_spec) sa_nil))))))
  (ss_one (ss_raise1G C.ex_BadNumber rfl tk (hr.mono (by decide)) (sa_cons se_str sa_nil)))
  ss_nil)))
theorem G_need_lies (C : Ctx w K mg base h) : Got PR w K mg base (TT K) "need_lies" (He.ga K "need_lies") 9 2 F_need_lies [] := by
  obtain ⟨fd, F, O⟩ := ok_need_lies C
  exact ⟨fd, _, [], [], O, C.g_need_lies, F.kp, F.bindsN fun _ _ _ _ _ _ us hl => match us, hl with | [_, _], _ => rfl, .nil, fun _ _ => .nil⟩
abbrev N_need_told_lies : List Str := ["lot", "told", "lies"]
theorem nd_need_told_lies : N_need_told_lies.Nodup := by decide +kernel
theorem sc_need_told_lies : FnScope N_need_told_lies ["lot", "told", "lies"] (defScope s_need_told_lies) := ⟨rfl, rfl, rfl, nd_need_told_lies, rfl, by decide +kernel, by decide +kernel⟩
theorem ok_need_told_lies (C : Ctx w K mg base h) : ∃ fd, FunD K "need_told_lies" "need_told_lies" (defArgs s_need_told_lies) (defBody s_need_told_lies) (defScope s_need_told_lies) [] [] (He.fAd K ("need_told_lies", none)) fd ∧ FnOk PR w K mg base (CX PR w) 10 (He.fAd K ("need_told_lies", none)) fd ["lot", "told", "lies"] (spF ⟨K, w, TT K⟩ 3 F_need_told_lies) := by
  obtain ⟨fd, F⟩ := C.c.def_ 19 (d := d_need_told_lies) rfl
  refine ⟨fd, F, fn_ok F sc_need_told_lies fun cdv A outer s H E hr tk => ?_⟩
  exact (ss_cons (ss_expr (se_callG (G1_need_lot C) (hr.mono (by decide)) tk (sa_cons (se_var 0) sa_nil)))
  (ss_cons (ss_expr (se_callG (G_need_told C) (hr.mono (by decide)) tk (sa_cons (se_var 0) (sa_cons (se_var 1) sa_nil))))
  (ss_one (ss_expr (se_callG (G_need_lies C) (hr.mono (by decide)) tk (sa_cons (se_var 0) (sa_cons (se_var 2) sa_nil)))))))
theorem G_need_told_lies (C : Ctx w K mg base h) : Got PR w K mg base (TT K) "need_told_lies" (He.ga K "need_told_lies") 10 3 F_need_told_lies [] := by
  obtain ⟨fd, F, O⟩ := ok_need_told_lies C
  exact ⟨fd, _, [], [], O, C.g_need_told_lies, F.kp, F.bindsN fun _ _ _ _ _ _ us hl => match us, hl with | [_, _, _], _ => rfl, .nil, fun _ _ => .nil⟩
abbrev N_left_with : List Str := ["lot", "told", "lies"]
theorem nd_left_with : N_left_with.Nodup := by decide +kernel
theorem sc_left_with : FnScope N_left_with ["lot", "told", "lies"] (defScope s_left_with) := ⟨rfl, rfl, rfl, nd_left_with, rfl, by decide +kernel, by decide +kernel⟩
theorem ok_left_with (C : Ctx w K mg base h) : ∃ fd, FunD K "left_with" "left_with" (defArgs s_left_with) (defBody s_left_with) (defScope s_left_with) [] [] (He.fAd K ("left_with", none)) fd ∧ FnOk PR w K mg base (CX PR w) 11 (He.fAd K ("left_with", none)) fd ["lot", "told", "lies"] (spF ⟨K, w, TT K⟩ 3 F_left_with) := by
  obtain ⟨fd, F⟩ := C.c.def_ 20 (d := d_left_with) rfl
  refine ⟨fd, F, fn_ok F sc_left_with fun cdv A outer s H E hr tk => ?_⟩
  exact (ss_cons (ss_expr (se_callG (G_need_told_lies C) (hr.mono (by decide)) tk (sa_cons (se_var 0) (sa_cons (se_var 1) (sa_cons (se_var 2) sa_nil)))))
  (ss_one (ss_ret (se_callG (G_left_by C) (hr.mono (by decide)) tk (sa_cons (se_var 0) (sa_cons (se_var 1) (sa_cons (se_var 2) sa_nil)))))))
theorem G_left_with (C : Ctx w K mg base h) : Got PR w K mg base (TT K) "left_with" (He.ga K "left_with") 11 3 F_left_with [] := by
  obtain ⟨fd, F, O⟩ := ok_left_with C
  exact ⟨fd, _, [], [], O, C.g_left_with, F.kp, F.bindsN fun _ _ _ _ _ _ us hl => match us, hl with | [_, _, _], _ => rfl, .nil, fun _ _ => .nil⟩
theorem GK_left_with_0_1_2 (C : Ctx w K mg base h) : GotK PR w K mg base (TT K) "left_with" (He.ga K "left_with") 11 3 F_left_with ["lot", "told", "lies"] ["lot", "told", "lies"] [0, 1, 2] := by
  obtain ⟨fd, F, O⟩ := ok_left_with C
  exact ⟨fd, O, C.g_left_with, F.kp, kwAll F fun _ _ _ _ _ _ us hl => match us, hl with | [_, _, _], _ => rfl⟩
abbrev N_wrong_places : List Str := ["told", "row", "place", "answer"]
theorem nd_wrong_places : N_wrong_places.Nodup := by decide +kernel
theorem sc_wrong_places : FnScope N_wrong_places ["told", "row"] (defScope s_wrong_places) := ⟨rfl, rfl, rfl, nd_wrong_places, rfl, by decide +kernel, by decide +kernel⟩
theorem ok_wrong_places (C : Ctx w K mg base h) : ∃ fd, FunD K "wrong_places" "wrong_places" (defArgs s_wrong_places) (defBody s_wrong_places) (defScope s_wrong_places) [] [] (He.fAd K ("wrong_places", none)) fd ∧ FnOk PR w K mg base (CX PR w) 1 (He.fAd K ("wrong_places", none)) fd ["told", "row"] (spF ⟨K, w, TT K⟩ 2 F_wrong_places) := by
  obtain ⟨fd, F⟩ := C.c.def_ 21 (d := d_wrong_places) rfl
  refine ⟨fd, F, fn_ok F sc_wrong_places fun cdv A outer s H E hr tk => ?_⟩
  exact (ss_one (ss_ret (se_callTy cr_tupleD C.b_tuple (sa_cons (se_close (se_comp (own := [("place", 2), ("answer", 3)]) rfl nd_wrong_places (blkOk_by (by rfl)) (tgOk_tup (by decide)) (si_enum 0 (se_var 0) C.b_enumerate) (fun _ _ _ _ _ => (pg_tup rfl (pgs_cons (pg_name nd_wrong_places (i := 2) rfl (by first | exact Or.inl rfl | exact Or.inr rfl) (by first | exact .inl rfl | exact .inr rfl)) (pgs_cons (pg_name nd_wrong_places (i := 3) rfl (by first | exact Or.inl rfl | exact Or.inr rfl) (by first | exact .inl rfl | exact .inr rfl)) pgs_nil)))) (fun _ _ _ _ _ => (sts_one (st_bool (sw_and (st_cmp o_notN (se_var 3) se_non) (sw_and1 (st_cmp (o_ne (hu64_of hr)) (se_var 3) (se_ix (hu_of hr) (se_var 1) (se_var 2)))))))) (fun _ _ _ _ _ => (se_var 2)))) sa_nil))))
theorem G_wrong_places (C : Ctx w K mg base h) : Got PR w K mg base (TT K) "wrong_places" (He.ga K "wrong_places") 1 2 F_wrong_places [] := by
  obtain ⟨fd, F, O⟩ := ok_wrong_places C
  exact ⟨fd, _, [], [], O, C.g_wrong_places, F.kp, F.bindsN fun _ _ _ _ _ _ us hl => match us, hl with | [_, _], _ => rfl, .nil, fun _ _ => .nil⟩
abbrev N_lies_told : List Str := ["lot", "told", "lies", "rows", "several", "row", "place", "wrong"]
theorem nd_lies_told : N_lies_told.Nodup := by decide +kernel
theorem sc_lies_told : FnScope N_lies_told ["lot", "told", "lies"] (defScope s_lies_told) := ⟨rfl, rfl, rfl, nd_lies_told, rfl, by decide +kernel, by decide +kernel⟩
theorem ok_lies_told (C : Ctx w K mg base h) : ∃ fd, FunD K "lies_told" "lies_told" (defArgs s_lies_told) (defBody s_lies_told) (defScope s_lies_told) [] [] (He.fAd K ("lies_told", none)) fd ∧ FnOk PR w K mg base (CX PR w) 11 (He.fAd K ("lies_told", none)) fd ["lot", "told", "lies"] (spF ⟨K, w, TT K⟩ 3 F_lies_told) := by
  obtain ⟨fd, F⟩ := C.c.def_ 22 (d := d_lies_told) rfl
  refine ⟨fd, F, fn_ok F sc_lies_told fun cdv A outer s H E hr tk => ?_⟩
  exact (ss_cons (ss_expr (se_callG (G_need_told_lies C) (hr.mono (by decide)) tk (sa_cons (se_var 0) (sa_cons (se_var 1) (sa_cons (se_var 2) sa_nil)))))
  (ss_cons (ss_asg (se_callG (G_left_by C) (hr.mono (by decide)) tk (sa_cons (se_var 0) (sa_cons (se_var 1) (sa_cons (se_var 2) sa_nil)))) (sg_name 3 nd_lies_told))
  (ss_cons (ss_if (st_cmp (o_eq (hu64_of hr)) (se_var 3) (se_tup sa_nil))
  (ss_one (ss_ret se_non))
  ss_nil)
  (ss_cons (ss_asg (se_close (se_comp (own := [("row", 5)]) rfl nd_lies_told (blkOk_by (by rfl)) (tgOk_name (by decide)) (si_seq FU (se_var 3)) (fun _ _ _ _ _ => (pg_name nd_lies_told (i := 5) rfl (by first | exact Or.inl rfl | exact Or.inr rfl) (by first | exact .inl rfl | exact .inr rfl))) (fun _ _ _ _ _ => sts_nil) (fun _ _ _ _ _ => (se_callG (G_wrong_places C) (hr.mono (by decide)) tkNo (sa_cons (se_var 1) (sa_cons (se_var 5) sa_nil)))))) (sg_name 4 nd_lies_told))
  (ss_one (ss_ret (se_callTy cr_tupleD C.b_tuple (sa_cons (se_close (se_comp (own := [("place", 6)]) rfl nd_lies_told (blkOk_by (by rfl)) (tgOk_name (by decide)) (si_seq FU (se_ix (hu_of hr) (se_var 4) se_int)) (fun _ _ _ _ _ => (pg_name nd_lies_told (i := 6) rfl (by first | exact Or.inl rfl | exact Or.inr rfl) (by first | exact .inl rfl | exact .inr rfl))) (fun _ _ _ _ _ => (sts_one (st_val (se_callB (cr_allD rfl) C.b_all (sa_cons (se_close (se_comp (own := [("wrong", 7)]) rfl nd_lies_told (blkOk_by (by rfl)) (tgOk_name (by decide)) (si_seq FU (se_var 4)) (fun _ _ _ _ _ => (pg_name nd_lies_told (i := 7) rfl (by first | exact Or.inl rfl | exact Or.inr rfl) (by first | exact .inl rfl | exact .inr rfl))) (fun _ _ _ _ _ => sts_nil) (fun _ _ _ _ _ => (se_cmp (o_in (hu_of hr)) (se_var 6) (se_var 7))))) sa_nil))))) (fun _ _ _ _ _ => (se_var 6)))) sa_nil))))))))
theorem G_lies_told (C : Ctx w K mg base h) : Got PR w K mg base (TT K) "lies_told" (He.ga K "lies_told") 11 3 F_lies_told [] := by
  obtain ⟨fd, F, O⟩ := ok_lies_told C
  exact ⟨fd, _, [], [], O, C.g_lies_told, F.kp, F.bindsN fun _ _ _ _ _ _ us hl => match us, hl with | [_, _, _], _ => rfl, .nil, fun _ _ => .nil⟩
abbrev N_sure_with : List Str := ["lot", "told", "lies", "rows", "several", "place", "answers", "row"]
theorem nd_sure_with : N_sure_with.Nodup := by decide +kernel
theorem sc_sure_with : FnScope N_sure_with ["lot", "told", "lies"] (defScope s_sure_with) := ⟨rfl, rfl, rfl, nd_sure_with, rfl, by decide +kernel, by decide +kernel⟩
theorem ok_sure_with (C : Ctx w K mg base h) : ∃ fd, FunD K "sure_with" "sure_with" (defArgs s_sure_with) (defBody s_sure_with) (defScope s_sure_with) [] [] (He.fAd K ("sure_with", none)) fd ∧ FnOk PR w K mg base (CX PR w) 11 (He.fAd K ("sure_with", none)) fd ["lot", "told", "lies"] (spF ⟨K, w, TT K⟩ 3 F_sure_with) := by
  obtain ⟨fd, F⟩ := C.c.def_ 23 (d := d_sure_with) rfl
  refine ⟨fd, F, fn_ok F sc_sure_with fun cdv A outer s H E hr tk => ?_⟩
  exact (ss_cons (ss_expr (se_callG (G_need_told_lies C) (hr.mono (by decide)) tk (sa_cons (se_var 0) (sa_cons (se_var 1) (sa_cons (se_var 2) sa_nil)))))
  (ss_cons (ss_asg (se_callG (G_left_by C) (hr.mono (by decide)) tk (sa_cons (se_var 0) (sa_cons (se_var 1) (sa_cons (se_var 2) sa_nil)))) (sg_name 3 nd_sure_with))
  (ss_cons (ss_if (st_cmp (o_eq (hu64_of hr)) (se_var 3) (se_tup sa_nil))
  (ss_one (ss_ret se_non))
  ss_nil)
  (ss_cons (ss_setComp (own := [("place", 5)]) (i := 4) rfl nd_sure_with rfl rfl rfl (blkOk_by (by rfl)) (tgOk_name (by decide)) (si_rng1 (se_propG (G_Lot_places C) (hr.mono (by decide)) (se_var 0)) C.b_range) (fun _ _ _ _ _ => (pg_name nd_sure_with (i := 5) rfl (by first | exact Or.inl rfl | exact Or.inr rfl) (by first | exact .inl rfl | exact .inr rfl))) (fun _ _ _ _ _ => sts_nil) (fun _ _ _ _ _ => (se_callB (cr_sortedF rfl (hu70_of hr)) C.b_sorted (sa_cons (se_close (se_dcomp false (own := [("row", 7)]) (hu_of hr) rfl nd_sure_with (blkOk_by (by rfl)) (tgOk_name (by decide)) (si_seq FU (se_var 3)) (fun _ _ _ _ _ => (pg_name nd_sure_with (i := 7) rfl (by first | exact Or.inl rfl | exact Or.inr rfl) (by first | exact .inl rfl | exact .inr rfl))) (fun _ _ _ _ _ => sts_nil) (fun _ _ _ _ _ => (se_ix (hu_of hr) (se_var 7) (se_var 5))) (fun _ _ _ _ _ => se_non))) sa_nil))) tE_close)
  (ss_one (ss_ret (se_callTy cr_tupleD C.b_tuple (sa_cons (se_close (se_comp (own := [("answers", 6)]) rfl nd_sure_with (blkOk_by (by rfl)) (tgOk_name (by decide)) (si_seq FU (se_var 4)) (fun _ _ _ _ _ => (pg_name nd_sure_with (i := 6) rfl (by first | exact Or.inl rfl | exact Or.inr rfl) (by first | exact .inl rfl | exact .inr rfl))) (fun _ _ _ _ _ => sts_nil) (fun _ _ _ _ _ => (se_if (st_cmp (o_eq (hu64_of hr)) (se_callB cr_lenD C.b_len (sa_cons (se_var 6) sa_nil)) se_int) (se_ix (hu_of hr) (se_var 6) se_int) se_non)))) sa_nil))))))))
theorem G_sure_with (C : Ctx w K mg base h) : Got PR w K mg base (TT K) "sure_with" (He.ga K "sure_with") 11 3 F_sure_with [] := by
  obtain ⟨fd, F, O⟩ := ok_sure_with C
  exact ⟨fd, _, [], [], O, C.g_sure_with, F.kp, F.bindsN fun _ _ _ _ _ _ us hl => match us, hl with | [_, _, _], _ => rfl, .nil, fun _ _ => .nil⟩
abbrev N__law_errors_right : List Str := ["here", "places", "told", "work", "found", "error", "word"]
theorem nd__law_errors_right : N__law_errors_right.Nodup := by decide +kernel
theorem sc__law_errors_right : FnScope N__law_errors_right ["here", "places"] (defScope s__law_errors_right) := ⟨rfl, rfl, rfl, nd__law_errors_right, rfl, by decide +kernel, by decide +kernel⟩
theorem ok__law_errors_right (C : Ctx w K mg base h) : ∃ fd, FunD K "_law_errors_right" "_law_errors_right" (defArgs s__law_errors_right) (defBody s__law_errors_right) (defScope s__law_errors_right) [] [] (He.fAd K ("_law_errors_right", none)) fd ∧ FnOk PR w K mg base (CX PR w) 14 (He.fAd K ("_law_errors_right", none)) fd ["here", "places"] (spF ⟨K, w, TT K⟩ 2 F__law_errors_right) := by
  obtain ⟨fd, F⟩ := C.c.def_ 24 (d := d__law_errors_right) rfl
  refine ⟨fd, F, fn_okC (p := ("_law_errors_right", none)) F sc__law_errors_right fun A outer s H E hr tk => ?_⟩
  exact (ss_cons (ss_asg (se_bin o_mul (se_tup (sa_cons se_non sa_nil)) (se_var 1)) (sg_name 2 nd__law_errors_right))
  (ss_cons (ss_for (L2.passes_of rfl) rfl (si_seq FU (se_lst (sa_cons (se_globF 13 C.g_left_with) (sa_cons (se_globF 14 C.g_sure_with) (sa_cons (se_globF 17 C.g_lies_told) sa_nil))))) (sg_name 3 nd__law_errors_right)
  (ss_cons (ss_asg (se_new (sa_cons (se_caughtG (k := 11) C.caught C.lam__law_errors_right (hr.mono (by decide)) (LamX.lamS_by (by rfl)) rfl (fun _ _ _ _ _ => rfl) (fun _ _ _ _ _ _ _ hr1 tk1 => (se_callV (k := 11) 3 _ (fs_cons (holds_of (G_left_with C) (by decide)) (fs_cons (holds_of (G_sure_with C) (by decide)) (fs_cons (holds_of (G_lies_told C) (by decide)) fs_nil))) (hr1.mono (by decide)) tk1 (sa_cons se_non (sa_cons se_non (sa_cons se_non sa_nil)))))) sa_nil)) (sg_name 4 nd__law_errors_right))
  (ss_cons (ss_expr (se_append (se_var 4) (sa_cons (se_caughtG (k := 11) C.caught C.lam__law_errors_right (hr.mono (by decide)) (LamX.lamS_by (by rfl)) rfl (fun _ _ _ _ _ => rfl) (fun _ _ _ _ _ _ _ hr2 tk2 => (se_callV (k := 11) 3 _ (fs_cons (holds_of (G_left_with C) (by decide)) (fs_cons (holds_of (G_sure_with C) (by decide)) (fs_cons (holds_of (G_lies_told C) (by decide)) fs_nil))) (hr2.mono (by decide)) tk2 (sa_cons (se_var 0) (sa_cons se_non (sa_cons se_non sa_nil)))))) sa_nil)))
  (ss_cons (ss_expr (se_append (se_var 4) (sa_cons (se_caughtG (k := 11) C.caught C.lam__law_errors_right (hr.mono (by decide)) (LamX.lamS_by (by rfl)) rfl (fun _ _ _ _ _ => rfl) (fun _ _ _ _ _ _ _ hr3 tk3 => (se_callV (k := 11) 3 _ (fs_cons (holds_of (G_left_with C) (by decide)) (fs_cons (holds_of (G_sure_with C) (by decide)) (fs_cons (holds_of (G_lies_told C) (by decide)) fs_nil))) (hr3.mono (by decide)) tk3 (sa_cons (se_var 0) (sa_cons (se_callTy cr_listF C.b_list (sa_cons (se_var 2) sa_nil)) (sa_cons se_int sa_nil)))))) sa_nil)))
  (ss_cons (ss_expr (se_append (se_var 4) (sa_cons (se_caughtG (k := 11) C.caught C.lam__law_errors_right (hr.mono (by decide)) (LamX.lamS_by (by rfl)) rfl (fun _ _ _ _ _ => rfl) (fun _ _ _ _ _ _ _ hr4 tk4 => (se_callV (k := 11) 3 _ (fs_cons (holds_of (G_left_with C) (by decide)) (fs_cons (holds_of (G_sure_with C) (by decide)) (fs_cons (holds_of (G_lies_told C) (by decide)) fs_nil))) (hr4.mono (by decide)) tk4 (sa_cons (se_var 0) (sa_cons (se_bin o_add (se_var 2) (se_tup (sa_cons se_int sa_nil))) (sa_cons se_int sa_nil)))))) sa_nil)))
  (ss_cons (ss_expr (se_append (se_var 4) (sa_cons (se_caughtG (k := 11) C.caught C.lam__law_errors_right (hr.mono (by decide)) (LamX.lamS_by (by rfl)) rfl (fun _ _ _ _ _ => rfl) (fun _ _ _ _ _ _ _ hr5 tk5 => (se_callV (k := 11) 3 _ (fs_cons (holds_of (G_left_with C) (by decide)) (fs_cons (holds_of (G_sure_with C) (by decide)) (fs_cons (holds_of (G_lies_told C) (by decide)) fs_nil))) (hr5.mono (by decide)) tk5 (sa_cons (se_var 0) (sa_cons (se_bin o_mul (se_tup (sa_cons se_bl sa_nil)) (se_var 1)) (sa_cons se_int sa_nil)))))) sa_nil)))
  (ss_cons (ss_expr (se_append (se_var 4) (sa_cons (se_caughtG (k := 11) C.caught C.lam__law_errors_right (hr.mono (by decide)) (LamX.lamS_by (by rfl)) rfl (fun _ _ _ _ _ => rfl) (fun _ _ _ _ _ _ _ hr6 tk6 => (se_callV (k := 11) 3 _ (fs_cons (holds_of (G_left_with C) (by decide)) (fs_cons (holds_of (G_sure_with C) (by decide)) (fs_cons (holds_of (G_lies_told C) (by decide)) fs_nil))) (hr6.mono (by decide)) tk6 (sa_cons (se_var 0) (sa_cons (se_var 2) (sa_cons se_int sa_nil)))))) sa_nil)))
  (ss_cons (ss_expr (se_append (se_var 4) (sa_cons (se_caughtG (k := 11) C.caught C.lam__law_errors_right (hr.mono (by decide)) (LamX.lamS_by (by rfl)) rfl (fun _ _ _ _ _ => rfl) (fun _ _ _ _ _ _ _ hr7 tk7 => (se_callV (k := 11) 3 _ (fs_cons (holds_of (G_left_with C) (by decide)) (fs_cons (holds_of (G_sure_with C) (by decide)) (fs_cons (holds_of (G_lies_told C) (by decide)) fs_nil))) (hr7.mono (by decide)) tk7 (sa_cons (se_var 0) (sa_cons (se_var 2) (sa_cons (se_neg se_int) sa_nil)))))) sa_nil)))
  (ss_cons (ss_expr (se_append (se_var 4) (sa_cons (se_caughtG (k := 11) C.caught C.lam__law_errors_right (hr.mono (by decide)) (LamX.lamS_by (by rfl)) rfl (fun _ _ _ _ _ => rfl) (fun _ _ _ _ _ _ _ hr8 tk8 => (se_callV (k := 11) 3 _ (fs_cons (holds_of (G_left_with C) (by decide)) (fs_cons (holds_of (G_sure_with C) (by decide)) (fs_cons (holds_of (G_lies_told C) (by decide)) fs_nil))) (hr8.mono (by decide)) tk8 (sa_cons (se_var 0) (sa_cons (se_var 2) (sa_cons se_bl sa_nil)))))) sa_nil)))
  (ss_cons (ss_if (st_cmp (o_ne (hu64_of hr)) (se_close (se_comp (own := [("error", 5), ("word", 6)]) rfl nd__law_errors_right (blkOk_by (by rfl)) (tgOk_tup (by decide)) (si_zip 0 (se_var 4) (se_lst (sa_cons se_str (sa_cons se_str (sa_cons se_str (sa_cons se_str (sa_cons se_str (sa_cons se_str (sa_cons se_str (sa_cons se_str sa_nil))))))))) C.b_zip) (fun _ _ _ _ _ => (pg_tup rfl (pgs_cons (pg_name nd__law_errors_right (i := 5) rfl (by first | exact Or.inl rfl | exact Or.inr rfl) (by first | exact .inl rfl | exact .inr rfl)) (pgs_cons (pg_name nd__law_errors_right (i := 6) rfl (by first | exact Or.inl rfl | exact Or.inr rfl) (by first | exact .inl rfl | exact .inr rfl)) pgs_nil)))) (fun _ _ _ _ _ => (sts_one (st_not (st_val (se_callG (G__law_is_of C) (hr.mono (by decide)) tkNo (sa_cons (se_var 5) (sa_cons (se_var 6) sa_nil))))))) (fun _ _ _ _ _ => se_int))) (se_lst sa_nil))
  (ss_one (ss_ret se_bl))
  ss_nil)
  (ss_one (ss_if (st_cmp (o_ne (hu64_of hr)) (se_close (se_comp (own := [("error", 5)]) rfl nd__law_errors_right (blkOk_by (by rfl)) (tgOk_name (by decide)) (si_seq FU (se_sl (se_var 4) (so_some se_int) so_none)) (fun _ _ _ _ _ => (pg_name nd__law_errors_right (i := 5) rfl (by first | exact Or.inl rfl | exact Or.inr rfl) (by first | exact .inl rfl | exact .inr rfl))) (fun _ _ _ _ _ => sts_nil) (fun _ _ _ _ _ => (se_xf okX_part C.xf_part (se_var 5))))) (se_lst (sa_cons se_str (sa_cons se_str (sa_cons se_str sa_nil)))))
  (ss_one (ss_ret se_bl))
  ss_nil))))))))))))
  (ss_one (ss_ret (se_isa _ (se_caughtG (k := 11) C.caught C.lam__law_errors_right (hr.mono (by decide)) (LamX.lamS_by (by rfl)) rfl (fun _ _ _ _ _ => rfl) (fun _ _ _ _ _ _ _ hr9 tk9 => (se_callG (G_fewest_lies C) (hr9.mono (by decide)) tk9 (sa_cons (se_var 0) (sa_cons (se_bin o_mul (se_tup (sa_cons se_int sa_nil)) (se_var 1)) sa_nil))))) (pe_glob (v := .ref (He.ga K "BadTold")) rfl C.g_BadTold rfl) (.own _) C.isa_BadTold C.b_isinstance)))))
theorem G__law_errors_right (C : Ctx w K mg base h) : Got PR w K mg base (TT K) "_law_errors_right" (He.ga K "_law_errors_right") 14 2 F__law_errors_right [] := by
  obtain ⟨fd, F, O⟩ := ok__law_errors_right C
  exact ⟨fd, _, [], [], O, C.g__law_errors_right, F.kp, F.bindsN fun _ _ _ _ _ _ us hl => match us, hl with | [_, _], _ => rfl, .nil, fun _ _ => .nil⟩
abbrev N__law_flip : List Str := ["row", "asked", "place", "answer"]
theorem nd__law_flip : N__law_flip.Nodup := by decide +kernel
theorem sc__law_flip : FnScope N__law_flip ["row", "asked"] (defScope s__law_flip) := ⟨rfl, rfl, rfl, nd__law_flip, rfl, by decide +kernel, by decide +kernel⟩
theorem ok__law_flip (C : Ctx w K mg base h) : ∃ fd, FunD K "_law_flip" "_law_flip" (defArgs s__law_flip) (defBody s__law_flip) (defScope s__law_flip) [] [] (He.fAd K ("_law_flip", none)) fd ∧ FnOk PR w K mg base (CX PR w) 1 (He.fAd K ("_law_flip", none)) fd ["row", "asked"] (spF ⟨K, w, TT K⟩ 2 F__law_flip) := by
  obtain ⟨fd, F⟩ := C.c.def_ 25 (d := d__law_flip) rfl
  refine ⟨fd, F, fn_ok F sc__law_flip fun cdv A outer s H E hr tk => ?_⟩
  exact (ss_one (ss_ret (se_callTy cr_tupleD C.b_tuple (sa_cons (se_close (se_comp (own := [("place", 2), ("answer", 3)]) rfl nd__law_flip (blkOk_by (by rfl)) (tgOk_tup (by decide)) (si_enum 0 (se_var 0) C.b_enumerate) (fun _ _ _ _ _ => (pg_tup rfl (pgs_cons (pg_name nd__law_flip (i := 2) rfl (by first | exact Or.inl rfl | exact Or.inr rfl) (by first | exact .inl rfl | exact .inr rfl)) (pgs_cons (pg_name nd__law_flip (i := 3) rfl (by first | exact Or.inl rfl | exact Or.inr rfl) (by first | exact .inl rfl | exact .inr rfl)) pgs_nil)))) (fun _ _ _ _ _ => sts_nil) (fun _ _ _ _ _ => (se_if (st_cmp (o_in (hu_of hr)) (se_var 2) (se_var 1)) (se_bin o_sub se_int (se_var 3)) (se_var 3))))) sa_nil))))
theorem G__law_flip (C : Ctx w K mg base h) : Got PR w K mg base (TT K) "_law_flip" (He.ga K "_law_flip") 1 2 F__law_flip [] := by
  obtain ⟨fd, F, O⟩ := ok__law_flip C
  exact ⟨fd, _, [], [], O, C.g__law_flip, F.kp, F.bindsN fun _ _ _ _ _ _ us hl => match us, hl with | [_, _], _ => rfl, .nil, fun _ _ => .nil⟩
abbrev N__law_lies : List Str := ["told", "row", "answer", "own"]
theorem nd__law_lies : N__law_lies.Nodup := by decide +kernel
theorem sc__law_lies : FnScope N__law_lies ["told", "row"] (defScope s__law_lies) := ⟨rfl, rfl, rfl, nd__law_lies, rfl, by decide +kernel, by decide +kernel⟩
theorem ok__law_lies (C : Ctx w K mg base h) : ∃ fd, FunD K "_law_lies" "_law_lies" (defArgs s__law_lies) (defBody s__law_lies) (defScope s__law_lies) [] [] (He.fAd K ("_law_lies", none)) fd ∧ FnOk PR w K mg base (CX PR w) 1 (He.fAd K ("_law_lies", none)) fd ["told", "row"] (spF ⟨K, w, TT K⟩ 2 F__law_lies) := by
  obtain ⟨fd, F⟩ := C.c.def_ 26 (d := d__law_lies) rfl
  refine ⟨fd, F, fn_ok F sc__law_lies fun cdv A outer s H E hr tk => ?_⟩
  exact (ss_one (ss_ret (se_callB cr_lenD C.b_len (sa_cons (se_close (se_comp (own := [("answer", 2), ("own", 3)]) rfl nd__law_lies (blkOk_by (by rfl)) (tgOk_tup (by decide)) (si_zip 0 (se_var 0) (se_var 1) C.b_zip) (fun _ _ _ _ _ => (pg_tup rfl (pgs_cons (pg_name nd__law_lies (i := 2) rfl (by first | exact Or.inl rfl | exact Or.inr rfl) (by first | exact .inl rfl | exact .inr rfl)) (pgs_cons (pg_name nd__law_lies (i := 3) rfl (by first | exact Or.inl rfl | exact Or.inr rfl) (by first | exact .inl rfl | exact .inr rfl)) pgs_nil)))) (fun _ _ _ _ _ => (sts_one (st_bool (sw_and (st_cmp o_notN (se_var 2) se_non) (sw_and1 (st_cmp (o_ne (hu64_of hr)) (se_var 2) (se_var 3))))))) (fun _ _ _ _ _ => se_int))) sa_nil))))
theorem G__law_lies (C : Ctx w K mg base h) : Got PR w K mg base (TT K) "_law_lies" (He.ga K "_law_lies") 1 2 F__law_lies [] := by
  obtain ⟨fd, F, O⟩ := ok__law_lies C
  exact ⟨fd, _, [], [], O, C.g__law_lies, F.kp, F.bindsN fun _ _ _ _ _ _ us hl => match us, hl with | [_, _], _ => rfl, .nil, fun _ _ => .nil⟩
abbrev N__law_below : List Str := ["row", "found", "answer", "later", "part"]
theorem nd__law_below : N__law_below.Nodup := by decide +kernel
theorem sc__law_below : FnScope N__law_below ["row"] (defScope s__law_below) := ⟨rfl, rfl, rfl, nd__law_below, rfl, by decide +kernel, by decide +kernel⟩
theorem ok__law_below (C : Ctx w K mg base h) : ∃ fd, FunD K "_law_below" "_law_below" (defArgs s__law_below) (defBody s__law_below) (defScope s__law_below) [] [] (He.fAd K ("_law_below", none)) fd ∧ FnOk PR w K mg base (CX PR w) 1 (He.fAd K ("_law_below", none)) fd ["row"] (spF ⟨K, w, TT K⟩ 1 F__law_below) := by
  obtain ⟨fd, F⟩ := C.c.def_ 27 (d := d__law_below) rfl
  refine ⟨fd, F, fn_ok F sc__law_below fun cdv A outer s H E hr tk => ?_⟩
  exact (ss_cons (ss_asg (se_lst (sa_cons (se_tup sa_nil) sa_nil)) (sg_name 1 nd__law_below))
  (ss_cons (ss_for (L2.passes_of rfl) rfl (si_seq FU (se_var 0)) (sg_name 2 nd__law_below)
  (ss_cons (ss_asg (se_lst sa_nil) (sg_name 3 nd__law_below))
  (ss_cons (ss_for (L2.passes_of rfl) rfl (si_seq FU (se_var 1)) (sg_name 4 nd__law_below)
  (ss_one (ss_asg (se_bin o_add (se_var 3) (se_if (st_cmp (o_eq (hu64_of hr)) (se_var 2) se_int) (se_lst (sa_cons (se_bin o_add (se_var 4) (se_tup (sa_cons se_int sa_nil))) (sa_cons (se_bin o_add (se_var 4) (se_tup (sa_cons se_int sa_nil))) sa_nil))) (se_lst (sa_cons (se_bin o_add (se_var 4) (se_tup (sa_cons se_int sa_nil))) sa_nil)))) (sg_name 3 nd__law_below))))
  (ss_one (ss_asg (se_var 3) (sg_name 1 nd__law_below))))))
  (ss_one (ss_ret (se_var 1)))))
theorem G__law_below (C : Ctx w K mg base h) : Got PR w K mg base (TT K) "_law_below" (He.ga K "_law_below") 1 1 F__law_below [] := by
  obtain ⟨fd, F, O⟩ := ok__law_below C
  exact ⟨fd, _, [], [], O, C.g__law_below, F.kp, F.bindsN fun _ _ _ _ _ _ us hl => match us, hl with | [_], _ => rfl, .nil, fun _ _ => .nil⟩
abbrev N__law_pick : List Str := ["tape", "several"]
theorem nd__law_pick : N__law_pick.Nodup := by decide +kernel
theorem sc__law_pick : FnScope N__law_pick ["tape", "several"] (defScope s__law_pick) := ⟨rfl, rfl, rfl, nd__law_pick, rfl, by decide +kernel, by decide +kernel⟩
theorem ok__law_pick (C : Ctx w K mg base h) : ∃ fd, FunD K "_law_pick" "_law_pick" (defArgs s__law_pick) (defBody s__law_pick) (defScope s__law_pick) [] [] (He.fAd K ("_law_pick", none)) fd ∧ FnOk PR w K mg base (CX PR w) 3 (He.fAd K ("_law_pick", none)) fd ["tape", "several"] (spF ⟨K, w, TT K⟩ 2 F__law_pick) := by
  obtain ⟨fd, F⟩ := C.c.def_ 28 (d := d__law_pick) rfl
  refine ⟨fd, F, fn_ok F sc__law_pick fun cdv A outer s H E hr tk => ?_⟩
  exact (ss_one (ss_ret (se_ix (hu_of hr) (se_var 1) (se_callG (G__law_draw C) (hr.mono (by decide)) tk (sa_cons (se_var 0) (sa_cons (se_callB cr_lenD C.b_len (sa_cons (se_var 1) sa_nil)) sa_nil))))))
theorem G__law_pick (C : Ctx w K mg base h) : Got PR w K mg base (TT K) "_law_pick" (He.ga K "_law_pick") 3 2 F__law_pick [] := by
  obtain ⟨fd, F, O⟩ := ok__law_pick C
  exact ⟨fd, _, [], [], O, C.g__law_pick, F.kp, F.bindsN fun _ _ _ _ _ _ us hl => match us, hl with | [_, _], _ => rfl, .nil, fun _ _ => .nil⟩
abbrev N__law_rows : List Str := ["places", "found", "place", "later", "row"]
theorem nd__law_rows : N__law_rows.Nodup := by decide +kernel
theorem sc__law_rows : FnScope N__law_rows ["places"] (defScope s__law_rows) := ⟨rfl, rfl, rfl, nd__law_rows, rfl, by decide +kernel, by decide +kernel⟩
theorem ok__law_rows (C : Ctx w K mg base h) : ∃ fd, FunD K "_law_rows" "_law_rows" (defArgs s__law_rows) (defBody s__law_rows) (defScope s__law_rows) [] [] (He.fAd K ("_law_rows", none)) fd ∧ FnOk PR w K mg base (CX PR w) 1 (He.fAd K ("_law_rows", none)) fd ["places"] (spF ⟨K, w, TT K⟩ 1 F__law_rows) := by
  obtain ⟨fd, F⟩ := C.c.def_ 29 (d := d__law_rows) rfl
  refine ⟨fd, F, fn_ok F sc__law_rows fun cdv A outer s H E hr tk => ?_⟩
  exact (ss_cons (ss_asg (se_lst (sa_cons (se_tup sa_nil) sa_nil)) (sg_name 1 nd__law_rows))
  (ss_cons (ss_for (L2.passes_of rfl) rfl (si_rng1 (se_var 0) C.b_range) (sg_name 2 nd__law_rows)
  (ss_cons (ss_asg (se_lst sa_nil) (sg_name 3 nd__law_rows))
  (ss_cons (ss_for (L2.passes_of rfl) rfl (si_seq FU (se_var 1)) (sg_name 4 nd__law_rows)
  (ss_one (ss_asg (se_bin o_add (se_var 3) (se_lst (sa_cons (se_bin o_add (se_var 4) (se_tup (sa_cons se_int sa_nil))) (sa_cons (se_bin o_add (se_var 4) (se_tup (sa_cons se_int sa_nil))) sa_nil)))) (sg_name 3 nd__law_rows))))
  (ss_one (ss_asg (se_var 3) (sg_name 1 nd__law_rows))))))
  (ss_one (ss_ret (se_var 1)))))
theorem G__law_rows (C : Ctx w K mg base h) : Got PR w K mg base (TT K) "_law_rows" (He.ga K "_law_rows") 1 1 F__law_rows [] := by
  obtain ⟨fd, F, O⟩ := ok__law_rows C
  exact ⟨fd, _, [], [], O, C.g__law_rows, F.kp, F.bindsN fun _ _ _ _ _ _ us hl => match us, hl with | [_], _ => rfl, .nil, fun _ _ => .nil⟩
abbrev N__law_lot : List Str := ["tape", "most", "places", "turn", "rows", "found", "step", "turned", "cut", "first", "second", "row", "place", "other"]
theorem nd__law_lot : N__law_lot.Nodup := by decide +kernel
theorem sc__law_lot : FnScope N__law_lot ["tape", "most"] (defScope s__law_lot) := ⟨rfl, rfl, rfl, nd__law_lot, rfl, by decide +kernel, by decide +kernel⟩
theorem ok__law_lot (C : Ctx w K mg base h) : ∃ fd, FunD K "_law_lot" "_law_lot" (defArgs s__law_lot) (defBody s__law_lot) (defScope s__law_lot) [] [] (He.fAd K ("_law_lot", none)) fd ∧ FnOk PR w K mg base (CX PR w) 4 (He.fAd K ("_law_lot", none)) fd ["tape", "most"] (spF ⟨K, w, TT K⟩ 2 F__law_lot) := by
  obtain ⟨fd, F⟩ := C.c.def_ 30 (d := d__law_lot) rfl
  refine ⟨fd, F, fn_ok F sc__law_lot fun cdv A outer s H E hr tk => ?_⟩
  exact (ss_cons (ss_par 2 3 rfl nd__law_lot (sa_cons (se_bin o_add se_int (se_callG (G__law_draw C) (hr.mono (by decide)) tk (sa_cons (se_var 0) (sa_cons (se_var 1) sa_nil)))) (sa_cons (se_callG (G__law_draw C) (hr.mono (by decide)) tk (sa_cons (se_var 0) (sa_cons se_int sa_nil))) sa_nil)))
  (ss_cons (ss_asg (se_callG (G__law_rows C) (hr.mono (by decide)) tk (sa_cons (se_var 2) sa_nil)) (sg_name 4 nd__law_lot))
  (ss_cons (ss_if (st_cmp (o_eq (hu64_of hr)) (se_var 3) se_int)
  (ss_one (ss_setComp (own := [("row", 11)]) (i := 5) rfl nd__law_lot rfl rfl rfl (blkOk_by (by rfl)) (tgOk_name (by decide)) (si_seq FU (se_var 4)) (fun _ _ _ _ _ => (pg_name nd__law_lot (i := 11) rfl (by first | exact Or.inl rfl | exact Or.inr rfl) (by first | exact .inl rfl | exact .inr rfl))) (fun _ _ _ _ _ => (sts_one (st_cmp (o_eq (hu64_of hr)) (se_callG (G__law_draw C) (hr.mono (by decide)) tkNo (sa_cons (se_var 0) (sa_cons se_int sa_nil))) se_int))) (fun _ _ _ _ _ => (se_var 11)) (fun h => h)))
  (ss_one (ss_if (st_cmp (o_eq (hu64_of hr)) (se_var 3) se_int)
  (ss_one (ss_setComp (own := [("row", 11)]) (i := 5) rfl nd__law_lot rfl rfl rfl (blkOk_by (by rfl)) (tgOk_name (by decide)) (si_seq FU (se_var 4)) (fun _ _ _ _ _ => (pg_name nd__law_lot (i := 11) rfl (by first | exact Or.inl rfl | exact Or.inr rfl) (by first | exact .inl rfl | exact .inr rfl))) (fun _ _ _ _ _ => (sts_one (st_cmp (o_eq (hu64_of hr)) (se_callG (G__law_draw C) (hr.mono (by decide)) tkNo (sa_cons (se_var 0) (sa_cons se_int sa_nil))) se_int))) (fun _ _ _ _ _ => (se_var 11)) (fun h => h)))
  (ss_one (ss_if (st_cmp o_ltI (se_var 3) se_int)
  (ss_cons (ss_asg (se_new (sa_cons (se_callG (G__law_pick C) (hr.mono (by decide)) tk (sa_cons (se_var 0) (sa_cons (se_var 4) sa_nil))) sa_nil)) (sg_name 5 nd__law_lot))
  (ss_one (ss_for (L2.passes_of rfl) rfl (si_rng1 (se_callG (G__law_draw C) (hr.mono (by decide)) tk (sa_cons (se_var 0) (sa_cons (se_callB cr_lenD C.b_len (sa_cons (se_var 4) sa_nil)) sa_nil))) C.b_range) (sg_name 6 nd__law_lot)
  (ss_one (ss_expr (se_append (se_var 5) (sa_cons (se_callG (G__law_flip C) (hr.mono (by decide)) tk (sa_cons (se_callG (G__law_pick C) (hr.mono (by decide)) tk (sa_cons (se_var 0) (sa_cons (se_var 5) sa_nil))) (sa_cons (se_tup (sa_cons (se_callG (G__law_draw C) (hr.mono (by decide)) tk (sa_cons (se_var 0) (sa_cons (se_var 2) sa_nil))) sa_nil)) sa_nil))) sa_nil)))))))
  (ss_one (ss_if (st_cmp o_ltI (se_var 3) se_int)
  (ss_cons (ss_asg (se_tup (sa_cons (se_new sa_nil) (sa_cons (se_callTy cr_tupleD C.b_tuple (sa_cons (se_close (se_comp (own := [("place", 12)]) rfl nd__law_lot (blkOk_by (by rfl)) (tgOk_name (by decide)) (si_rng1 (se_var 2) C.b_range) (fun _ _ _ _ _ => (pg_name nd__law_lot (i := 12) rfl (by first | exact Or.inl rfl | exact Or.inr rfl) (by first | exact .inl rfl | exact .inr rfl))) (fun _ _ _ _ _ => (sts_one (st_cmp (o_eq (hu64_of hr)) (se_callG (G__law_draw C) (hr.mono (by decide)) tkNo (sa_cons (se_var 0) (sa_cons se_int sa_nil))) se_int))) (fun _ _ _ _ _ => (se_var 12)))) sa_nil)) sa_nil))) (sg_tup 2 rfl (sgs_cons (sg_name 5 nd__law_lot) (sgs_cons (sg_name 7 nd__law_lot) sgs_nil))))
  (ss_one (ss_for (L2.passes_of rfl) rfl (si_rng1 (se_bin o_add se_int (se_callG (G__law_draw C) (hr.mono (by decide)) tk (sa_cons (se_var 0) (sa_cons se_int sa_nil)))) C.b_range) (sg_name 6 nd__law_lot)
  (ss_one (ss_asg (se_bin o_add (se_var 5) (se_close (se_comp (own := [("row", 11)]) rfl nd__law_lot (blkOk_by (by rfl)) (tgOk_name (by decide)) (si_seq FU (se_callG (G__law_below C) (hr.mono (by decide)) tk (sa_cons (se_callG (G__law_pick C) (hr.mono (by decide)) tk (sa_cons (se_var 0) (sa_cons (se_var 4) sa_nil))) sa_nil))) (fun _ _ _ _ _ => (pg_name nd__law_lot (i := 11) rfl (by first | exact Or.inl rfl | exact Or.inr rfl) (by first | exact .inl rfl | exact .inr rfl))) (fun _ _ _ _ _ => sts_nil) (fun _ _ _ _ _ => (se_callG (G__law_flip C) (hr.mono (by decide)) tkNo (sa_cons (se_var 11) (sa_cons (se_var 7) sa_nil))))))) (sg_name 5 nd__law_lot))))))
  (ss_one (ss_if (st_bool (sw_and (st_cmp (o_eq (hu64_of hr)) (se_var 3) se_int) (sw_and1 (st_cmp o_gtI (se_var 2) se_int))))
  (ss_cons (ss_asg (se_bin o_add se_int (se_callG (G__law_draw C) (hr.mono (by decide)) tk (sa_cons (se_var 0) (sa_cons (se_bin o_sub (se_var 2) se_int) sa_nil)))) (sg_name 8 nd__law_lot))
  (ss_cons (ss_par 9 10 rfl nd__law_lot (sa_cons (se_close (se_comp (own := [("row", 11)]) rfl nd__law_lot (blkOk_by (by rfl)) (tgOk_name (by decide)) (si_seq FU (se_callG (G__law_rows C) (hr.mono (by decide)) tk (sa_cons (se_var 8) sa_nil))) (fun _ _ _ _ _ => (pg_name nd__law_lot (i := 11) rfl (by first | exact Or.inl rfl | exact Or.inr rfl) (by first | exact .inl rfl | exact .inr rfl))) (fun _ _ _ _ _ => (sts_one (st_cmp o_gtI (se_callG (G__law_draw C) (hr.mono (by decide)) tkNo (sa_cons (se_var 0) (sa_cons se_int sa_nil))) se_int))) (fun _ _ _ _ _ => (se_var 11)))) (sa_cons (se_close (se_comp (own := [("row", 11)]) rfl nd__law_lot (blkOk_by (by rfl)) (tgOk_name (by decide)) (si_seq FU (se_callG (G__law_rows C) (hr.mono (by decide)) tk (sa_cons (se_bin o_sub (se_var 2) (se_var 8)) sa_nil))) (fun _ _ _ _ _ => (pg_name nd__law_lot (i := 11) rfl (by first | exact Or.inl rfl | exact Or.inr rfl) (by first | exact .inl rfl | exact .inr rfl))) (fun _ _ _ _ _ => (sts_one (st_cmp (o_eq (hu64_of hr)) (se_callG (G__law_draw C) (hr.mono (by decide)) tkNo (sa_cons (se_var 0) (sa_cons se_int sa_nil))) se_int))) (fun _ _ _ _ _ => (se_var 11)))) sa_nil)))
  (ss_cons (ss_asg (se_new sa_nil) (sg_name 5 nd__law_lot))
  (ss_one (ss_for (L2.passes_of rfl) rfl (si_seq FU (se_var 9)) (sg_name 11 nd__law_lot)
  (ss_one (ss_asg (se_bin o_add (se_var 5) (se_close (se_comp (own := [("other", 13)]) rfl nd__law_lot (blkOk_by (by rfl)) (tgOk_name (by decide)) (si_seq FU (se_var 10)) (fun _ _ _ _ _ => (pg_name nd__law_lot (i := 13) rfl (by first | exact Or.inl rfl | exact Or.inr rfl) (by first | exact .inl rfl | exact .inr rfl))) (fun _ _ _ _ _ => sts_nil) (fun _ _ _ _ _ => (se_bin o_add (se_var 11) (se_var 13)))))) (sg_name 5 nd__law_lot))))))))
  (ss_one (ss_asg (se_callG (G__law_pick C) (hr.mono (by decide)) tk (sa_cons (se_var 0) (sa_cons (se_lst (sa_cons (se_var 4) (sa_cons (se_lst sa_nil) (sa_cons (se_lst (sa_cons (se_callG (G__law_pick C) (hr.mono (by decide)) tk (sa_cons (se_var 0) (sa_cons (se_var 4) sa_nil))) sa_nil)) (sa_cons (se_lst (sa_cons (se_callG (G__law_pick C) (hr.mono (by decide)) tk (sa_cons (se_var 0) (sa_cons (se_var 4) sa_nil))) (sa_cons (se_callG (G__law_pick C) (hr.mono (by decide)) tk (sa_cons (se_var 0) (sa_cons (se_var 4) sa_nil))) sa_nil))) sa_nil))))) sa_nil))) (sg_name 5 nd__law_lot))))))))))))
  (ss_one (ss_ret (se_tup (sa_cons (se_var 2) (sa_cons (se_callTy cr_tupleD C.b_tuple (sa_cons (se_sortset (hu70_of hr) rfl C.b_sorted C.b_set (se_var 5)) sa_nil)) sa_nil))))))))
theorem G__law_lot (C : Ctx w K mg base h) : Got PR w K mg base (TT K) "_law_lot" (He.ga K "_law_lot") 4 2 F__law_lot [] := by
  obtain ⟨fd, F, O⟩ := ok__law_lot C
  exact ⟨fd, _, [], [], O, C.g__law_lot, F.kp, F.bindsN fun _ _ _ _ _ _ us hl => match us, hl with | [_, _], _ => rfl, .nil, fun _ _ => .nil⟩
abbrev N__law_made : List Str := ["lot"]
theorem nd__law_made : N__law_made.Nodup := by decide +kernel
theorem sc__law_made : FnScope N__law_made ["lot"] (defScope s__law_made) := ⟨rfl, rfl, rfl, nd__law_made, rfl, by decide +kernel, by decide +kernel⟩
theorem ok__law_made (C : Ctx w K mg base h) : ∃ fd, FunD K "_law_made" "_law_made" (defArgs s__law_made) (defBody s__law_made) (defScope s__law_made) [] [] (He.fAd K ("_law_made", none)) fd ∧ FnOk PR w K mg base (CX PR w) 8 (He.fAd K ("_law_made", none)) fd ["lot"] (spF ⟨K, w, TT K⟩ 1 F__law_made) := by
  obtain ⟨fd, F⟩ := C.c.def_ 31 (d := d__law_made) rfl
  refine ⟨fd, F, fn_ok F sc__law_made fun cdv A outer s H E hr tk => ?_⟩
  exact (ss_one (ss_ret (se_close (se_makeG (G_Lot_make C) (hr.mono (by decide)) tk (sa_cons (se_ix (hu_of hr) (se_var 0) se_int) (sa_cons (se_callTy cr_listF C.b_list (sa_cons (se_ix (hu_of hr) (se_var 0) se_int) sa_nil)) sa_nil))))))
theorem G__law_made (C : Ctx w K mg base h) : Got PR w K mg base (TT K) "_law_made" (He.ga K "_law_made") 8 1 F__law_made [] := by
  obtain ⟨fd, F, O⟩ := ok__law_made C
  exact ⟨fd, _, [], [], O, C.g__law_made, F.kp, F.bindsN fun _ _ _ _ _ _ us hl => match us, hl with | [_], _ => rfl, .nil, fun _ _ => .nil⟩
abbrev N__law_shuffled : List Str := ["tape", "several", "left", "found"]
theorem nd__law_shuffled : N__law_shuffled.Nodup := by decide +kernel
theorem sc__law_shuffled : FnScope N__law_shuffled ["tape", "several"] (defScope s__law_shuffled) := ⟨rfl, rfl, rfl, nd__law_shuffled, rfl, by decide +kernel, by decide +kernel⟩
theorem ok__law_shuffled (C : Ctx w K mg base h) : ∃ fd, FunD K "_law_shuffled" "_law_shuffled" (defArgs s__law_shuffled) (defBody s__law_shuffled) (defScope s__law_shuffled) [] [] (He.fAd K ("_law_shuffled", none)) fd ∧ FnOk PR w K mg base (CX PR w) 3 (He.fAd K ("_law_shuffled", none)) fd ["tape", "several"] (spF ⟨K, w, TT K⟩ 2 F__law_shuffled) := by
  obtain ⟨fd, F⟩ := C.c.def_ 32 (d := d__law_shuffled) rfl
  refine ⟨fd, F, fn_ok F sc__law_shuffled fun cdv A outer s H E hr tk => ?_⟩
  exact (ss_cons (ss_par 2 3 rfl nd__law_shuffled (sa_cons (se_callTy cr_listD C.b_list (sa_cons (se_var 1) sa_nil)) (sa_cons (se_new sa_nil) sa_nil)))
  (ss_cons (ss_while FU (L2.passes_of rfl) (st_cmp (o_ne (hu64_of hr)) (se_var 2) (se_lst sa_nil))
  (ss_one (ss_expr (se_append (se_var 3) (sa_cons (se_pop (se_var 2) (sa_cons (se_callG (G__law_draw C) (hr.mono (by decide)) tk (sa_cons (se_var 0) (sa_cons (se_callB cr_lenD C.b_len (sa_cons (se_var 2) sa_nil)) sa_nil))) sa_nil)) sa_nil)))))
  (ss_one (ss_ret (se_var 3)))))
theorem G__law_shuffled (C : Ctx w K mg base h) : Got PR w K mg base (TT K) "_law_shuffled" (He.ga K "_law_shuffled") 3 2 F__law_shuffled [] := by
  obtain ⟨fd, F, O⟩ := ok__law_shuffled C
  exact ⟨fd, _, [], [], O, C.g__law_shuffled, F.kp, F.bindsN fun _ _ _ _ _ _ us hl => match us, hl with | [_, _], _ => rfl, .nil, fun _ _ => .nil⟩
abbrev N__law_told : List Str := ["tape", "places", "place"]
theorem nd__law_told : N__law_told.Nodup := by decide +kernel
theorem sc__law_told : FnScope N__law_told ["tape", "places"] (defScope s__law_told) := ⟨rfl, rfl, rfl, nd__law_told, rfl, by decide +kernel, by decide +kernel⟩
theorem ok__law_told (C : Ctx w K mg base h) : ∃ fd, FunD K "_law_told" "_law_told" (defArgs s__law_told) (defBody s__law_told) (defScope s__law_told) [] [] (He.fAd K ("_law_told", none)) fd ∧ FnOk PR w K mg base (CX PR w) 4 (He.fAd K ("_law_told", none)) fd ["tape", "places"] (spF ⟨K, w, TT K⟩ 2 F__law_told) := by
  obtain ⟨fd, F⟩ := C.c.def_ 33 (d := d__law_told) rfl
  refine ⟨fd, F, fn_ok F sc__law_told fun cdv A outer s H E hr tk => ?_⟩
  exact (ss_one (ss_ret (se_callTy cr_tupleD C.b_tuple (sa_cons (se_close (se_comp (own := [("place", 2)]) rfl nd__law_told (blkOk_by (by rfl)) (tgOk_name (by decide)) (si_rng1 (se_var 1) C.b_range) (fun _ _ _ _ _ => (pg_name nd__law_told (i := 2) rfl (by first | exact Or.inl rfl | exact Or.inr rfl) (by first | exact .inl rfl | exact .inr rfl))) (fun _ _ _ _ _ => sts_nil) (fun _ _ _ _ _ => (se_callG (G__law_pick C) (hr.mono (by decide)) tkNo (sa_cons (se_var 0) (sa_cons (se_lst (sa_cons se_non (sa_cons se_int (sa_cons se_int sa_nil)))) sa_nil)))))) sa_nil))))
theorem G__law_told (C : Ctx w K mg base h) : Got PR w K mg base (TT K) "_law_told" (He.ga K "_law_told") 4 2 F__law_told [] := by
  obtain ⟨fd, F, O⟩ := ok__law_told C
  exact ⟨fd, _, [], [], O, C.g__law_told, F.kp, F.bindsN fun _ _ _ _ _ _ us hl => match us, hl with | [_, _], _ => rfl, .nil, fun _ _ => .nil⟩
abbrev N__law_told_right : List Str := ["lot", "here", "told", "lies", "rows", "sure", "wrong", "place", "answer", "row"]
theorem nd__law_told_right : N__law_told_right.Nodup := by decide +kernel
theorem sc__law_told_right : FnScope N__law_told_right ["lot", "here", "told", "lies"] (defScope s__law_told_right) := ⟨rfl, rfl, rfl, nd__law_told_right, rfl, by decide +kernel, by decide +kernel⟩
theorem ok__law_told_right (C : Ctx w K mg base h) : ∃ fd, FunD K "_law_told_right" "_law_told_right" (defArgs s__law_told_right) (defBody s__law_told_right) (defScope s__law_told_right) [] [] (He.fAd K ("_law_told_right", none)) fd ∧ FnOk PR w K mg base (CX PR w) 12 (He.fAd K ("_law_told_right", none)) fd ["lot", "here", "told", "lies"] (spF ⟨K, w, TT K⟩ 4 F__law_told_right) := by
  obtain ⟨fd, F⟩ := C.c.def_ 34 (d := d__law_told_right) rfl
  refine ⟨fd, F, fn_ok F sc__law_told_right fun cdv A outer s H E hr tk => ?_⟩
  exact (ss_cons (ss_asg (se_callTy cr_tupleD C.b_tuple (sa_cons (se_close (se_comp (own := [("row", 9)]) rfl nd__law_told_right (blkOk_by (by rfl)) (tgOk_name (by decide)) (si_seq FU (se_ix (hu_of hr) (se_var 0) se_int)) (fun _ _ _ _ _ => (pg_name nd__law_told_right (i := 9) rfl (by first | exact Or.inl rfl | exact Or.inr rfl) (by first | exact .inl rfl | exact .inr rfl))) (fun _ _ _ _ _ => (sts_one (st_cmp o_leI (se_callG (G__law_lies C) (hr.mono (by decide)) tkNo (sa_cons (se_var 2) (sa_cons (se_var 9) sa_nil))) (se_var 3)))) (fun _ _ _ _ _ => (se_var 9)))) sa_nil)) (sg_name 4 nd__law_told_right))
  (ss_cons (ss_if (st_bool (sw_or (st_cmp (o_ne (hu64_of hr)) (se_callG (G_left_with C) (hr.mono (by decide)) tk (sa_cons (se_var 1) (sa_cons (se_var 2) (sa_cons (se_var 3) sa_nil)))) (se_var 4)) (sw_or1 (st_cmp (o_ne (hu64_of hr)) (se_callKG (GK_left_with_0_1_2 C) (hr.mono (by decide)) tk (sk_cons (se_var 1) (sk_cons (se_var 2) (sk_cons (se_var 3) sk_nil)))) (se_var 4)))))
  (ss_one (ss_ret se_bl))
  ss_nil)
  (ss_cons (ss_if (st_cmp (o_eq (hu64_of hr)) (se_var 4) (se_tup sa_nil))
  (ss_one (ss_ret (se_and (se_cmp o_isN (se_callG (G_sure_with C) (hr.mono (by decide)) tk (sa_cons (se_var 1) (sa_cons (se_var 2) (sa_cons (se_var 3) sa_nil)))) se_non) (se_one (se_cmp o_isN (se_callG (G_lies_told C) (hr.mono (by decide)) tk (sa_cons (se_var 1) (sa_cons (se_var 2) (sa_cons (se_var 3) sa_nil)))) se_non)))))
  ss_nil)
  (ss_cons (ss_asg (se_callTy cr_tupleD C.b_tuple (sa_cons (se_close (se_comp (own := [("place", 7)]) rfl nd__law_told_right (blkOk_by (by rfl)) (tgOk_name (by decide)) (si_rng1 (se_ix (hu_of hr) (se_var 0) se_int) C.b_range) (fun _ _ _ _ _ => (pg_name nd__law_told_right (i := 7) rfl (by first | exact Or.inl rfl | exact Or.inr rfl) (by first | exact .inl rfl | exact .inr rfl))) (fun _ _ _ _ _ => sts_nil) (fun _ _ _ _ _ => (se_if (st_cmp (o_eq (hu64_of hr)) (se_close (se_comp (own := [("row", 9)]) rfl nd__law_told_right (blkOk_by (by rfl)) (tgOk_name (by decide)) (si_seq FU (se_var 4)) (fun _ _ _ _ _ => (pg_name nd__law_told_right (i := 9) rfl (by first | exact Or.inl rfl | exact Or.inr rfl) (by first | exact .inl rfl | exact .inr rfl))) (fun _ _ _ _ _ => (sts_one (st_cmp (o_ne (hu64_of hr)) (se_ix (hu_of hr) (se_var 9) (se_var 7)) (se_ix (hu_of hr) (se_ix (hu_of hr) (se_var 4) se_int) (se_var 7))))) (fun _ _ _ _ _ => (se_var 9)))) (se_lst sa_nil)) (se_ix (hu_of hr) (se_ix (hu_of hr) (se_var 4) se_int) (se_var 7)) se_non)))) sa_nil)) (sg_name 5 nd__law_told_right))
  (ss_cons (ss_setComp (own := [("place", 7), ("answer", 8)]) (i := 6) rfl nd__law_told_right rfl rfl rfl (blkOk_by (by rfl)) (tgOk_tup (by decide)) (si_enum 0 (se_var 2) C.b_enumerate) (fun _ _ _ _ _ => (pg_tup rfl (pgs_cons (pg_name nd__law_told_right (i := 7) rfl (by first | exact Or.inl rfl | exact Or.inr rfl) (by first | exact .inl rfl | exact .inr rfl)) (pgs_cons (pg_name nd__law_told_right (i := 8) rfl (by first | exact Or.inl rfl | exact Or.inr rfl) (by first | exact .inl rfl | exact .inr rfl)) pgs_nil)))) (fun _ _ _ _ _ => (sts_one (st_bool (sw_and (st_cmp o_notN (se_var 8) se_non) (sw_and1 (st_cmp (o_eq (hu64_of hr)) (se_close (se_comp (own := [("row", 9)]) rfl nd__law_told_right (blkOk_by (by rfl)) (tgOk_name (by decide)) (si_seq FU (se_var 4)) (fun _ _ _ _ _ => (pg_name nd__law_told_right (i := 9) rfl (by first | exact Or.inl rfl | exact Or.inr rfl) (by first | exact .inl rfl | exact .inr rfl))) (fun _ _ _ _ _ => (sts_one (st_cmp (o_eq (hu64_of hr)) (se_ix (hu_of hr) (se_var 9) (se_var 7)) (se_var 8)))) (fun _ _ _ _ _ => (se_var 9)))) (se_lst sa_nil))))))) (fun _ _ _ _ _ => (se_var 7)) tE_close)
  (ss_one (ss_ret (se_and (se_cmp (o_eq (hu64_of hr)) (se_callG (G_sure_with C) (hr.mono (by decide)) tk (sa_cons (se_var 1) (sa_cons (se_var 2) (sa_cons (se_var 3) sa_nil)))) (se_var 5)) (se_one (se_cmp (o_eq (hu64_of hr)) (se_callG (G_lies_told C) (hr.mono (by decide)) tk (sa_cons (se_var 1) (sa_cons (se_var 2) (sa_cons (se_var 3) sa_nil)))) (se_callTy cr_tupleD C.b_tuple (sa_cons (se_var 6) sa_nil))))))))))))
theorem G__law_told_right (C : Ctx w K mg base h) : Got PR w K mg base (TT K) "_law_told_right" (He.ga K "_law_told_right") 12 4 F__law_told_right [] := by
  obtain ⟨fd, F, O⟩ := ok__law_told_right C
  exact ⟨fd, _, [], [], O, C.g__law_told_right, F.kp, F.bindsN fun _ _ _ _ _ _ us hl => match us, hl with | [_, _, _, _], _ => rfl, .nil, fun _ _ => .nil⟩
abbrev N_law : List Str := ["script", "tape", "lap", "lot", "here", "told", "numbers", "lies", "row", "turned", "said", "place", "least", "more", "back", "some", "answer", "other"]
theorem nd_law : N_law.Nodup := by decide +kernel
theorem sc_law : FnScope N_law ["script"] (defScope s_law) := ⟨rfl, rfl, rfl, nd_law, rfl, by decide +kernel, by decide +kernel⟩
theorem ok_law (C : Ctx w K mg base h) : ∃ fd, FunD K "law" "law" (defArgs s_law) (defBody s_law) (defScope s_law) [] [] (He.fAd K ("law", none)) fd ∧ FnOk PR w K mg base (CX PR w) 15 (He.fAd K ("law", none)) fd ["script"] (spF ⟨K, w, TT K⟩ 1 F_law) := by
  obtain ⟨fd, F⟩ := C.c.def_ 35 (d := d_law) rfl
  refine ⟨fd, F, fn_ok F sc_law fun cdv A outer s H E hr tk => ?_⟩
  exact (ss_cons (ss_asg (se_callG (G__law_begun C) (hr.mono (by decide)) tk (sa_cons (se_var 0) sa_nil)) (sg_name 1 nd_law))
  (ss_cons (ss_for (L2.passes_of rfl) rfl (si_rng1 (se_bin o_add se_int (se_callB (cr_minD rfl) C.b_min (sa_cons (se_callB cr_lenD C.b_len (sa_cons (se_var 0) sa_nil)) (sa_cons se_int sa_nil)))) C.b_range) (sg_name 2 nd_law)
  (ss_cons (ss_asg (se_callG (G__law_lot C) (hr.mono (by decide)) tk (sa_cons (se_var 1) (sa_cons se_int sa_nil))) (sg_name 3 nd_law))
  (ss_cons (ss_asg (se_tup (sa_cons (se_callG (G__law_made C) (hr.mono (by decide)) tk (sa_cons (se_var 3) sa_nil)) (sa_cons (se_callG (G__law_told C) (hr.mono (by decide)) tk (sa_cons (se_var 1) (sa_cons (se_ix (hu_of hr) (se_var 3) se_int) sa_nil))) sa_nil))) (sg_tup 2 rfl (sgs_cons (sg_name 4 nd_law) (sgs_cons (sg_name 5 nd_law) sgs_nil))))
  (ss_cons (ss_setComp (own := [("row", 8)]) (i := 6) rfl nd_law rfl rfl rfl (blkOk_by (by rfl)) (tgOk_name (by decide)) (si_seq FU (se_ix (hu_of hr) (se_var 3) se_int)) (fun _ _ _ _ _ => (pg_name nd_law (i := 8) rfl (by first | exact Or.inl rfl | exact Or.inr rfl) (by first | exact .inl rfl | exact .inr rfl))) (fun _ _ _ _ _ => sts_nil) (fun _ _ _ _ _ => (se_callG (G__law_lies C) (hr.mono (by decide)) tkNo (sa_cons (se_var 5) (sa_cons (se_var 8) sa_nil)))) tE_close)
  (ss_cons (ss_if (st_bool (sw_or (st_cmp (o_ne (hu64_of hr)) (se_callG (G_fewest_lies C) (hr.mono (by decide)) tk (sa_cons (se_var 4) (sa_cons (se_var 5) sa_nil))) (se_if (st_cmp (o_ne (hu64_of hr)) (se_var 6) (se_lst sa_nil)) (se_callB (cr_minD rfl) C.b_min (sa_cons (se_var 6) sa_nil)) se_non)) (sw_or1 (st_not (st_val (se_callG (G__law_errors_right C) (hr.mono (by decide)) tk (sa_cons (se_var 4) (sa_cons (se_ix (hu_of hr) (se_var 3) se_int) sa_nil))))))))
  (ss_one (ss_ret se_bl))
  ss_nil)
  (ss_cons (ss_for (L2.passes_of rfl) rfl (si_rng1 se_int C.b_range) (sg_name 7 nd_law)
  (ss_cons (ss_if (st_not (st_val (se_callG (G__law_told_right C) (hr.mono (by decide)) tk (sa_cons (se_var 3) (sa_cons (se_var 4) (sa_cons (se_var 5) (sa_cons (se_var 7) sa_nil)))))))
  (ss_one (ss_ret se_bl))
  ss_nil)
  (ss_one (ss_if (st_bool (sw_and (st_cmp o_gtI (se_var 7) se_int) (sw_and1 (st_cmp (o_ne (hu64_of hr)) (se_close (se_comp (own := [("row", 8)]) rfl nd_law (blkOk_by (by rfl)) (tgOk_name (by decide)) (si_seq FU (se_callG (G_left_with C) (hr.mono (by decide)) tk (sa_cons (se_var 4) (sa_cons (se_var 5) (sa_cons (se_bin o_sub (se_var 7) se_int) sa_nil))))) (fun _ _ _ _ _ => (pg_name nd_law (i := 8) rfl (by first | exact Or.inl rfl | exact Or.inr rfl) (by first | exact .inl rfl | exact .inr rfl))) (fun _ _ _ _ _ => (sts_one (st_cmp (o_notIn (hu_of hr)) (se_var 8) (se_callG (G_left_with C) (hr.mono (by decide)) tkNo (sa_cons (se_var 4) (sa_cons (se_var 5) (sa_cons (se_var 7) sa_nil))))))) (fun _ _ _ _ _ => (se_var 8)))) (se_lst sa_nil)))))
  (ss_one (ss_ret se_bl))
  ss_nil))))
  (ss_cons (ss_if (st_cmp (o_eq (hu64_of hr)) (se_ix (hu_of hr) (se_var 3) se_int) (se_tup sa_nil))
  (ss_one ss_cont)
  ss_nil)
  (ss_cons (ss_asg (se_tup (sa_cons (se_callG (G__law_pick C) (hr.mono (by decide)) tk (sa_cons (se_var 1) (sa_cons (se_ix (hu_of hr) (se_var 3) se_int) sa_nil))) (sa_cons (se_callG (G__law_draw C) (hr.mono (by decide)) tk (sa_cons (se_var 1) (sa_cons (se_bin o_add (se_ix (hu_of hr) (se_var 3) se_int) se_int) sa_nil))) sa_nil))) (sg_tup 2 rfl (sgs_cons (sg_name 8 nd_law) (sgs_cons (sg_name 7 nd_law) sgs_nil))))
  (ss_cons (ss_asg (se_callTy cr_tupleD C.b_tuple (sa_cons (se_sl (se_callG (G__law_shuffled C) (hr.mono (by decide)) tk (sa_cons (se_var 1) (sa_cons (se_listrngF rfl C.b_list C.b_range (se_ix (hu_of hr) (se_var 3) se_int)) sa_nil))) so_none (so_some (se_var 7))) sa_nil)) (sg_name 9 nd_law))
  (ss_cons (ss_asg (se_callG (G__law_flip C) (hr.mono (by decide)) tk (sa_cons (se_var 8) (sa_cons (se_var 9) sa_nil))) (sg_name 10 nd_law))
  (ss_cons (ss_if (st_bool (sw_or (st_cmp (o_notIn (hu_of hr)) (se_var 8) (se_callG (G_left_with C) (hr.mono (by decide)) tk (sa_cons (se_var 4) (sa_cons (se_var 10) (sa_cons (se_var 7) sa_nil))))) (sw_or (st_not (st_val (se_callG (G__law_told_right C) (hr.mono (by decide)) tk (sa_cons (se_var 3) (sa_cons (se_var 4) (sa_cons (se_var 10) (sa_cons (se_var 7) sa_nil))))))) (sw_or1 (st_cmp o_gtI (se_callG (G_fewest_lies C) (hr.mono (by decide)) tk (sa_cons (se_var 4) (sa_cons (se_var 10) sa_nil))) (se_var 7))))))
  (ss_one (ss_ret se_bl))
  ss_nil)
  (ss_cons (ss_par 11 12 rfl nd_law (sa_cons (se_callG (G__law_draw C) (hr.mono (by decide)) tk (sa_cons (se_var 1) (sa_cons (se_ix (hu_of hr) (se_var 3) se_int) sa_nil))) (sa_cons (se_callG (G_fewest_lies C) (hr.mono (by decide)) tk (sa_cons (se_var 4) (sa_cons (se_var 5) sa_nil))) sa_nil)))
  (ss_cons (ss_asg (se_bin o_add (se_bin o_add (se_sl (se_var 5) so_none (so_some (se_var 11))) (se_tup (sa_cons (se_callG (G__law_draw C) (hr.mono (by decide)) tk (sa_cons (se_var 1) (sa_cons se_int sa_nil))) sa_nil))) (se_sl (se_var 5) (so_some (se_bin o_add (se_var 11) se_int)) so_none)) (sg_name 13 nd_law))
  (ss_cons (ss_if (st_bool (sw_and (st_cmp o_isN (se_ix (hu_of hr) (se_var 5) (se_var 11)) se_non) (sw_and1 (st_cmp (o_ne (hu64_of hr)) (se_close (se_comp (own := [("other", 17)]) rfl nd_law (blkOk_by (by rfl)) (tgOk_name (by decide)) (si_seq FU (se_callG (G_left_with C) (hr.mono (by decide)) tk (sa_cons (se_var 4) (sa_cons (se_var 13) (sa_cons (se_var 7) sa_nil))))) (fun _ _ _ _ _ => (pg_name nd_law (i := 17) rfl (by first | exact Or.inl rfl | exact Or.inr rfl) (by first | exact .inl rfl | exact .inr rfl))) (fun _ _ _ _ _ => (sts_one (st_cmp (o_notIn (hu_of hr)) (se_var 17) (se_callG (G_left_with C) (hr.mono (by decide)) tkNo (sa_cons (se_var 4) (sa_cons (se_var 5) (sa_cons (se_var 7) sa_nil))))))) (fun _ _ _ _ _ => (se_var 17)))) (se_lst sa_nil)))))
  (ss_one (ss_ret se_bl))
  ss_nil)
  (ss_cons (ss_if (st_bool (sw_or (st_cmp (o_eq (hu64_of hr)) (se_callG (G_left_with C) (hr.mono (by decide)) tk (sa_cons (se_var 4) (sa_cons (se_var 5) (sa_cons (se_var 12) sa_nil)))) (se_tup sa_nil)) (sw_or1 (st_bool (sw_and (st_cmp o_gtI (se_var 12) se_int) (sw_and1 (st_cmp (o_ne (hu64_of hr)) (se_callG (G_left_with C) (hr.mono (by decide)) tk (sa_cons (se_var 4) (sa_cons (se_var 5) (sa_cons (se_bin o_sub (se_var 12) se_int) sa_nil)))) (se_tup sa_nil))))))))
  (ss_one (ss_ret se_bl))
  ss_nil)
  (ss_cons (ss_asg (se_callTy cr_tupleD C.b_tuple (sa_cons (se_close (se_comp (own := [("answer", 16)]) rfl nd_law (blkOk_by (by rfl)) (tgOk_name (by decide)) (si_seq FU (se_var 10)) (fun _ _ _ _ _ => (pg_name nd_law (i := 16) rfl (by first | exact Or.inl rfl | exact Or.inr rfl) (by first | exact .inl rfl | exact .inr rfl))) (fun _ _ _ _ _ => sts_nil) (fun _ _ _ _ _ => (se_bin o_sub se_int (se_var 16))))) sa_nil)) (sg_name 14 nd_law))
  (ss_one (ss_if (st_bool (sw_or (st_cmp (o_ne (hu64_of hr)) (se_close (se_comp (own := [("other", 17)]) rfl nd_law (blkOk_by (by rfl)) (tgOk_name (by decide)) (si_seq FU (se_ix (hu_of hr) (se_var 3) se_int)) (fun _ _ _ _ _ => (pg_name nd_law (i := 17) rfl (by first | exact Or.inl rfl | exact Or.inr rfl) (by first | exact .inl rfl | exact .inr rfl))) (fun _ _ _ _ _ => (sts_one (st_cmp (o_ne (hu64_of hr)) (se_bin o_add (se_callG (G__law_lies C) (hr.mono (by decide)) tkNo (sa_cons (se_var 10) (sa_cons (se_var 17) sa_nil))) (se_callG (G__law_lies C) (hr.mono (by decide)) tkNo (sa_cons (se_var 14) (sa_cons (se_var 17) sa_nil)))) (se_ix (hu_of hr) (se_var 3) se_int)))) (fun _ _ _ _ _ => (se_var 17)))) (se_lst sa_nil)) (sw_or1 (st_cmp (o_eq (hu64_of hr)) (se_callG (G_left_with C) (hr.mono (by decide)) tk (sa_cons (se_var 4) (sa_cons (se_var 14) (sa_cons (se_bin o_sub (se_ix (hu_of hr) (se_var 3) se_int) (se_var 7)) sa_nil)))) (se_tup sa_nil)))))
  (ss_one (ss_ret se_bl))
  ss_nil))))))))))))))))))
  (ss_cons (ss_asg (se_close (se_makeG (G_Lot_make C) (hr.mono (by decide)) tk (sa_cons se_int (sa_cons (se_lst (sa_cons (se_tup (sa_cons se_int (sa_cons se_int sa_nil))) (sa_cons (se_tup (sa_cons se_int (sa_cons se_int sa_nil))) (sa_cons (se_tup (sa_cons se_int (sa_cons se_int sa_nil))) sa_nil)))) sa_nil)))) (sg_name 15 nd_law))
  (ss_cons (ss_if (st_bool (sw_or (st_cmp (o_ne (hu64_of hr)) (se_callKG (GK_left_with_0_1_2 C) (hr.mono (by decide)) tk (sk_cons (se_var 15) (sk_cons (se_tup (sa_cons se_int (sa_cons se_int sa_nil))) (sk_cons se_int sk_nil)))) (se_tup (sa_cons (se_tup (sa_cons se_int (sa_cons se_int sa_nil))) (sa_cons (se_tup (sa_cons se_int (sa_cons se_int sa_nil))) sa_nil)))) (sw_or (st_cmp (o_ne (hu64_of hr)) (se_callG (G_sure_with C) (hr.mono (by decide)) tk (sa_cons (se_var 15) (sa_cons (se_tup (sa_cons se_int (sa_cons se_int sa_nil))) (sa_cons se_int sa_nil)))) (se_tup (sa_cons se_non (sa_cons se_non sa_nil)))) (sw_or1 (st_cmp (o_ne (hu64_of hr)) (se_callKG (GK_fewest_lies_0_1 C) (hr.mono (by decide)) tk (sk_cons (se_var 15) (sk_cons (se_tup (sa_cons se_int (sa_cons se_int sa_nil))) sk_nil))) se_int)))))
  (ss_one (ss_ret se_bl))
  ss_nil)
  (ss_one (ss_ret (se_and (se_cmp o_isN (se_callG (G_lies_told C) (hr.mono (by decide)) tk (sa_cons (se_var 15) (sa_cons (se_tup (sa_cons se_int (sa_cons se_int sa_nil))) (sa_cons se_int sa_nil)))) se_non) (se_and (se_cmp (o_eq (hu64_of hr)) (se_callG (G_lies_told C) (hr.mono (by decide)) tk (sa_cons (se_var 15) (sa_cons (se_tup (sa_cons se_int (sa_cons se_non sa_nil))) (sa_cons se_int sa_nil)))) (se_tup sa_nil)) (se_and (se_cmp (o_eq (hu64_of hr)) (se_callG (G_sure_with C) (hr.mono (by decide)) tk (sa_cons (se_var 15) (sa_cons (se_tup (sa_cons se_non (sa_cons se_int sa_nil))) (sa_cons se_int sa_nil)))) (se_tup (sa_cons se_int (sa_cons se_int sa_nil)))) (se_one (se_cmp (o_eq (hu64_of hr)) (se_callG (G_lies_told C) (hr.mono (by decide)) tk (sa_cons (se_var 15) (sa_cons (se_tup (sa_cons se_int (sa_cons se_int sa_nil))) (sa_cons se_int sa_nil)))) (se_tup sa_nil))))))))))))
theorem G_law (C : Ctx w K mg base h) : Got PR w K mg base (TT K) "law" (He.ga K "law") 15 1 F_law [] := by
  obtain ⟨fd, F, O⟩ := ok_law C
  exact ⟨fd, _, [], [], O, C.g_law, F.kp, F.bindsN fun _ _ _ _ _ _ us hl => match us, hl with | [_], _ => rfl, .nil, fun _ _ => .nil⟩
end
end Lk63
set_option maxRecDepth 100000
set_option maxHeartbeats 0
namespace Lk63
open PySem PySem.Spec PyProof.Rows L2 PySem.W SL
abbrev R : PySem.W.OpenRow := PySem.W.OpenLaw.row PySem.Challenge.rw_fullfree_k63_whole_rows_left_with_lies
abbrev hk : PySem.W.Hook := hookS 5 fa fn tf ini pr ex
def ob (s : PySem.W.SharedT) : AlS := obsS 5 fa fn tf ini pr ex (HandSHeadRun.getT s)
theorem ob_eq (s : PySem.W.SharedT) : ob s = hk.obs s.abs := obsS_eq (HandSHeadRun.getT_eq s)
theorem run (w : World) : HandSHeadRun.RunEq R (PySem.W.view R.prog [51]) hk ob 20000 loose w := by
  intro os
  kernel_rfl
end Lk63
set_option maxRecDepth 100000
set_option maxHeartbeats 0
namespace Lk63
open PySem PySem.Spec PyProof.Rows L2 PySem.W SL
theorem law_end (w : World) (mg : Str → Option Value) (fa' : Addr) (h : Heap) (Y : hk.says w h) (G : h.Ns mainGlobals mg) (hmg : mg ("law" : Str) = some (.ref fa')) :
    ∃ K : Frag, K.In h ∧ LamX.LawAtS PySem.Challenge.rw_fullfree_k63_whole_rows_left_with_lies w K (CX PR w) 15 63 "script" mg fa' h := by
  obtain ⟨K, KX, c⟩ := Y
  obtain ⟨fd, Fd⟩ := c.def_ 35 (d := d_law) rfl
  have e := hmg.symm.trans (He.glo_ok KX G (c.fact 34 (f := .glo "law") rfl))
  cases e
  refine ⟨K, KX, law_at (q := "law") (tf := tf) (T := TT K) (F := F_law) KX c.x.hd c.x.out c.x.empty (List.all_eq_true.mp c.x.more (fun K => noListB K) (List.mem_of_getElem? (i := 21) rfl)) (fun p hp => ?_) Fd (fun _ _ _ _ _ _ us hl => match us, hl with | [_], _ => rfl) (fun base KB GB TB => ok_law ⟨c, KX, G, TB⟩) plain⟩
  obtain ⟨r, hr, rfl⟩ := List.mem_map.mp hp
  exact ⟨r, hr, rfl⟩
end Lk63
open PySem PySem.W PySem.Calls PyProof.Rows
theorem PySem.Challenge.cw_fullfree_k63_whole_rows_left_with_lies_holds : PySem.Challenge.rw_fullfree_k63_whole_rows_left_with_lies.Holds := by
  w_on; o_law
  refine HandSHeadRun.head_any (r := OpenLaw.row PySem.Challenge.rw_fullfree_k63_whole_rows_left_with_lies) (q := view (OpenLaw.row PySem.Challenge.rw_fullfree_k63_whole_rows_left_with_lies).prog [51]) (H := Lk63.hk) (ob := Lk63.ob) (M := 20000) (loose := Lk63.loose) (d := HandSHeadRun.topDef (OpenLaw.row PySem.Challenge.rw_fullfree_k63_whole_rows_left_with_lies).prog 51) (kwd := []) Lk63.ob_eq
    (by kernel_rfl) (fun s => by kernel_rfl) Lk63.run (by kernel_rfl) (by kernel_rfl) (by kernel_rfl) (by rfl) (by first | assumption | decide +kernel) (by decide +kernel) ⟨rfl, rfl, rfl, rfl, rfl, by decide +kernel⟩ ?hw ?hc
  case hw => w_witness2
  case hc =>
    refine LamX.walk_ofTsE (l := PySem.Challenge.rw_fullfree_k63_whole_rows_left_with_lies) (n := 63) (k := 15) (x := "script") (CX := fun w => L2.CX Lk63.PR w) rfl (by decide) (by kernel_rfl) ⟨rfl, by decide, by decide⟩ ?F SL.cx_no
    intro w mg fa h Y G hmg0
    have hmg : mg ("law" : PySem.Str) = some (.ref fa) := by
      have e : (HandSHeadRun.topDef (OpenLaw.row PySem.Challenge.rw_fullfree_k63_whole_rows_left_with_lies).prog 51).name = ("law" : PySem.Str) := by kernel_rfl
      rw [← e]
      exact hmg0
    exact Lk63.law_end w mg fa h Y G hmg
