import PyProof.Rows.All
import Wide.All
import OpenK.AllK
import Wide.FinOn
import HandS.ForMost
import HandS.ForExc
import HandS.CallSlots
import HandS.TryOnly
import HandS.ExcInit
import HandS.Flow
import HandS.Style
import HandS.Wide
import HandS.Conv
import HandS.Codes
import HandS.TupAny
import HandS.TupSets
import HandS.SortOrd
import HandS.SetKeys
import HandS.Deep
import HandS.IsInst
import HandS.RevRange
import HandS.Rev
import KE.KDictKeyed
import KE.KeyNested
import KE.KDictWalk
import KE.GoesDict
import HandS.Zip
import HandS.Iter
import KE.GoesEnum
import KE.KDictZip
import PyProof.ListNew
import HandS.ExcField
import HandS.ExcOwn
import KE.LtData
import KE.KSortTup
import PySem.Challenge.RW_nomoregranted_k01_rule_parts
set_option Elab.async false
set_option linter.all false
set_option maxRecDepth 100000
set_option maxHeartbeats 4000000
/-! The D layer: data without addresses, a memory of what may change, denotations; readings of the judgements by denotations. -/
namespace DL
open PySem PySem.Spec L2

/-- data: a tuple stands by its items, a thing that may change by its number -/
inductive D where
  | non | bl (b : Bool) | int (i : Int) | str (x : Str) | tup (xs : List D) | ref (l : Nat)

mutual
def D.decD : (a b : D) → Decidable (a = b)
  | .non, .non => .isTrue rfl
  | .bl a, .bl b => if h : a = b then .isTrue (by rw [h]) else .isFalse fun e => h (D.bl.inj e)
  | .int a, .int b => if h : a = b then .isTrue (by rw [h]) else .isFalse fun e => h (D.int.inj e)
  | .str a, .str b => if h : a = b then .isTrue (by rw [h]) else .isFalse fun e => h (D.str.inj e)
  | .ref a, .ref b => if h : a = b then .isTrue (by rw [h]) else .isFalse fun e => h (D.ref.inj e)
  | .tup a, .tup b => match D.decDs a b with
    | .isTrue h => .isTrue (by rw [h])
    | .isFalse h => .isFalse fun e => h (D.tup.inj e)
  | .non, .bl _ | .non, .int _ | .non, .str _ | .non, .tup _ | .non, .ref _ => .isFalse fun e => nomatch e
  | .bl _, .non | .bl _, .int _ | .bl _, .str _ | .bl _, .tup _ | .bl _, .ref _ => .isFalse fun e => nomatch e
  | .int _, .non | .int _, .bl _ | .int _, .str _ | .int _, .tup _ | .int _, .ref _ => .isFalse fun e => nomatch e
  | .str _, .non | .str _, .bl _ | .str _, .int _ | .str _, .tup _ | .str _, .ref _ => .isFalse fun e => nomatch e
  | .tup _, .non | .tup _, .bl _ | .tup _, .int _ | .tup _, .str _ | .tup _, .ref _ => .isFalse fun e => nomatch e
  | .ref _, .non | .ref _, .bl _ | .ref _, .int _ | .ref _, .str _ | .ref _, .tup _ => .isFalse fun e => nomatch e
def D.decDs : (a b : List D) → Decidable (a = b)
  | [], [] => .isTrue rfl
  | a :: as, b :: bs => match D.decD a b, D.decDs as bs with
    | .isTrue h, .isTrue k => .isTrue (by rw [h, k])
    | .isFalse h, _ => .isFalse fun e => h (List.cons.inj e).1
    | _, .isFalse k => .isFalse fun e => k (List.cons.inj e).2
  | [], _ :: _ => .isFalse fun e => nomatch e
  | _ :: _, [] => .isFalse fun e => nomatch e
end
instance : DecidableEq D := D.decD
instance : Inhabited D := ⟨.non⟩

/-- what may change -/
inductive MO where
  | lst (xs : List D)
  /-- a list that is read alone -/
  | frl (xs : List D)
  | dct (kvs : List (D × D))
  | stt (xs : List D)
  deriving DecidableEq
def MO.mut : MO → Bool
  | .frl _ => false
  | _ => true
abbrev Mem := List MO
abbrev En := List (Option D)

inductive R (α : Type) where
  | ok (a : α) (m : Mem)
  | exn (c : Str) (fs : List (Str × D)) (m : Mem)
  | stk
def R.bind {α β : Type} : R α → (α → Mem → R β) → R β
  | .ok a m, f => f a m
  | .exn c fs m, _ => .exn c fs m
  | .stk, _ => .stk
theorem R.bind_ok {α β : Type} (a : α) (m : Mem) (f : α → Mem → R β) : (R.ok a m).bind f = f a m := rfl
theorem R.bind_exn {α β : Type} (c : Str) (fs : List (Str × D)) (m : Mem) (f : α → Mem → R β) : (R.exn c fs m).bind f = .exn c fs m := rfl
theorem R.bind_stk {α β : Type} (f : α → Mem → R β) : (R.stk).bind f = .stk := rfl
theorem R.bind_assoc {α β γ : Type} (r : R α) (f : α → Mem → R β) (g : β → Mem → R γ) : (r.bind f).bind g = r.bind fun a m => (f a m).bind g := by
  cases r <;> rfl

/-! ### keys -/
def D.key : D → Option Key
  | .int i => some (.inl i)
  | .str x => some (.inr x)
  | _ => none
mutual
def D.nk : D → Option NestedKey
  | .non => some .none
  | .int i => some (.num i)
  | .str x => some (.text x)
  | .tup xs => (D.nks xs).map .tup
  | .bl _ => none
  | .ref _ => none
def D.nks : List D → Option (List NestedKey)
  | [] => some []
  | d :: ds => match D.nk d, D.nks ds with
    | some k, some ks => some (k :: ks)
    | _, _ => none
end
/-- a dict whose keys are tuples, by what is true of its object -/
def dN (w : World) (a : Addr) (xs : List (NestedKey × Addr × V)) : HO := .ext fun h => (a == sysModules) = false ∧ xs.length ≤ sizeLine ∧
  ∃ ys : List (NestedKey × Addr × Value), Paired (fun (p : NestedKey × Addr × V) (q : NestedKey × Addr × Value) => p.1 = q.1 ∧ p.2.1 = q.2.1 ∧ RelV p.2.2 q.2.2) xs ys ∧
    ∃ o es ep, h.get? a = some o ∧ o.ExactDict ∧ o.data = .dict es ep ∧ es.toList = ys.map (fun y => (⟨y.1.hash w, .ref y.2.1, y.2.2⟩ : DictEntry)) ∧ (ys.map (·.1)).Nodup

/-! ### the relation -/
section
variable (K : PySem.W.Frag)
/-- a tuple's items, for ever -/
def TupAt (H : Hp) (a : Addr) (vs : List V) : Prop := H a = some (.tup vs) ∨
  ∃ (o : Obj) (its : Array Value) (n : Nat), K.lookup a = some o ∧ o.cls = .type "tuple" ∧ o.data = .seq its n ∧ its.size ≤ sizeLine ∧ Vals vs its.toList
theorem TupAt.sq {K : PySem.W.Frag} {H : Hp} {a : Addr} {vs : List V} (h : TupAt K H a vs) : SqT K H a vs := h.elim (fun z => .inl (.inl z)) .inr
mutual
def Rep (ι : Nat → Addr) (n : Nat) (H : Hp) : D → V → Prop
  | .non, v => v = .non
  | .bl b, v => v = .bl b
  | .int i, v => v = .int i
  | .str x, v => v = .str x
  | .ref l, v => l < n ∧ v = .ref (ι l)
  | .tup ds, v => ∃ a vs, v = .ref a ∧ TupAt K H a vs ∧ Reps ι n H ds vs
def Reps (ι : Nat → Addr) (n : Nat) (H : Hp) : List D → List V → Prop
  | [], vs => vs = []
  | d :: ds, vs => ∃ v r, vs = v :: r ∧ Rep ι n H d v ∧ Reps ι n H ds r
end
end

/-- from a state to a later one -/
structure Step (ι : Nat → Addr) (n : Nat) (H : Hp) (ι' : Nat → Addr) (n' : Nat) (H' : Hp) : Prop where
  le : n ≤ n'
  ext : ∀ l, l < n → ι' l = ι l
  tk : ∀ a vs, H a = some (.tup vs) → H' a = some (.tup vs)
  xk : ∀ a gs, H a = some (.xd gs) → H' a = some (.xd gs)
theorem Step.refl (ι : Nat → Addr) (n : Nat) (H : Hp) : Step ι n H ι n H := ⟨Nat.le_refl _, fun _ _ => rfl, fun _ _ h => h, fun _ _ h => h⟩
theorem Step.trans {ι ι1 ι2 : Nat → Addr} {n n1 n2 : Nat} {H H1 H2 : Hp} (a : Step ι n H ι1 n1 H1) (b : Step ι1 n1 H1 ι2 n2 H2) : Step ι n H ι2 n2 H2 :=
  ⟨Nat.le_trans a.le b.le, fun l h => (b.ext l (Nat.lt_of_lt_of_le h a.le)).trans (a.ext l h), fun c vs h => b.tk c vs (a.tk c vs h), fun c vs h => b.xk c vs (a.xk c vs h)⟩

section
variable {K : PySem.W.Frag} {w : World} {ι ι' : Nat → Addr} {n n' : Nat} {H H' : Hp}
theorem TupAt.step (S : Step ι n H ι' n' H') {a : Addr} {vs : List V} (h : TupAt K H a vs) : TupAt K H' a vs := h.elim (fun z => .inl (S.tk _ _ z)) .inr
mutual
theorem Rep.step (S : Step ι n H ι' n' H') : ∀ (d : D) (v : V), Rep K ι n H d v → Rep K ι' n' H' d v
  | .non, _, h => h
  | .bl _, _, h => h
  | .int _, _, h => h
  | .str _, _, h => h
  | .ref l, _, h => by
    obtain ⟨h1, h2⟩ := h
    exact ⟨Nat.lt_of_lt_of_le h1 S.le, by rw [h2, S.ext l h1]⟩
  | .tup ds, _, h => by
    obtain ⟨a, vs, h1, h2, h3⟩ := h
    exact ⟨a, vs, h1, h2.step S, Reps.step S ds vs h3⟩
theorem Reps.step (S : Step ι n H ι' n' H') : ∀ (ds : List D) (vs : List V), Reps K ι n H ds vs → Reps K ι' n' H' ds vs
  | [], _, h => h
  | d :: ds, _, h => by
    obtain ⟨v, r, h1, h2, h3⟩ := h
    exact ⟨v, r, h1, Rep.step S d v h2, Reps.step S ds r h3⟩
end
theorem Reps.length : ∀ {ds : List D} {vs : List V}, Reps K ι n H ds vs → vs.length = ds.length
  | [], vs, h => by rw [show vs = [] from h]; rfl
  | d :: ds, _, h => by
    obtain ⟨v, r, rfl, _, h3⟩ := h
    rw [List.length_cons, List.length_cons, Reps.length h3]
theorem Reps.nil : Reps K ι n H [] [] := rfl
theorem Reps.cons {d : D} {v : V} {ds : List D} {vs : List V} (h : Rep K ι n H d v) (hs : Reps K ι n H ds vs) : Reps K ι n H (d :: ds) (v :: vs) := ⟨v, vs, rfl, h, hs⟩
theorem Reps.get : ∀ {ds : List D} {vs : List V} {i : Nat} {d : D}, Reps K ι n H ds vs → ds[i]? = some d → ∃ v, vs[i]? = some v ∧ Rep K ι n H d v
  | [], _, _, _, _, e => by simp at e
  | d :: ds, _, 0, _, h, e => by
    obtain ⟨v, r, rfl, h2, h3⟩ := h
    simp at e; subst e
    exact ⟨v, rfl, h2⟩
  | d :: ds, _, i + 1, x, h, e => by
    obtain ⟨v, r, rfl, h2, h3⟩ := h
    obtain ⟨u, h1, h2⟩ := Reps.get (i := i) (d := x) h3 (by simpa using e)
    exact ⟨u, by simpa using h1, h2⟩
theorem Reps.append : ∀ {ds es : List D} {vs us : List V}, Reps K ι n H ds vs → Reps K ι n H es us → Reps K ι n H (ds ++ es) (vs ++ us)
  | [], _, _, _, h, g => by
    rw [show _ = [] from h]; exact g
  | d :: ds, _, _, _, h, g => by
    obtain ⟨v, r, rfl, h2, h3⟩ := h
    exact ⟨v, r ++ _, rfl, h2, Reps.append h3 g⟩
theorem Reps.take : ∀ {ds : List D} {vs : List V} (k : Nat), Reps K ι n H ds vs → Reps K ι n H (ds.take k) (vs.take k)
  | [], _, k, h => by
    rw [show _ = [] from h]
    simp [Reps]
  | d :: ds, _, 0, h => by simp [Reps]
  | d :: ds, _, k + 1, h => by
    obtain ⟨v, r, rfl, h2, h3⟩ := h
    exact ⟨v, _, rfl, h2, Reps.take k h3⟩
theorem Reps.drop : ∀ {ds : List D} {vs : List V} (k : Nat), Reps K ι n H ds vs → Reps K ι n H (ds.drop k) (vs.drop k)
  | [], _, k, h => by
    rw [show _ = [] from h]
    simp [Reps]
  | d :: ds, _, 0, h => h
  | d :: ds, _, k + 1, h => by
    obtain ⟨v, r, rfl, h2, h3⟩ := h
    exact Reps.drop k h3
theorem Reps.set {d : D} {v : V} (r : Rep K ι n H d v) : ∀ {ds : List D} {vs : List V} (k : Nat), Reps K ι n H ds vs → Reps K ι n H (ds.set k d) (vs.set k v)
  | [], _, k, h => by
    rw [show _ = [] from h]
    simp [Reps]
  | _ :: ds, _, 0, h => by
    obtain ⟨v, r, rfl, h2, h3⟩ := h
    exact ⟨_, _, rfl, by assumption, h3⟩
  | _ :: ds, _, k + 1, h => by
    obtain ⟨v, r', rfl, h2, h3⟩ := h
    exact ⟨_, _, rfl, h2, Reps.set r k h3⟩
theorem Reps.eraseIdx : ∀ {ds : List D} {vs : List V} (k : Nat), Reps K ι n H ds vs → Reps K ι n H (ds.eraseIdx k) (vs.eraseIdx k)
  | [], _, k, h => by
    rw [show _ = [] from h]
    simp [Reps]
  | _ :: ds, _, 0, h => by
    obtain ⟨v, r, rfl, h2, h3⟩ := h
    exact h3
  | _ :: ds, _, k + 1, h => by
    obtain ⟨v, r', rfl, h2, h3⟩ := h
    exact ⟨_, _, rfl, h2, Reps.eraseIdx k h3⟩
theorem Reps.reverse {ds : List D} {vs : List V} (h : Reps K ι n H ds vs) : Reps K ι n H ds.reverse vs.reverse := by
  induction ds generalizing vs with
  | nil => rw [show vs = [] from h]; exact rfl
  | cons d ds ih =>
    obtain ⟨v, r, rfl, h2, h3⟩ := h
    rw [List.reverse_cons, List.reverse_cons]
    exact (ih h3).append (Reps.cons h2 Reps.nil)
theorem Reps.dropLast {ds : List D} {vs : List V} (h : Reps K ι n H ds vs) : Reps K ι n H ds.dropLast vs.dropLast := by
  rw [List.dropLast_eq_take, List.dropLast_eq_take, h.length]
  exact h.take _
end

/-- an object -/
def ObjR (K : PySem.W.Frag) (w : World) (ι : Nat → Addr) (n : Nat) (H : Hp) (a : Addr) : MO → Prop
  | .lst ds => ∃ vs, H a = some (.lst vs) ∧ Reps K ι n H ds vs
  | .frl ds => ∃ vs, Reps K ι n H ds vs ∧ ((∃ ob, H a = some (.frz ob (.lst vs))) ∨
      ∃ (o : Obj) (its : Array Value) (k : Nat), K.lookup a = some o ∧ o.cls = .type "list" ∧ o.dict = none ∧ o.data = .seq its k ∧ its.size ≤ sizeLine ∧ Vals vs its.toList)
  | .dct kvs => (∃ ks : List (Key × V), H a = some (.dK ks) ∧ Paired (fun (p : D × D) (q : Key × V) => p.1.key = some q.1 ∧ Rep K ι n H p.2 q.2) kvs ks) ∨
      (∃ xs : List (NestedKey × Addr × V), H a = some (dN w a xs) ∧ kvs ≠ [] ∧ Paired (fun (p : D × D) (q : NestedKey × Addr × V) => (∃ ds, p.1 = .tup ds) ∧ p.1.nk = some q.1 ∧ q.1.depth ≤ 8 ∧ Rep K ι n H p.1 (.ref q.2.1) ∧ Rep K ι n H p.2 q.2.2) kvs xs)
  | .stt ds => False
structure RelM (K : PySem.W.Frag) (w : World) (ι : Nat → Addr) (m : Mem) (H : Hp) : Prop where
  obj : ∀ l o, m[l]? = some o → ObjR K w ι m.length H (ι l) o
  sep : ∀ l l' o o', m[l]? = some o → m[l']? = some o' → o.mut = true → o'.mut = true → ι l = ι l' → l = l'
def RelE (K : PySem.W.Frag) (ι : Nat → Addr) (n : Nat) (H : Hp) (ρ : En) (σ : St) : Prop :=
  ρ.length = σ.length ∧ ∀ (i : Nat) (d : D), ρ[i]? = some (some d) → ∃ v, σ[i]? = some (some v) ∧ Rep K ι n H d v

section
variable {K : PySem.W.Frag} {w : World} {ι ι' : Nat → Addr} {n n' : Nat} {H H' : Hp}
theorem RelE.step (S : Step ι n H ι' n' H') {ρ : En} {σ : St} (h : RelE K ι n H ρ σ) : RelE K ι' n' H' ρ σ :=
  ⟨h.1, fun i d e => let ⟨v, h1, h2⟩ := h.2 i d e; ⟨v, h1, Rep.step S d v h2⟩⟩
theorem RelE.set {ρ : En} {σ : St} (h : RelE K ι n H ρ σ) {d : D} {v : V} (r : Rep K ι n H d v) (i : Nat) : RelE K ι n H (ρ.set i (some d)) (σ.set i (some v)) := by
  refine ⟨by rw [List.length_set, List.length_set]; exact h.1, fun j e q => ?_⟩
  by_cases hj : i = j
  · subst hj
    have hl : i < ρ.length := by
      have := (List.getElem?_eq_some_iff.mp q).1
      rwa [List.length_set] at this
    rw [List.getElem?_set_self hl] at q
    cases q
    exact ⟨v, by rw [List.getElem?_set_self (h.1 ▸ hl)], r⟩
  · rw [List.getElem?_set_ne hj] at q
    obtain ⟨u, h1, h2⟩ := h.2 j e q
    exact ⟨u, by rw [List.getElem?_set_ne hj]; exact h1, h2⟩
theorem Paired.mp {α β : Type} {F G : α → β → Prop} (f : ∀ a b, F a b → G a b) : ∀ {l₁ : List α} {l₂ : List β}, Paired F l₁ l₂ → Paired G l₁ l₂
  | _, _, .nil => .nil
  | _, _, .cons r t => .cons (f _ _ r) (Paired.mp f t)
/-- a mutable object is tracked, and no tuple -/
theorem ObjR.there' {a : Addr} {o : MO} (h : ObjR K w ι n H a o) (hm : o.mut = true) : ∃ ho, H a = some ho ∧ Mut (some ho) ∧ ∀ gs, ho ≠ .xd gs := by
  cases o with
  | lst ds => obtain ⟨vs, e, _⟩ := h; exact ⟨_, e, trivial, fun _ z => by cases z⟩
  | frl ds => cases hm
  | dct kvs =>
    rcases h with ⟨ks, e, _⟩ | ⟨xs, e, _, _⟩
    · exact ⟨_, e, trivial, fun _ z => by cases z⟩
    · exact ⟨_, e, trivial, fun _ z => by cases z⟩
  | stt ds => exact h.elim
theorem ObjR.there {a : Addr} {o : MO} (h : ObjR K w ι n H a o) (hm : o.mut = true) : ∃ ho, H a = some ho ∧ Mut (some ho) := let ⟨ho, h1, h2, _⟩ := h.there' hm; ⟨ho, h1, h2⟩
/-- an object whose place is as it was -/
theorem ObjR.step (S : Step ι n H ι' n' H') {a : Addr} {o : MO} (h : ObjR K w ι n H a o) (e : ∀ ho, H a = some ho → H' a = some ho) : ObjR K w ι' n' H' a o := by
  cases o with
  | lst ds =>
    obtain ⟨vs, h1, h2⟩ := h
    exact ⟨vs, e _ h1, Reps.step S _ _ h2⟩
  | frl ds =>
    obtain ⟨vs, h1, h2⟩ := h
    refine ⟨vs, Reps.step S _ _ h1, ?_⟩
    rcases h2 with ⟨ob, h2⟩ | h2
    · exact .inl ⟨ob, e _ h2⟩
    · exact .inr h2
  | dct kvs =>
    rcases h with ⟨ks, h1, h2⟩ | ⟨xs, h1, hne, h2⟩
    · exact .inl ⟨ks, e _ h1, Paired.mp (fun p q z => ⟨z.1, Rep.step S _ _ z.2⟩) h2⟩
    · exact .inr ⟨xs, e _ h1, hne, Paired.mp (fun p q z => ⟨z.1, z.2.1, z.2.2.1, Rep.step S _ _ z.2.2.2.1, Rep.step S _ _ z.2.2.2.2⟩) h2⟩
  | stt ds => exact h
/-- the read list -/
theorem ObjR.frl_sq {a : Addr} {ds : List D} (h : ObjR K w ι n H a (.frl ds)) : ∃ vs, SqL K H a vs ∧ Reps K ι n H ds vs := by
  obtain ⟨vs, h1, h2⟩ := h
  refine ⟨vs, ?_, h1⟩
  rcases h2 with ⟨ob, h2⟩ | h2
  · exact .inl (.inr ⟨ob, h2⟩)
  · exact .inr h2
theorem lt_of_get {α : Type} {l : List α} {i : Nat} {x : α} (h : l[i]? = some x) : i < l.length := (List.getElem?_eq_some_iff.mp h).1

/-- a new tuple -/
theorem Step.tup {p : Addr} {ho : HO} (hp : H p = none) : Step ι n H ι n (upd H p ho) := ⟨Nat.le_refl _, fun _ _ => rfl, fun a vs h => by rw [upd_ne (ne_of_none h hp)]; exact h, fun a vs h => by rw [upd_ne (ne_of_none h hp)]; exact h⟩
theorem RelM.fresh {m : Mem} (M : RelM K w ι m H) {p : Addr} {ho : HO} (hp : H p = none) : RelM K w ι m (upd H p ho) := by
  refine ⟨fun l o e => (M.obj l o e).step (Step.tup hp) fun h1 h2 => ?_, M.sep⟩
  rw [upd_ne (ne_of_none h2 hp)]; exact h2
/-- the numbering with one more -/
def more (ι : Nat → Addr) (n : Nat) (p : Addr) : Nat → Addr := fun l => if l = n then p else ι l
theorem more_old {p : Addr} {l : Nat} (h : l < n) : more ι n p l = ι l := by unfold more; rw [if_neg (Nat.ne_of_lt h)]
theorem more_new {p : Addr} : more ι n p n = p := by unfold more; rw [if_pos rfl]
theorem Step.new {p : Addr} {ho : HO} (hp : H p = none) : Step ι n H (more ι n p) (n + 1) (upd H p ho) :=
  ⟨Nat.le_succ _, fun l h => more_old h, fun a vs h => by rw [upd_ne (ne_of_none h hp)]; exact h, fun a vs h => by rw [upd_ne (ne_of_none h hp)]; exact h⟩
theorem RelM.new {m : Mem} (M : RelM K w ι m H) {p : Addr} {ho : HO} {o : MO} (hp : H p = none) (ob : ObjR K w (more ι m.length p) (m.length + 1) (upd H p ho) p o) : RelM K w (more ι m.length p) (m ++ [o]) (upd H p ho) := by
  have hl : (m ++ [o]).length = m.length + 1 := by simp
  have old : ∀ l x, (m ++ [o])[l]? = some x → (l < m.length ∧ m[l]? = some x) ∨ (l = m.length ∧ x = o) := fun l x e => by
    have h := lt_of_get e
    rw [hl] at h
    by_cases h2 : l < m.length
    · rw [List.getElem?_append_left h2] at e
      exact .inl ⟨h2, e⟩
    · have h3 : l = m.length := by omega
      subst h3
      rw [List.getElem?_append_right (Nat.le_refl _)] at e
      simp at e
      exact .inr ⟨rfl, e.symm⟩
  refine ⟨fun l x e => ?_, fun l l' x x' e e' hm hm' he => ?_⟩
  · rw [hl]
    rcases old l x e with ⟨h1, h2⟩ | ⟨rfl, rfl⟩
    · rw [more_old h1]
      exact (M.obj l x h2).step (Step.new hp) fun h1 h2 => by rw [upd_ne (ne_of_none h2 hp)]; exact h2
    · rw [more_new]; exact ob
  · rcases old l x e with ⟨h1, h2⟩ | ⟨rfl, rfl⟩
    · rcases old l' x' e' with ⟨h1', h2'⟩ | ⟨rfl, rfl⟩
      · rw [more_old h1, more_old h1'] at he
        exact M.sep l l' x x' h2 h2' hm hm' he
      · rw [more_old h1, more_new] at he
        obtain ⟨ho, h3, _⟩ := (M.obj l x h2).there hm
        rw [he, hp] at h3
        cases h3
    · rcases old l' x' e' with ⟨h1', h2'⟩ | ⟨rfl, rfl⟩
      · rw [more_old h1', more_new] at he
        obtain ⟨ho, h3, _⟩ := (M.obj l' x' h2').there hm'
        rw [← he, hp] at h3
        cases h3
      · rfl
/-- a mutable object written -/
theorem Step.wr {m : Mem} (M : RelM K w ι m H) {l : Nat} {o : MO} {ho : HO} (e : m[l]? = some o) (hm : o.mut = true) : Step ι m.length H ι m.length (upd H (ι l) ho) :=
  ⟨Nat.le_refl _, fun _ _ => rfl, fun a vs h => by
    obtain ⟨h1, h2, h3⟩ := (M.obj l o e).there hm
    rw [upd_ne fun z => ?_]
    · exact h
    · rw [z, h2] at h
      cases h
      exact h3, fun a vs h => by
    obtain ⟨h1, h2, h3, h4⟩ := (M.obj l o e).there' hm
    rw [upd_ne fun z => ?_]
    · exact h
    · rw [z, h2] at h
      exact h4 _ (Option.some.inj h)⟩
theorem RelM.wr {m : Mem} (M : RelM K w ι m H) {l : Nat} {o o' : MO} {ho : HO} (e : m[l]? = some o) (hm : o.mut = true) (hm' : o'.mut = true) (ob : ObjR K w ι m.length (upd H (ι l) ho) (ι l) o') : RelM K w ι (m.set l o') (upd H (ι l) ho) := by
  have hl := lt_of_get e
  have cs : ∀ k x, (m.set l o')[k]? = some x → (k = l ∧ x = o') ∨ (k ≠ l ∧ m[k]? = some x) := fun k x q => by
    by_cases h : l = k
    · subst h
      rw [List.getElem?_set_self hl] at q
      cases q
      exact .inl ⟨rfl, rfl⟩
    · rw [List.getElem?_set_ne h] at q
      exact .inr ⟨fun z => h z.symm, q⟩
  obtain ⟨h1, h2, h3⟩ := (M.obj l o e).there hm
  refine ⟨fun k x q => ?_, fun k k' x x' q0 q0' hx hx' he => ?_⟩
  · rw [List.length_set]
    rcases cs k x q with ⟨rfl, rfl⟩ | ⟨hk, q⟩
    · exact ob
    · by_cases hxm : x.mut = true
      · refine (M.obj k x q).step (Step.wr M e hm) fun ho2 h4 => ?_
        rw [upd_ne fun z => hk (M.sep k l x o q e hxm hm z)]
        exact h4
      · cases x with
        | frl ds =>
          obtain ⟨vs, h4, h5⟩ := M.obj k _ q
          refine ⟨vs, Reps.step (Step.wr M e hm) _ _ h4, ?_⟩
          rcases h5 with ⟨ob2, h5⟩ | h5
          · refine .inl ⟨ob2, ?_⟩
            rw [upd_ne fun z => ?_]
            · exact h5
            · rw [z, h2] at h5; cases h5; exact h3
          · exact .inr h5
        | lst _ => exact absurd rfl hxm
        | dct _ => exact absurd rfl hxm
        | stt _ => exact absurd rfl hxm
  · rcases cs k x q0 with ⟨rfl, rfl⟩ | ⟨hk, q⟩
    · rcases cs k' x' q0' with ⟨rfl, rfl⟩ | ⟨hk', q'⟩
      · rfl
      · exact M.sep _ _ _ _ e q' hm hx' he
    · rcases cs k' x' q0' with ⟨rfl, rfl⟩ | ⟨hk', q'⟩
      · exact M.sep _ _ _ _ q e hx hm he
      · exact M.sep _ _ _ _ q q' hx hx' he
end
end DL
/-! The D layer: readings by denotations. -/
namespace DL
open PySem PySem.Spec L2

/-- an exception's fields -/
def FldR (K : PySem.W.Frag) (ι : Nat → Addr) (n : Nat) (H : Hp) (fs : List (Str × D)) (gs : List (Str × V)) : Prop :=
  Paired (fun (p : Str × D) (q : Str × V) => p.1 = q.1 ∧ Rep K ι n H p.2 q.2) fs gs
section
variable (K : PySem.W.Frag) (w : World) (mg : Str → Option Value) (W : WX)
/-- what is to be shown behind a denotation's answer -/
def fin {α : Type} (σ : L2.St) (ι : Nat → Addr) (n : Nat) (H : Hp) (post : (Nat → Addr) → Mem → Hp → α → Prop) : R α → Prop
  | .ok a m' => ∀ ι' H', Step ι n H ι' m'.length H' → RelM K w ι' m' H' → post ι' m' H' a
  | .exn c fs m' => ∀ ι' H' C dx gs, Step ι n H ι' m'.length H' → RelM K w ι' m' H' → mg c = some (.ref C) → H' dx = some (.xd gs) → FldR K ι' m'.length H' fs gs → W (.ref C) (some dx) σ H'
  | .stk => False
abbrev pV (Q : VK) : (Nat → Addr) → Mem → Hp → D → Prop := fun ι' m' H' d => ∀ v, Rep K ι' m'.length H' d v → Q v H'
abbrev pVs (Q : List V → Hp → Prop) : (Nat → Addr) → Mem → Hp → List D → Prop := fun ι' m' H' ds => ∀ vs, Reps K ι' m'.length H' ds vs → Q vs H'
abbrev pB (Q : Bool → Hp → Prop) : (Nat → Addr) → Mem → Hp → Bool → Prop := fun _ _ H' b => Q b H'
abbrev DF := En → Mem → R D
abbrev DFs := En → Mem → R (List D)
abbrev DFb := En → Mem → R Bool
def rdE (f : DF) : TE := fun σ H Q => ∃ ι ρ m, RelE K ι m.length H ρ σ ∧ RelM K w ι m H ∧ fin K w mg W σ ι m.length H (pV K Q) (f ρ m)
def rdT (f : DFb) : TT := fun σ H Q => ∃ ι ρ m, RelE K ι m.length H ρ σ ∧ RelM K w ι m H ∧ fin K w mg W σ ι m.length H (pB Q) (f ρ m)
def rdA (f : DFs) : TA := fun σ H Q => ∃ ι ρ m, RelE K ι m.length H ρ σ ∧ RelM K w ι m H ∧ fin K w mg W σ ι m.length H (pVs K Q) (f ρ m)
/-- e means f; the same of a test, of arguments -/
def DE (X : Cx) (W : WX) (e : Expr) (f : DF) : Prop := PE X e (rdE X.K X.w X.mg W f)
def DT (X : Cx) (W : WX) (e : Expr) (f : DFb) : Prop := PT X e (rdT X.K X.w X.mg W f)
def DW (X : Cx) (W : WX) (e : Expr) (f : DFb) : Prop := PW X e (rdT X.K X.w X.mg W f)
def DA (X : Cx) (W : WX) (es : List Expr) (f : DFs) : Prop := PA X es (rdA X.K X.w X.mg W f)
end

section
variable {X : Cx} {K : PySem.W.Frag} {w : World} {mg : Str → Option Value} {W : WX} {σ : L2.St} {ι ι' : Nat → Addr} {n n' : Nat} {H H' : Hp} {α β : Type}
theorem fin_step {post : (Nat → Addr) → Mem → Hp → α → Prop} {r : R α} (h : fin K w mg W σ ι n H post r) (S : Step ι n H ι' n' H') : fin K w mg W σ ι' n' H' post r := by
  cases r with
  | ok a m => exact fun ι2 H2 S2 M => h ι2 H2 (S.trans S2) M
  | exn c fs m => exact fun ι2 H2 C dx gs S2 M => h ι2 H2 C dx gs (S.trans S2) M
  | stk => exact h
theorem fin_imp {post post' : (Nat → Addr) → Mem → Hp → α → Prop} {r : R α} (h : fin K w mg W σ ι n H post r)
    (i : ∀ ι' m' H' a, r = .ok a m' → Step ι n H ι' m'.length H' → RelM K w ι' m' H' → post ι' m' H' a → post' ι' m' H' a) : fin K w mg W σ ι n H post' r := by
  cases r with
  | ok a m => exact fun ι2 H2 S2 M => i ι2 m H2 a rfl S2 M (h ι2 H2 S2 M)
  | exn c fs m => exact h
  | stk => exact h
theorem fin_bind {post : (Nat → Addr) → Mem → Hp → β → Prop} {r : R α} {g : α → Mem → R β} (h : fin K w mg W σ ι n H post (r.bind g)) :
    fin K w mg W σ ι n H (fun ι' m' H' a => fin K w mg W σ ι' m'.length H' post (g a m')) r := by
  cases r with
  | ok a m => exact fun ι2 H2 S2 M => fin_step (show fin K w mg W σ ι n H post (g a m) from h) S2
  | exn c fs m => exact h
  | stk => exact h
/-- one part, then the rest -/
theorem fin_then {post : (Nat → Addr) → Mem → Hp → β → Prop} {post' : (Nat → Addr) → Mem → Hp → α → Prop} {r : R α} {g : α → Mem → R β} (h : fin K w mg W σ ι n H post (r.bind g))
    (i : ∀ ι' m' H' a, Step ι n H ι' m'.length H' → RelM K w ι' m' H' → fin K w mg W σ ι' m'.length H' post (g a m') → post' ι' m' H' a) : fin K w mg W σ ι n H post' r :=
  fin_imp (fin_bind h) fun ι' m' H' a _ S M q => i ι' m' H' a S M q
/-- nothing has happened -/
theorem fin_now {post : (Nat → Addr) → Mem → Hp → α → Prop} {a : α} {m : Mem} (h : fin K w mg W σ ι m.length H post (.ok a m)) (M : RelM K w ι m H) : post ι m H a := h ι H (Step.refl _ _ _) M

theorem fin_nowB {Q : Bool → Hp → Prop} {b : Bool} {m : Mem} (h : fin K w mg W σ ι m.length H (pB Q) (.ok b m)) (M : RelM K w ι m H) : Q b H := h ι H (Step.refl _ _ _) M
theorem pe_imp {e : Expr} {t t' : TE} (h : PE X e t) (i : ∀ σ H Q, t' σ H Q → t σ H Q) : PE X e t' := ⟨fun pins s σ H Q I hq => h.run pins s σ H Q I (i σ H Q hq)⟩
theorem pt_imp {e : Expr} {t t' : TT} (h : PT X e t) (i : ∀ σ H Q, t' σ H Q → t σ H Q) : PT X e t' := ⟨fun pins s σ H Q I hq => h.run pins s σ H Q I (i σ H Q hq)⟩
theorem pw_imp {e : Expr} {t t' : TT} (h : PW X e t) (i : ∀ σ H Q, t' σ H Q → t σ H Q) : PW X e t' := ⟨fun wh pins s σ H Q I hq => h.run wh pins s σ H Q I (i σ H Q hq)⟩
theorem pa_imp {es : List Expr} {t t' : TA} (h : PA X es t) (i : ∀ σ H Q, t' σ H Q → t σ H Q) : PA X es t' := ⟨fun pos pins s σ H Q I hq => h.run pos pins s σ H Q I (i σ H Q hq)⟩
theorem ps_imp {st : Stmt} {t t' : TS} (h : PS X st t) (i : ∀ D σ H, t' D σ H → t D σ H) : PS X st t' := ⟨fun pins s σ H D I hq => h.run pins s σ H D I (i D σ H hq)⟩
theorem pss_imp {st : List Stmt} {t t' : TS} (h : PSs X st t) (i : ∀ D σ H, t' D σ H → t D σ H) : PSs X st t' := ⟨fun pins s σ H D I hq => h.run pins s σ H D I (i D σ H hq)⟩

/-! ### names, constants -/
def dVar (i : Nat) : DF := fun ρ m => match ρ[i]? with
  | some (some d) => .ok d m
  | _ => .stk
def dC (d : D) : DF := fun _ m => .ok d m
theorem rd_var {i : Nat} {Q : VK} (h : rdE K w mg W (dVar i) σ H Q) : tVar i σ H Q := by
  obtain ⟨ι, ρ, m, E, M, q⟩ := h
  unfold dVar at q
  cases e : ρ[i]? with
  | none => rw [e] at q; exact q.elim
  | some o =>
    rw [e] at q
    cases o with
    | none => exact q.elim
    | some d =>
      obtain ⟨v, h1, h2⟩ := E.2 i d e
      exact ⟨v, h1, fin_now q M v h2⟩
theorem de_var (i : Nat) {x : Str} {pos : Pos} (hN : X.N[i]? = some x := by rfl) (hv : Vis X.env.scope x := by first | exact Or.inl rfl | exact Or.inr (Or.inl rfl) | exact Or.inr (Or.inr rfl)) (hd : (x == ("__debug__" : Str)) = false := by decide)
    (hcd : (x == ("__classdict__" : Str)) = false := by decide) : DE X W (.Name x pos) (dVar i) := pe_imp (pe_var hN hv hd hcd) fun _ _ _ h => rd_var h
theorem rd_C {d : D} {v : V} (hr : ∀ ι n H, Rep K ι n H d v) {Q : VK} (h : rdE K w mg W (dC d) σ H Q) : tC v σ H Q := by
  obtain ⟨ι, ρ, m, E, M, q⟩ := h
  exact fin_now q M v (hr _ _ _)
theorem de_int {i : Int} {j pos} : DE X W (.Constant (.int i) j pos) (dC (.int i)) := pe_imp pe_int fun _ _ _ h => rd_C (K := X.K) (d := .int i) (v := .int i) (fun _ _ _ => rfl) h
theorem de_bl {b : Bool} {j pos} : DE X W (.Constant (.bool b) j pos) (dC (.bl b)) := pe_imp pe_bl fun _ _ _ h => rd_C (K := X.K) (d := .bl b) (v := .bl b) (fun _ _ _ => rfl) h
theorem de_non {j pos} : DE X W (.Constant .none j pos) (dC .non) := pe_imp pe_non fun _ _ _ h => rd_C (K := X.K) (d := .non) (v := .non) (fun _ _ _ => rfl) h
theorem de_str {x : Str} {j pos} : DE X W (.Constant (.str x) j pos) (dC (.str x)) := pe_imp pe_str fun _ _ _ h => rd_C (K := X.K) (d := .str x) (v := .str x) (fun _ _ _ => rfl) h
/-- a module's constant -/
theorem de_glob {x : Str} {d : D} {v : V} {u : Value} {pos : Pos} (hg : Gl X x) (hm : X.mg x = some u) (r : RelV v u) (hr : ∀ ι n H, Rep X.K ι n H d v) (hd : (x == ("__debug__" : Str)) = false := by decide) : DE X W (.Name x pos) (dC d) :=
  pe_imp (pe_glob hg hm r hd) fun _ _ _ h => rd_C hr h

/-! ### by values -/
section
variable (K w mg W)
abbrev O2 := D → D → Mem → R D
abbrev O1 := D → Mem → R D
abbrev ON := List D → Mem → R D
def DOp (r : R2) (op : O2) : Prop := ∀ (σ : L2.St) (ι : Nat → Addr) (m : Mem) (H : Hp) (x y : V) (d e : D) (Q : VK), RelM K w ι m H → Rep K ι m.length H d x → Rep K ι m.length H e y → fin K w mg W σ ι m.length H (pV K Q) (op d e m) → r x y H Q
def DUn (r : V → Hp → VK → Prop) (op : O1) : Prop := ∀ (σ : L2.St) (ι : Nat → Addr) (m : Mem) (H : Hp) (x : V) (d : D) (Q : VK), RelM K w ι m H → Rep K ι m.length H d x → fin K w mg W σ ι m.length H (pV K Q) (op d m) → r x H Q
def DCa (r : List V → Hp → VK → Prop) (op : ON) : Prop := ∀ (σ : L2.St) (ι : Nat → Addr) (m : Mem) (H : Hp) (xs : List V) (ds : List D) (Q : VK), RelM K w ι m H → Reps K ι m.length H ds xs → fin K w mg W σ ι m.length H (pV K Q) (op ds m) → r xs H Q
end
def dBin (op : O2) (fa fb : DF) : DF := fun ρ m => (fa ρ m).bind fun x m1 => (fb ρ m1).bind fun y m2 => op x y m2
def dUn (op : O1) (fa : DF) : DF := fun ρ m => (fa ρ m).bind fun x m1 => op x m1
def dCall (op : ON) (fs : DFs) : DF := fun ρ m => (fs ρ m).bind fun xs m1 => op xs m1
theorem rd_bin {r : R2} {op : O2} {fa fb : DF} (hd : DOp K w mg W r op) {Q : VK} (h : rdE K w mg W (dBin op fa fb) σ H Q) : tOp r (rdE K w mg W fa) (rdE K w mg W fb) σ H Q := by
  obtain ⟨ι, ρ, m, E, M, q⟩ := h
  refine ⟨ι, ρ, m, E, M, fin_then q fun ι1 m1 H1 d S1 M1 q1 v rv => ?_⟩
  refine ⟨ι1, ρ, m1, E.step S1, M1, fin_then q1 fun ι2 m2 H2 e S2 M2 q2 u ru => ?_⟩
  exact hd σ ι2 m2 H2 v u d e Q M2 (rv.step S2) ru q2
theorem rd_un {r : V → Hp → VK → Prop} {op : O1} {fa : DF} (hd : DUn K w mg W r op) {Q : VK} (h : rdE K w mg W (dUn op fa) σ H Q) : tUn r (rdE K w mg W fa) σ H Q := by
  obtain ⟨ι, ρ, m, E, M, q⟩ := h
  exact ⟨ι, ρ, m, E, M, fin_then q fun ι1 m1 H1 d S1 M1 q1 v rv => hd σ ι1 m1 H1 v d Q M1 rv q1⟩
theorem rd_call {r : List V → Hp → VK → Prop} {op : ON} {fs : DFs} (hd : DCa K w mg W r op) {Q : VK} (h : rdE K w mg W (dCall op fs) σ H Q) : tCB r (rdA K w mg W fs) σ H Q := by
  obtain ⟨ι, ρ, m, E, M, q⟩ := h
  exact ⟨ι, ρ, m, E, M, fin_then q fun ι1 m1 H1 ds S1 M1 q1 vs rv => hd σ ι1 m1 H1 vs ds Q M1 rv q1⟩
variable {a b : Expr} {pos : Pos} {fa fb : DF}
theorem de_op {op : Operator} {r : R2} {o : O2} (ho : OpR X (binaryOp op) r) (hd : DOp X.K X.w X.mg W r o) (ha : DE X W a fa) (hb : DE X W b fb) : DE X W (.BinOp a op b pos) (dBin o fa fb) :=
  pe_imp (pe_op ho ha hb) fun _ _ _ h => rd_bin hd h
theorem de_un {op : UnaryOp} {r : V → Hp → VK → Prop} {o : O1} (ho : UnR X (unaryOp op) r) (hd : DUn X.K X.w X.mg W r o) (ha : DE X W a fa) : DE X W (.UnaryOp op a pos) (dUn o fa) :=
  pe_imp (pe_un ho ha) fun _ _ _ h => rd_un hd h
theorem de_cmp {op : CmpOp} {r : R2} {o : O2} (ho : OpR X (compareOp op) r) (hd : DOp X.K X.w X.mg W r o) (ha : DE X W a fa) (hb : DE X W b fb) (hm : behindInMarks op b = false) : DE X W (.Compare a [op] [b] pos) (dBin o fa fb) :=
  pe_imp (pe_cmpR ho ha hb hm) fun _ _ _ h => rd_bin hd h
theorem de_ix {r : R2} {o : O2} (hr : IxR X r) (hd : DOp X.K X.w X.mg W r o) (ha : DE X W a fa) (hb : DE X W b fb) (hs : PlainIx b) : DE X W (.Subscript a b pos) (dBin o fa fb) :=
  pe_imp (pe_ix hr ha hb hs) fun _ _ _ h => rd_bin hd h

/-! ### arguments, displays -/
def dNil : DFs := fun _ m => .ok [] m
def dCons (f : DF) (g : DFs) : DFs := fun ρ m => (f ρ m).bind fun d m1 => (g ρ m1).bind fun ds m2 => .ok (d :: ds) m2
theorem da_nil : DA X W [] dNil := pa_imp pa_nil fun σ H Q h => by
  obtain ⟨ι, ρ, m, E, M, q⟩ := h
  exact fin_now q M [] Reps.nil
theorem da_cons {e : Expr} {es : List Expr} {f : DF} {g : DFs} (ha : DE X W e f) (hr : DA X W es g) (hs : starEach (e :: es) X.env = (false, eval e X.env) :: starEach es X.env := by rfl) : DA X W (e :: es) (dCons f g) :=
  pa_imp (pa_cons ha hr hs) fun σ H Q h => by
    obtain ⟨ι, ρ, m, E, M, q⟩ := h
    refine ⟨ι, ρ, m, E, M, fin_then q fun ι1 m1 H1 d S1 M1 q1 v rv => ?_⟩
    refine ⟨ι1, ρ, m1, E.step S1, M1, fin_then q1 fun ι2 m2 H2 ds S2 M2 q2 vs rvs => ?_⟩
    exact fin_now q2 M2 (v :: vs) (Reps.cons (rv.step S2) rvs)
def dTup (f : DFs) : DF := fun ρ m => (f ρ m).bind fun ds m1 => if ds.length ≤ sizeLine then .ok (.tup ds) m1 else .stk
def dLst (f : DFs) : DF := fun ρ m => (f ρ m).bind fun ds m1 => if ds.length ≤ sizeLine then .ok (.ref m1.length) (m1 ++ [.lst ds]) else .stk
/-- a tuple is made -/
theorem fin_tup {ds : List D} {vs : List V} {m : Mem} {Q : VK} (M : RelM K w ι m H) (r : Reps K ι m.length H ds vs) (q : fin K w mg W σ ι m.length H (pV K Q) (.ok (.tup ds) m)) : ∀ p, H p = none → Q (.ref p) (upd H p (.tup vs)) := fun p hp =>
  q ι _ (Step.tup hp) (M.fresh hp) _ ⟨p, vs, rfl, .inl upd_same, r.step (Step.tup hp)⟩
/-- a list is made -/
theorem fin_lst {ds : List D} {vs : List V} {m : Mem} {Q : VK} (M : RelM K w ι m H) (r : Reps K ι m.length H ds vs) (q : fin K w mg W σ ι m.length H (pV K Q) (.ok (.ref m.length) (m ++ [.lst ds]))) : ∀ p, H p = none → Q (.ref p) (upd H p (.lst vs)) := fun p hp => by
  have hl : (m ++ [MO.lst ds]).length = m.length + 1 := by simp
  have S : Step ι m.length H (more ι m.length p) (m ++ [MO.lst ds]).length (upd H p (.lst vs)) := by rw [hl]; exact Step.new hp
  refine q _ _ S (M.new hp ⟨vs, upd_same, r.step (Step.new hp)⟩) _ ⟨by rw [hl]; exact Nat.lt_succ_self _, by rw [more_new]⟩
theorem de_tup {es : List Expr} {x1} {f : DFs} (h : DA X W es f) : DE X W (.Tuple es x1 pos) (dTup f) := pe_imp (pe_tup h) fun σ H Q hq => by
  obtain ⟨ι, ρ, m, E, M, q⟩ := hq
  refine ⟨ι, ρ, m, E, M, fin_then q fun ι1 m1 H1 ds S1 M1 q1 vs rv => ?_⟩
  by_cases hz : ds.length ≤ sizeLine
  · rw [if_pos hz] at q1
    exact ⟨by rw [rv.length]; exact hz, fin_tup M1 rv q1⟩
  · rw [if_neg hz] at q1
    exact q1.elim
theorem de_lst {es : List Expr} {f : DFs} (h : DA X W es f) : DE X W (.List es pos) (dLst f) := pe_imp (pe_lst h) fun σ H Q hq => by
  obtain ⟨ι, ρ, m, E, M, q⟩ := hq
  refine ⟨ι, ρ, m, E, M, fin_then q fun ι1 m1 H1 ds S1 M1 q1 vs rv => ?_⟩
  by_cases hz : ds.length ≤ sizeLine
  · rw [if_pos hz] at q1
    exact ⟨by rw [rv.length]; exact hz, fin_lst M1 rv q1⟩
  · rw [if_neg hz] at q1
    exact q1.elim

/-! ### calls of what is built in -/
variable {e : Expr} {es : List Expr} {x : Str} {p : Pos} {id T : String} {r : List V → Hp → VK → Prop} {o : ON} {fs : DFs}
theorem de_callB (hc : CallR X (.builtin id) r) (hd : DCa X.K X.w X.mg W r o) (hg : Gl X x) (hm : X.mg x = none) (hv : bootBuiltins x = some (.builtin id)) (ha : DA X W (e :: es) fs) (hn : x ≠ "__name__" := by decide) (hdb : (x == ("__debug__" : Str)) = false := by decide)
    (he : starEach (e :: es) X.env = (false, eval e X.env) :: starEach es X.env := by rfl) (hpl : (backTo pos (starEach es X.env)).any (·.1) = false := by rfl) : DE X W (.Call (.Name x p) (e :: es) [] pos) (dCall o fs) :=
  pe_imp (pe_callB hc hg hm hv ha hn hdb he hpl) fun _ _ _ h => rd_call hd h
theorem de_callTy (hc : CallR X (.type T) r) (hd : DCa X.K X.w X.mg W r o) (hg : Gl X x) (hm : X.mg x = none) (hv : bootBuiltins x = some (.type T)) (ha : DA X W (e :: es) fs) (hn : x ≠ "__name__" := by decide) (hdb : (x == ("__debug__" : Str)) = false := by decide)
    (he : starEach (e :: es) X.env = (false, eval e X.env) :: starEach es X.env := by rfl) (hpl : (backTo pos (starEach es X.env)).any (·.1) = false := by rfl) : DE X W (.Call (.Name x p) (e :: es) [] pos) (dCall o fs) :=
  pe_imp (pe_callTy hc hg hm hv ha hn hdb he hpl) fun _ _ _ h => rd_call hd h

/-! ### tests -/
def dTest (f : DF) : DFb := fun ρ m => (f ρ m).bind fun d m1 => match d with
  | .bl b => .ok b m1
  | _ => .stk
theorem rd_test {f : DF} {Q : Bool → Hp → Prop} (h : rdT K w mg W (dTest f) σ H Q) : tB (rdE K w mg W f) σ H Q := by
  obtain ⟨ι, ρ, m, E, M, q⟩ := h
  refine ⟨ι, ρ, m, E, M, fin_then q fun ι1 m1 H1 d S1 M1 q1 v rv => ?_⟩
  cases d with
  | bl b => exact ⟨b, rv, fin_nowB (W := W) (σ := σ) (b := b) (m := m1) (Q := Q) q1 M1⟩
  | _ => exact q1.elim
theorem dt_val {f : DF} (h : DE X W e f) (he : ∀ whole, PySem.isTrue e X.env whole = (do let v ← whole; standAt e.pos; holding [v] (truthy v)) := by intro _; rfl) : DT X W e (dTest f) :=
  pt_imp (pt_val h he) fun _ _ _ q => rd_test q
theorem dt_cmp {op : CmpOp} {r : R2} {o : O2} (ho : OpR X (compareOp op) r) (hd : DOp X.K X.w X.mg W r o) (ha : DE X W a fa) (hb : DE X W b fb) (hm : behindInMarks op b = false) : DT X W (.Compare a [op] [b] pos) (dTest (dBin o fa fb)) :=
  pt_imp (pt_cmpR ho ha hb hm) fun σ H Q q => by
    obtain ⟨ι, ρ, m, E, M, q⟩ := rd_test q
    exact rd_bin hd (show rdE X.K X.w X.mg W (dBin o fa fb) σ H _ from ⟨ι, ρ, m, E, M, q⟩)
def dAnd (f g : DFb) : DFb := fun ρ m => (f ρ m).bind fun b m1 => if b = true then g ρ m1 else .ok false m1
def dOr (f g : DFb) : DFb := fun ρ m => (f ρ m).bind fun b m1 => if b = true then .ok true m1 else g ρ m1
def dNot (f : DFb) : DFb := fun ρ m => (f ρ m).bind fun b m1 => .ok (!b) m1
variable {tA tB' : DFb} {rest : List Expr}
theorem DW.dt (h : DW X W e tA) : DT X W e tA := h.pt
theorem dw_and1 (ha : DT X W a tA) : DW X W (.BoolOp .And [a] pos) tA := pw_and1 ha
theorem dw_or1 (ha : DT X W a tA) : DW X W (.BoolOp .Or [a] pos) tA := pw_or1 ha
theorem dw_and (ha : DT X W a tA) (hb : DW X W (.BoolOp .And (b :: rest) pos) tB') : DW X W (.BoolOp .And (a :: b :: rest) pos) (dAnd tA tB') := pw_imp (pw_and ha hb) fun σ H Q h => by
  obtain ⟨ι, ρ, m, E, M, q⟩ := h
  refine ⟨ι, ρ, m, E, M, fin_then q fun ι1 m1 H1 c S1 M1 q1 => ?_⟩
  cases c with
  | true => exact ⟨ι1, ρ, m1, E.step S1, M1, q1⟩
  | false => exact fin_nowB (W := W) (σ := σ) (b := false) (m := m1) (Q := Q) q1 M1
theorem dw_or (ha : DT X W a tA) (hb : DW X W (.BoolOp .Or (b :: rest) pos) tB') : DW X W (.BoolOp .Or (a :: b :: rest) pos) (dOr tA tB') := pw_imp (pw_or ha hb) fun σ H Q h => by
  obtain ⟨ι, ρ, m, E, M, q⟩ := h
  refine ⟨ι, ρ, m, E, M, fin_then q fun ι1 m1 H1 c S1 M1 q1 => ?_⟩
  cases c with
  | true => exact fin_nowB (W := W) (σ := σ) (b := true) (m := m1) (Q := Q) q1 M1
  | false => exact ⟨ι1, ρ, m1, E.step S1, M1, q1⟩
theorem dt_not (ha : DT X W a tA) : DT X W (.UnaryOp .Not a pos) (dNot tA) := pt_imp (pt_not ha) fun σ H Q h => by
  obtain ⟨ι, ρ, m, E, M, q⟩ := h
  exact ⟨ι, ρ, m, E, M, fin_then q fun ι1 m1 H1 c S1 M1 q1 => fin_nowB (W := W) (σ := σ) (b := !c) (m := m1) (Q := Q) q1 M1⟩
/-- .. as values -/
def dAndV (f g : DF) : DF := fun ρ m => (f ρ m).bind fun d m1 => match d with
  | .bl true => g ρ m1
  | .bl false => .ok (.bl false) m1
  | _ => .stk
def dOrV (f g : DF) : DF := fun ρ m => (f ρ m).bind fun d m1 => match d with
  | .bl false => g ρ m1
  | .bl true => .ok (.bl true) m1
  | _ => .stk
def dNotV (f : DF) : DF := fun ρ m => (f ρ m).bind fun d m1 => match d with
  | .bl b => .ok (.bl (!b)) m1
  | _ => .stk
theorem de_one {op} (h : DE X W a fa) : DE X W (.BoolOp op [a] pos) fa := pe_one h
theorem de_and (ha : DE X W a fa) (hb : DE X W (.BoolOp .And (b :: rest) pos) fb) : DE X W (.BoolOp .And (a :: b :: rest) pos) (dAndV fa fb) := pe_imp (pe_and ha hb) fun σ H Q h => by
  obtain ⟨ι, ρ, m, E, M, q⟩ := h
  refine ⟨ι, ρ, m, E, M, fin_then q fun ι1 m1 H1 d S1 M1 q1 v rv => ?_⟩
  cases d with
  | bl c =>
    refine ⟨c, rv, ?_⟩
    cases c with
    | true => exact ⟨ι1, ρ, m1, E.step S1, M1, q1⟩
    | false => exact fin_now q1 M1 _ rfl
  | _ => exact q1.elim
theorem de_or (ha : DE X W a fa) (hb : DE X W (.BoolOp .Or (b :: rest) pos) fb) : DE X W (.BoolOp .Or (a :: b :: rest) pos) (dOrV fa fb) := pe_imp (pe_or ha hb) fun σ H Q h => by
  obtain ⟨ι, ρ, m, E, M, q⟩ := h
  refine ⟨ι, ρ, m, E, M, fin_then q fun ι1 m1 H1 d S1 M1 q1 v rv => ?_⟩
  cases d with
  | bl c =>
    refine ⟨c, rv, ?_⟩
    cases c with
    | false => exact ⟨ι1, ρ, m1, E.step S1, M1, q1⟩
    | true => exact fin_now q1 M1 _ rfl
  | _ => exact q1.elim
theorem de_not (ha : DE X W a fa) : DE X W (.UnaryOp .Not a pos) (dNotV fa) := pe_imp (pe_not ha) fun σ H Q h => by
  obtain ⟨ι, ρ, m, E, M, q⟩ := h
  refine ⟨ι, ρ, m, E, M, fin_then q fun ι1 m1 H1 d S1 M1 q1 v rv => ?_⟩
  cases d with
  | bl c => exact ⟨c, rv, fin_now q1 M1 _ rfl⟩
  | _ => exact q1.elim
def dIf (t : DFb) (f g : DF) : DF := fun ρ m => (t ρ m).bind fun b m1 => if b = true then f ρ m1 else g ρ m1
theorem de_if {c : Expr} (hc : DT X W c tA) (ha : DE X W a fa) (hb : DE X W b fb) : DE X W (.IfExp c a b pos) (dIf tA fa fb) := pe_imp (pe_ifExp hc ha hb) fun σ H Q h => by
  obtain ⟨ι, ρ, m, E, M, q⟩ := h
  refine ⟨ι, ρ, m, E, M, fin_then q fun ι1 m1 H1 c S1 M1 q1 => ?_⟩
  cases c with
  | true => exact ⟨ι1, ρ, m1, E.step S1, M1, q1⟩
  | false => exact ⟨ι1, ρ, m1, E.step S1, M1, q1⟩
end
end DL
/-! The D layer: statements, targets, loops, comprehensions, defs. -/
namespace DL
open PySem PySem.Spec L2

inductive O where
  | nx (ρ : En) (m : Mem)
  | rt (d : D) (m : Mem)
  | bk (ρ : En) (m : Mem)
  | ct (ρ : En) (m : Mem)
  | exn (c : Str) (fs : List (Str × D)) (ρ : En) (m : Mem)
  | stk
abbrev DSt := En → Mem → O
def R.goes {α : Type} (r : R α) (ρ : En) (f : α → Mem → O) : O := match r with
  | .ok a m => f a m
  | .exn c fs m => .exn c fs ρ m
  | .stk => .stk
theorem R.goes_ok {α : Type} (a : α) (m : Mem) (ρ : En) (f : α → Mem → O) : (R.ok a m).goes ρ f = f a m := rfl
theorem R.goes_stk {α : Type} (ρ : En) (f : α → Mem → O) : (R.stk).goes ρ f = .stk := rfl
/-- an answer, else nothing is said -/
def R.only {α : Type} (r : R α) (f : α → Mem → O) : O := match r with
  | .ok a m => f a m
  | _ => .stk
/-- a loop's turn is over -/
def O.turn (o : O) (k : DSt) : O := match o with
  | .nx ρ m => k ρ m
  | .ct ρ m => k ρ m
  | .bk ρ m => .nx ρ m
  | .rt d m => .rt d m
  | .exn c fs ρ m => .exn c fs ρ m
  | .stk => .stk
def O.thn (o : O) (g : DSt) : O := match o with
  | .nx ρ m => g ρ m
  | .rt d m => .rt d m
  | .bk ρ m => .bk ρ m
  | .ct ρ m => .ct ρ m
  | .exn c fs ρ m => .exn c fs ρ m
  | .stk => .stk

section
variable (K : PySem.W.Frag) (w : World) (mg : Str → Option Value) (W : WX)
def finS (ι : Nat → Addr) (n : Nat) (H : Hp) (E : Ends) : O → Prop
  | .nx ρ' m' => ∀ ι' H' σ', Step ι n H ι' m'.length H' → RelM K w ι' m' H' → RelE K ι' m'.length H' ρ' σ' → E.nx σ' H'
  | .bk ρ' m' => ∀ ι' H' σ', Step ι n H ι' m'.length H' → RelM K w ι' m' H' → RelE K ι' m'.length H' ρ' σ' → E.bk σ' H'
  | .ct ρ' m' => ∀ ι' H' σ', Step ι n H ι' m'.length H' → RelM K w ι' m' H' → RelE K ι' m'.length H' ρ' σ' → E.ct σ' H'
  | .rt d m' => ∀ ι' H' v, Step ι n H ι' m'.length H' → RelM K w ι' m' H' → Rep K ι' m'.length H' d v → E.rt v H'
  | .exn c fs ρ' m' => ∀ ι' H' σ' C dx gs, Step ι n H ι' m'.length H' → RelM K w ι' m' H' → RelE K ι' m'.length H' ρ' σ' → mg c = some (.ref C) → H' dx = some (.xd gs) → FldR K ι' m'.length H' fs gs → W (.ref C) (some dx) σ' H'
  | .stk => False
def rdS (g : DSt) : TS := fun E σ H => ∃ ι ρ m, RelE K ι m.length H ρ σ ∧ RelM K w ι m H ∧ finS K w mg W ι m.length H E (g ρ m)
def DS (X : Cx) (W : WX) (st : Stmt) (g : DSt) : Prop := PS X st (rdS X.K X.w X.mg W g)
def DSs (X : Cx) (W : WX) (sts : List Stmt) (g : DSt) : Prop := PSs X sts (rdS X.K X.w X.mg W g)
end

section
variable {X : Cx} {K : PySem.W.Frag} {w : World} {mg : Str → Option Value} {W : WX} {σ : L2.St} {ι ι' : Nat → Addr} {n n' : Nat} {H H' : Hp} {α β : Type} {E E' : Ends}
theorem finS_step {o : O} (h : finS K w mg W ι n H E o) (S : Step ι n H ι' n' H') : finS K w mg W ι' n' H' E o := by
  cases o with
  | nx ρ m => exact fun ι2 H2 σ2 S2 M e => h ι2 H2 σ2 (S.trans S2) M e
  | bk ρ m => exact fun ι2 H2 σ2 S2 M e => h ι2 H2 σ2 (S.trans S2) M e
  | ct ρ m => exact fun ι2 H2 σ2 S2 M e => h ι2 H2 σ2 (S.trans S2) M e
  | rt d m => exact fun ι2 H2 v S2 M r => h ι2 H2 v (S.trans S2) M r
  | exn c fs ρ m => exact fun ι2 H2 σ2 C dx gs S2 M e => h ι2 H2 σ2 C dx gs (S.trans S2) M e
  | stk => exact h
theorem finS_thn {o : O} {g : DSt} (h : finS K w mg W ι n H E (o.thn g)) : finS K w mg W ι n H { E with nx := rdS K w mg W g E } o := by
  cases o with
  | nx ρ m => exact fun ι2 H2 σ2 S2 M e => ⟨ι2, ρ, m, e, M, finS_step h S2⟩
  | bk ρ m => exact h
  | ct ρ m => exact h
  | rt d m => exact h
  | exn c fs ρ m => exact h
  | stk => exact h
/-- an expression's answer, then the statement's -/
theorem fin_goes {r : R α} {ρ : En} {f : α → Mem → O} (e : RelE K ι n H ρ σ) (h : finS K w mg W ι n H E (r.goes ρ f)) : fin K w mg W σ ι n H (fun ι' m' H' a => finS K w mg W ι' m'.length H' E (f a m')) r := by
  cases r with
  | ok a m => exact fun ι2 H2 S2 M => finS_step (show finS K w mg W ι n H E (f a m) from h) S2
  | exn c fs m => exact fun ι2 H2 C dx gs S2 M => h ι2 H2 σ C dx gs S2 M (e.step S2)
  | stk => exact h
theorem fin_goes' {post : (Nat → Addr) → Mem → Hp → α → Prop} {r : R α} {ρ : En} {f : α → Mem → O} (e : RelE K ι n H ρ σ) (h : finS K w mg W ι n H E (r.goes ρ f))
    (i : ∀ ι' m' H' a, Step ι n H ι' m'.length H' → RelM K w ι' m' H' → RelE K ι' m'.length H' ρ σ → finS K w mg W ι' m'.length H' E (f a m') → post ι' m' H' a) : fin K w mg W σ ι n H post r :=
  fin_imp (fin_goes e h) fun ι' m' H' a _ S M q => i ι' m' H' a S M (e.step S) q
theorem finS_nx {ρ : En} {m : Mem} (h : finS K w mg W ι m.length H E (.nx ρ m)) (M : RelM K w ι m H) {σ' : L2.St} (e : RelE K ι m.length H ρ σ') : E.nx σ' H := h ι H σ' (Step.refl _ _ _) M e

/-! ### blocks -/
variable {st : Stmt} {rest : List Stmt} {g g' : DSt} {e : Expr} {f : DF} {pos : Pos}
def dNext : DSt := fun ρ m => .nx ρ m
def dSeq (g h : DSt) : DSt := fun ρ m => (g ρ m).thn h
theorem dss_nil : DSs X W [] dNext := pss_imp pss_nil fun E σ H h => by
  obtain ⟨ι, ρ, m, e, M, q⟩ := h
  exact finS_nx q M e
theorem dss_cons (h1 : DS X W st g) (h2 : DSs X W rest g') : DSs X W (st :: rest) (dSeq g g') := pss_imp (pss_cons h1 h2) fun E σ H h => by
  obtain ⟨ι, ρ, m, e, M, q⟩ := h
  exact ⟨ι, ρ, m, e, M, finS_thn q⟩
theorem dss_one (h1 : DS X W st g) : DSs X W [st] g := pss_one h1
def dBreak : DSt := fun ρ m => .bk ρ m
def dCont : DSt := fun ρ m => .ct ρ m
theorem ds_pass : DS X W (.Pass pos) dNext := ps_imp ps_pass fun E σ H h => by
  obtain ⟨ι, ρ, m, e, M, q⟩ := h
  exact finS_nx q M e
theorem ds_break : DS X W (.Break pos) dBreak := ps_imp ps_break fun E σ H h => by
  obtain ⟨ι, ρ, m, e, M, q⟩ := h
  exact q ι H σ (Step.refl _ _ _) M e
theorem ds_continue : DS X W (.Continue pos) dCont := ps_imp ps_continue fun E σ H h => by
  obtain ⟨ι, ρ, m, e, M, q⟩ := h
  exact q ι H σ (Step.refl _ _ _) M e
theorem ds_doc {x j pos pos'} : DS X W (.Expr (.Constant (.str x) j pos) pos') dNext := ps_imp ps_doc fun E σ H h => by
  obtain ⟨ι, ρ, m, e, M, q⟩ := h
  exact finS_nx q M e
def dDrop (f : DF) : DSt := fun ρ m => (f ρ m).goes ρ fun _ m1 => .nx ρ m1
theorem ds_expr (he : DE X W e f) (hs : swapsWith e none pos.line X.env = pure false := by rfl) : DS X W (.Expr e pos) (dDrop f) := ps_imp (ps_expr he hs) fun E σ H h => by
  obtain ⟨ι, ρ, m, e, M, q⟩ := h
  exact ⟨ι, ρ, m, e, M, fin_goes' e q fun ι1 m1 H1 d S1 M1 e1 q1 v rv => finS_nx q1 M1 e1⟩
def dRet (f : DF) : DSt := fun ρ m => (f ρ m).goes ρ fun d m1 => .rt d m1
theorem ds_ret (he : DE X W e f) : DS X W (.Return (some e) pos) (dRet f) := ps_imp (ps_ret he) fun E σ H h => by
  obtain ⟨ι, ρ, m, e, M, q⟩ := h
  exact ⟨ι, ρ, m, e, M, fin_goes' e q fun ι1 m1 H1 d S1 M1 e1 q1 v rv => q1 ι1 H1 v (Step.refl _ _ _) M1 rv⟩
def dRetN : DSt := fun _ m => .rt .non m
theorem ds_retN : DS X W (.Return none pos) dRetN := ps_imp ps_retN fun E σ H h => by
  obtain ⟨ι, ρ, m, e, M, q⟩ := h
  exact q ι H _ (Step.refl _ _ _) M rfl
def dIfS (t : DFb) (g h : DSt) : DSt := fun ρ m => (t ρ m).goes ρ fun b m1 => if b = true then g ρ m1 else h ρ m1
theorem ds_if {c : Expr} {a b : List Stmt} {t : DFb} (hc : DT X W c t) (ha : DSs X W a g) (hb : DSs X W b g') : DS X W (.If c a b pos) (dIfS t g g') := ps_imp (ps_if hc ha hb) fun E σ H h => by
  obtain ⟨ι, ρ, m, e, M, q⟩ := h
  refine ⟨ι, ρ, m, e, M, fin_goes' e q fun ι1 m1 H1 c S1 M1 e1 q1 => ?_⟩
  cases c with
  | true => exact ⟨ι1, ρ, m1, e1, M1, q1⟩
  | false => exact ⟨ι1, ρ, m1, e1, M1, q1⟩
/-- what is never come to -/
def dStk : DSt := fun _ _ => .stk
theorem ds_never : DS X W st dStk := ps_imp ps_never fun E σ H h => by
  obtain ⟨ι, ρ, m, e, M, q⟩ := h
  exact q.elim

/-! ### targets -/
/-- g's wish, by γ; sl: the slots that it stores -/
def GOk (K : PySem.W.Frag) (w : World) (mg : Str → Option Value) (W : WX) (g : TG) (γ : D → En → Mem → R En) (sl : List Nat) : Prop :=
  ∀ (σ : L2.St) (ι : Nat → Addr) (ρ : En) (m : Mem) (H : Hp) (d : D) (v : V) (Q : L2.St → Hp → Prop), RelE K ι m.length H ρ σ → RelM K w ι m H → Rep K ι m.length H d v →
    fin K w mg W σ ι m.length H (fun ι' m' H' ρ' => ∀ σ', RelE K ι' m'.length H' ρ' σ' → (∀ js : List Nat, (∀ i ∈ sl, i ∈ js) → wipe σ' js = wipe σ js) → Q σ' H') (γ d ρ m) → g v σ H Q
theorem wipe_set {i : Nat} {x : Option V} : ∀ {js : List Nat} (σ : L2.St), i ∈ js → wipe (σ.set i x) js = wipe σ js
  | [], _, h => by cases h
  | j :: js, σ, h => by
    show (wipe (σ.set i x) js).set j none = (wipe σ js).set j none
    by_cases hj : i ∈ js
    · rw [wipe_set σ hj]
    · have e : i = j := (List.mem_cons.mp h).resolve_right hj
      subst e
      have key : ∀ (ks : List Nat) (τ : L2.St), i ∉ ks → wipe (τ.set i x) ks = (wipe τ ks).set i x := by
        intro ks
        induction ks with
        | nil => intro τ _; rfl
        | cons k ks ih =>
          intro τ hk
          have h1 : i ≠ k := fun z => hk (by rw [z]; exact List.mem_cons_self)
          show (wipe (τ.set i x) ks).set k none = ((wipe τ ks).set k none).set i x
          rw [ih τ (fun z => hk (List.mem_cons_of_mem _ z)), List.set_comm _ _ h1]
      rw [key js σ hj, List.set_set]
def γName (i : Nat) : D → En → Mem → R En := fun d ρ m => .ok (ρ.set i (some d)) m
theorem gok_name (i : Nat) : GOk K w mg W (gName i) (γName i) [i] := fun σ ι ρ m H d v Q e M r q =>
  fin_now q M (σ.set i (some v)) (e.set r i) fun js hj => wipe_set σ (hj i (by simp))
abbrev γs := List D → En → Mem → R En
def GsOk (K : PySem.W.Frag) (w : World) (mg : Str → Option Value) (W : WX) (g : TGs) (γ : γs) (sl : List Nat) : Prop :=
  ∀ (σ : L2.St) (ι : Nat → Addr) (ρ : En) (m : Mem) (H : Hp) (ds : List D) (vs : List V) (Q : L2.St → Hp → Prop), RelE K ι m.length H ρ σ → RelM K w ι m H → Reps K ι m.length H ds vs →
    fin K w mg W σ ι m.length H (fun ι' m' H' ρ' => ∀ σ', RelE K ι' m'.length H' ρ' σ' → (∀ js : List Nat, (∀ i ∈ sl, i ∈ js) → wipe σ' js = wipe σ js) → Q σ' H') (γ ds ρ m) → g vs σ H Q
def γNil : γs := fun ds ρ m => match ds with
  | [] => .ok ρ m
  | _ :: _ => .stk
def γCons (γ : D → En → Mem → R En) (δ : γs) : γs := fun ds ρ m => match ds with
  | [] => .stk
  | d :: r => (γ d ρ m).bind fun ρ1 m1 => δ r ρ1 m1
theorem gok_nil : GsOk K w mg W gNil γNil [] := fun σ ι ρ m H ds vs Q e M r q => by
  cases ds with
  | nil =>
    obtain rfl : vs = [] := r
    exact ⟨rfl, fin_now q M σ e fun _ _ => rfl⟩
  | cons d ds => exact q.elim
theorem gok_cons {g : TG} {gs : TGs} {γ : D → En → Mem → R En} {δ : γs} {sl sl' : List Nat} (h : GOk K w mg (fun _ _ _ _ => False) g γ sl) (hs : GsOk K w mg (fun _ _ _ _ => False) gs δ sl') : GsOk K w mg (fun _ _ _ _ => False) (gCons g gs) (γCons γ δ) (sl ++ sl') :=
  fun σ ι ρ m H ds vs Q e M r q => by
  cases ds with
  | nil => exact q.elim
  | cons d ds =>
    obtain ⟨v, vr, rfl, r1, r2⟩ := r
    refine ⟨v, vr, rfl, h σ ι ρ m H d v _ e M r1 ?_⟩
    refine fin_then (β := En) q fun ι1 m1 H1 ρ1 S1 M1 q1 σ1 e1 w1 => ?_
    refine hs σ1 ι1 ρ1 m1 H1 ds vr Q e1 M1 (Reps.step S1 _ _ r2) ?_
    have q2 : fin K w mg (fun _ _ _ _ => False) σ1 ι1 m1.length H1 (fun ι' m' H' ρ' => ∀ σ', RelE K ι' m'.length H' ρ' σ' → (∀ js : List Nat, (∀ i ∈ sl ++ sl', i ∈ js) → wipe σ' js = wipe σ js) → Q σ' H') (δ ds ρ1 m1) := by
      cases hr : δ ds ρ1 m1 with
      | ok a m2 => rw [hr] at q1; exact q1
      | exn c fs m2 => rw [hr] at q1; exact q1
      | stk => rw [hr] at q1; exact q1
    exact fin_imp q2 fun ι2 m2 H2 ρ2 _ S2 M2 q3 σ2 e2 w2 => q3 σ2 e2 fun js hj => (w2 js fun i hi => hj i (List.mem_append_right _ hi)).trans (w1 js fun i hi => hj i (List.mem_append_left _ hi))
def γTup (n : Nat) (δ : γs) : D → En → Mem → R En := fun d ρ m => match d with
  | .tup ds => if ds.length = n then δ ds ρ m else .stk
  | _ => .stk
theorem gok_tup {gs : TGs} {δ : γs} {sl : List Nat} (n : Nat) (hs : GsOk K w mg W gs δ sl) : GOk K w mg W (gTup K n gs) (γTup n δ) sl := fun σ ι ρ m H d v Q e M r q => by
  cases d with
  | tup ds =>
    obtain ⟨a, vs, rfl, ht, rs⟩ := r
    by_cases hn : ds.length = n
    · have q' : fin K w mg W σ ι m.length H _ (if ds.length = n then δ ds ρ m else .stk) := q
      rw [if_pos hn] at q'
      exact ⟨a, vs, rfl, ht.sq, by rw [rs.length]; exact hn, hs σ ι ρ m H ds vs Q e M rs q'⟩
    · have q' : fin K w mg W σ ι m.length H _ (if ds.length = n then δ ds ρ m else .stk) := q
      rw [if_neg hn] at q'
      exact q'.elim
  | _ => exact q.elim

/-! ### assignments -/
def dSet (i : Nat) (f : DF) : DSt := fun ρ m => (f ρ m).goes ρ fun d m1 => .nx (ρ.set i (some d)) m1
theorem ds_set {i : Nat} {x : Str} {pos' : Pos} (hN : X.N.Nodup) (hi : X.N[i]? = some x) (hx : Loc X.env.scope x) (he : DE X W e f) (hs : swapsWith e (some (.Name x pos')) pos.line X.env = pure false := by rfl) (hf : X.fn x = true ∨ X.env.scope.names.lookup x = some .local := by first | exact .inl rfl | exact .inr rfl | assumption) :
    DS X W (.Assign [.Name x pos'] e pos) (dSet i f) := ps_imp (ps_set hN hi hx he hs hf) fun E σ H h => by
  obtain ⟨ι, ρ, m, e, M, q⟩ := h
  exact ⟨ι, ρ, m, e, M, fin_goes' e q fun ι1 m1 H1 d S1 M1 e1 q1 v rv => finS_nx q1 M1 (e1.set rv i)⟩
abbrev W0 : WX := fun _ _ _ _ => False
/-- target = e -/
def dAsg (f : DF) (γ : D → En → Mem → R En) : DSt := fun ρ m => (f ρ m).goes ρ fun d m1 => (γ d ρ m1).only fun ρ1 m2 => .nx ρ1 m2
theorem fin_only {post : (Nat → Addr) → Mem → Hp → α → Prop} {r : R α} {E : Ends} {k : α → Mem → O} (h : finS K w mg W ι n H E (r.only k))
    (i : ∀ ι' m' H' a, Step ι n H ι' m'.length H' → RelM K w ι' m' H' → finS K w mg W ι' m'.length H' E (k a m') → post ι' m' H' a) : fin K w mg W0 σ ι n H post r := by
  cases r with
  | ok a m => exact fun ι2 H2 S2 M => i ι2 m H2 a S2 M (finS_step h S2)
  | exn c fs m => exact h.elim
  | stk => exact h.elim
theorem ds_asg {tg : Expr} {t : TG} {γ : D → En → Mem → R En} {sl : List Nat} (he : DE X W e f) (hg : PG X tg t) (gk : GOk X.K X.w X.mg W0 t γ sl) (hs : swapsWithSole [tg] e pos.line X.env = pure false := by rfl) (hw : swappedStores [tg] e X.env = pure none := by rfl)
    (h1 : (assignEach [tg] X.env).map (·.2) = [assign tg X.env] := by rfl) : DS X W (.Assign [tg] e pos) (dAsg f γ) := ps_imp (ps_asg he hg hs hw h1) fun E σ H h => by
  obtain ⟨ι, ρ, m, e, M, q⟩ := h
  refine ⟨ι, ρ, m, e, M, fin_goes' e q fun ι1 m1 H1 d S1 M1 e1 q1 v rv => ?_⟩
  refine gk σ ι1 ρ m1 H1 d v _ e1 M1 rv (fin_only q1 fun ι2 m2 H2 ρ2 S2 M2 q2 σ2 e2 _ => finS_nx q2 M2 e2)
/-- a, b = x, y -/
def dPar (i j : Nat) (fs : DFs) : DSt := fun ρ m => (fs ρ m).goes ρ fun ds m1 => match ds with
  | [d, e] => .nx ((ρ.set i (some d)).set j (some e)) m1
  | _ => .stk
theorem ds_par {i j : Nat} {x y : Str} {a b : Expr} {fs : DFs} {px py pt : Pos} {kt k2 pt2} (hc : X.calm = true) (hN : X.N.Nodup) (hi : X.N[i]? = some x) (hj : X.N[j]? = some y) (hij : i ≠ j)
    (hx : X.env.scope.names.lookup x = some .local) (hy : X.env.scope.names.lookup y = some .local) (ha : DA X W [a, b] fs)
    (hw : swappedStores [.Tuple [.Name x px, .Name y py] kt pt] (.Tuple [a, b] k2 pt2) X.env = pure (some [x, y]))
    (hs : swapsWithSole [.Tuple [.Name x px, .Name y py] kt pt] (.Tuple [a, b] k2 pt2) pos.line X.env = pure false := by rfl) :
    DS X W (.Assign [.Tuple [.Name x px, .Name y py] kt pt] (.Tuple [a, b] k2 pt2) pos) (dPar i j fs) := ps_imp (ps_par hc hN hi hj hij hx hy ha hw hs) fun E σ H h => by
  obtain ⟨ι, ρ, m, e, M, q⟩ := h
  refine ⟨ι, ρ, m, e, M, fin_goes' e q fun ι1 m1 H1 ds S1 M1 e1 q1 vs rv => ?_⟩
  match ds, rv, q1 with
  | [], _, q1 => exact q1.elim
  | [_], _, q1 => exact q1.elim
  | _ :: _ :: _ :: _, _, q1 => exact q1.elim
  | [d, e], rv, q1 =>
    obtain ⟨v, r1, rfl, h1, v2, r2, rfl, h2, h3⟩ := rv
    obtain rfl : r2 = [] := h3
    exact ⟨v, v2, rfl, finS_nx q1 M1 ((e1.set h1 i).set h2 j)⟩
/-- o[i] = e -/
abbrev O3 := D → D → D → Mem → R Unit
def DSetR (K : PySem.W.Frag) (w : World) (mg : Str → Option Value) (W : WX) (t : TSet) (op : O3) : Prop :=
  ∀ (σ : L2.St) (ι : Nat → Addr) (m : Mem) (H : Hp) (o i v : V) (do_ di dv : D) (Q : Hp → Prop), RelM K w ι m H → Rep K ι m.length H do_ o → Rep K ι m.length H di i → Rep K ι m.length H dv v → fin K w mg W σ ι m.length H (fun _ _ H' _ => Q H') (op do_ di dv m) → t o i v H Q
def dSub (f fo fi : DF) (op : O3) : DSt := fun ρ m => (f ρ m).goes ρ fun d m1 => (fo ρ m1).goes ρ fun o m2 => (fi ρ m2).goes ρ fun i m3 => (op o i d m3).goes ρ fun _ m4 => .nx ρ m4
theorem ds_sub {o i : Expr} {tpos : Pos} {fo fi : DF} {t : TSet} {op : O3} (he : DE X W e f) (ho : DE X W o fo) (hi : DE X W i fi) (hs : PSet X t) (hd : DSetR X.K X.w X.mg W t op)
    (ha : ∀ v, assign (.Subscript o i tpos) X.env v = (do
      let ov ← holding [v] (eval o X.env)
      let iv ← holding [v, ov] (eval i X.env)
      standAt tpos
      holding [v, ov, iv] (setItem ov iv v)
      release [v, ov, iv] []) := by intro _; rfl)
    (h1 : swapsWithSole [.Subscript o i tpos] e pos.line X.env = pure false := by rfl) (h2 : swappedStores [.Subscript o i tpos] e X.env = pure none := by rfl)
    (h3 : (assignEach [.Subscript o i tpos] X.env).map (·.2) = [assign (.Subscript o i tpos) X.env] := by rfl) : DS X W (.Assign [.Subscript o i tpos] e pos) (dSub f fo fi op) := ps_imp (ps_asg he (pg_sub ho hi hs ha) h1 h2 h3) fun E σ H h => by
  obtain ⟨ι, ρ, m, e, M, q⟩ := h
  refine ⟨ι, ρ, m, e, M, fin_goes' e q fun ι1 m1 H1 d S1 M1 e1 q1 v rv => ?_⟩
  refine ⟨ι1, ρ, m1, e1, M1, fin_goes' e1 q1 fun ι2 m2 H2 dO S2 M2 e2 q2 ov ro => ?_⟩
  refine ⟨ι2, ρ, m2, e2, M2, fin_goes' e2 q2 fun ι3 m3 H3 dI S3 M3 e3 q3 iv ri => ?_⟩
  refine hd σ ι3 m3 H3 ov iv v dO dI d _ M3 (ro.step S3) ri (rv.step (S2.trans S3)) ?_
  exact fin_goes' e3 q3 fun ι4 m4 H4 _ S4 M4 e4 q4 => finS_nx q4 M4 e4
/-- x op= e -/
def DIp (K : PySem.W.Frag) (w : World) (mg : Str → Option Value) (W : WX) (t : TIp) (op : O2) : Prop :=
  ∀ (σ : L2.St) (ι : Nat → Addr) (m : Mem) (H : Hp) (x y : V) (d e : D) (Q : VK), RelM K w ι m H → Rep K ι m.length H d x → Rep K ι m.length H e y → fin K w mg W σ ι m.length H (pV K Q) (op d e m) → t x y H Q
def dAug (i : Nat) (f : DF) (op : O2) : DSt := fun ρ m => match ρ[i]? with
  | some (some d) => (f ρ m).goes ρ fun e m1 => (op d e m1).goes ρ fun r m2 => .nx (ρ.set i (some r)) m2
  | _ => .stk
theorem ds_aug {i : Nat} {x : Str} {op : Operator} {t : TIp} {o : O2} {pos' : Pos} (hN : X.N.Nodup) (hi : X.N[i]? = some x) (hx : Loc X.env.scope x) (he : DE X W e f) (ho : PIp X op t) (hd : DIp X.K X.w X.mg W t o)
    (hf : X.fn x = true ∨ X.env.scope.names.lookup x = some .local := by first | exact .inl rfl | exact .inr rfl | assumption) : DS X W (.AugAssign (.Name x pos') op e pos) (dAug i f o) := ps_imp (ps_aug hN hi hx he ho hf) fun E σ H h => by
  obtain ⟨ι, ρ, m, e, M, q⟩ := h
  unfold dAug at q
  cases h1 : ρ[i]? with
  | none => rw [h1] at q; exact q.elim
  | some oo =>
    cases oo with
    | none => rw [h1] at q; exact q.elim
    | some d =>
      rw [h1] at q
      obtain ⟨v, h2, rv⟩ := e.2 i d h1
      refine ⟨v, h2, ι, ρ, m, e, M, fin_goes' e q fun ι1 m1 H1 d2 S1 M1 e1 q1 u ru => ?_⟩
      refine hd σ ι1 m1 H1 v u d d2 _ M1 (rv.step S1) ru (fin_goes' e1 q1 fun ι2 m2 H2 d3 S2 M2 e2 q2 z rz => ?_)
      exact finS_nx q2 M2 (e2.set rz i)

/-! ### while -/
def whileF (c : DFb) (b : DSt) : Nat → DSt
  | 0, _, _ => .stk
  | k + 1, ρ, m => (c ρ m).goes ρ fun t m1 => if t = true then (b ρ m1).turn (whileF c b k) else .nx ρ m1
def FUEL : Nat := 1000000000
def dWhile (c : DFb) (b : DSt) : DSt := whileF c b FUEL
theorem ds_while {c : Expr} {body : List Stmt} {t : DFb} (hp : PassesOwn (model X.prog X.w) X.A X.env X.xe) (hc : DT X W c t) (hb : DSs X W body g) : DS X W (.While c body [] pos) (dWhile t g) := ps_imp (ps_while hp hc hb) fun E σ H h => by
  obtain ⟨ι, ρ, m, e, M, q⟩ := h
  refine ⟨fun k σ H => ∃ ι ρ m, RelE X.K ι m.length H ρ σ ∧ RelM X.K X.w ι m H ∧ finS X.K X.w X.mg W ι m.length H E (whileF t g k ρ m), ⟨FUEL, ι, ρ, m, e, M, q⟩, ?_⟩
  rintro k σ H ⟨ι, ρ, m, e, M, q⟩
  cases k with
  | zero => exact q.elim
  | succ k =>
    refine ⟨ι, ρ, m, e, M, fin_goes' e q fun ι1 m1 H1 b S1 M1 e1 q1 => ?_⟩
    cases b with
    | false => exact finS_nx (show finS X.K X.w X.mg W ι1 m1.length H1 E (.nx ρ m1) from q1) M1 e1
    | true =>
      refine ⟨fun σ' H' => ∃ ι ρ m, RelE X.K ι m.length H' ρ σ' ∧ RelM X.K X.w ι m H' ∧ finS X.K X.w X.mg W ι m.length H' E (whileF t g k ρ m), fun σ' H' hn => ⟨k, Nat.lt_succ_self k, hn⟩, ι1, ρ, m1, e1, M1, ?_⟩
      have q2 : finS X.K X.w X.mg W ι1 m1.length H1 E ((g ρ m1).turn (whileF t g k)) := q1
      cases hg : g ρ m1 with
      | nx ρ2 m2 => rw [hg] at q2; exact fun ι3 H3 σ3 S3 M3 e3 => ⟨ι3, ρ2, m2, e3, M3, finS_step q2 S3⟩
      | ct ρ2 m2 => rw [hg] at q2; exact fun ι3 H3 σ3 S3 M3 e3 => ⟨ι3, ρ2, m2, e3, M3, finS_step q2 S3⟩
      | bk ρ2 m2 => rw [hg] at q2; exact q2
      | rt d m2 => rw [hg] at q2; exact q2
      | exn c fs ρ2 m2 => rw [hg] at q2; exact q2
      | stk => rw [hg] at q2; exact q2

/-! ### what is walked -/
/-- the items, and what must stay as it is meanwhile -/
structure Src where
  items : List D
  lk : Option (Nat × MO)
def Src.ok (s : Src) (m : Mem) : Bool := match s.lk with
  | none => true
  | some (l, o) => decide (m[l]? = some o)
/-- an iterator of these items -/
structure ItR (K : PySem.W.Frag) (w : World) (ι : Nat → Addr) (n : Nat) (H : Hp) (J : It) (s : Src) : Prop where
  go : ∀ ι1 m1 H1 i d, Step ι n H ι1 m1.length H1 → RelM K w ι1 m1 H1 → s.ok m1 = true → s.items[i]? = some d → J.go i H1
  yld : ∀ ι1 m1 H1 i d x H', Step ι n H ι1 m1.length H1 → RelM K w ι1 m1 H1 → s.ok m1 = true → s.items[i]? = some d → J.yld i H1 x H' →
    Step ι1 m1.length H1 ι1 m1.length H' ∧ RelM K w ι1 m1 H' ∧ Rep K ι1 m1.length H' d x
  stop : ∀ ι1 m1 H1, Step ι n H ι1 m1.length H1 → RelM K w ι1 m1 H1 → s.ok m1 = true → J.stop s.items.length H1
abbrev DFi := En → Mem → R Src
def rdI (K : PySem.W.Frag) (w : World) (mg : Str → Option Value) (W : WX) (φ : DFi) : TI := fun σ H Rr => ∃ ι ρ m, RelE K ι m.length H ρ σ ∧ RelM K w ι m H ∧
  fin K w mg W σ ι m.length H (fun ι' m' H' s => ∀ J, ItR K w ι' m'.length H' J s → Rr J H') (φ ρ m)
def DI (X : Cx) (W : WX) (tg iter : Expr) (φ : DFi) : Prop := PI X tg iter (rdI X.K X.w X.mg W φ)
theorem pi_imp {tg iter : Expr} {t t' : TI} (h : PI X tg iter t) (i : ∀ σ H Q, t' σ H Q → t σ H Q) : PI X tg iter t' := ⟨fun pins s σ H Q I hq => h.run pins s σ H Q I (i σ H Q hq)⟩
def forF (s : Src) (γ : D → En → Mem → R En) (b : DSt) : List D → DSt
  | [], ρ, m => if s.ok m = true then .nx ρ m else .stk
  | d :: ds, ρ, m => if s.ok m = true then (γ d ρ m).only fun ρ1 m1 => (b ρ1 m1).turn (forF s γ b ds) else .stk
def dFor (φ : DFi) (γ : D → En → Mem → R En) (b : DSt) : DSt := fun ρ m => (φ ρ m).goes ρ fun s m1 => forF s γ b s.items ρ m1
theorem ds_for {tg iter : Expr} {body : List Stmt} {t : TG} {φ : DFi} {γ : D → En → Mem → R En} {sl : List Nat} (hp : PassesOwn (model X.prog X.w) X.A X.env X.xe) (hc : X.calm = true) (hi : DI X W tg iter φ) (hg : PG X tg t) (gk : GOk X.K X.w X.mg W0 t γ sl) (hb : DSs X W body g)
    (hs : ∀ x, foldedSetIterable iter X.env x = pure x := by intro _; rfl) : DS X W (.For tg iter body [] pos) (dFor φ γ g) := ps_imp (ps_for hp hc hi hg hb hs) fun E σ H h => by
  obtain ⟨ι, ρ, m, e, M, q⟩ := h
  refine ⟨ι, ρ, m, e, M, fin_goes' e q fun ι0 m0 H0 s S0 M0 e0 q0 J hJ => ?_⟩
  refine ⟨fun i k σ H => ∃ ι1 ρ1 m1, Step ι0 m0.length H0 ι1 m1.length H ∧ RelE X.K ι1 m1.length H ρ1 σ ∧ RelM X.K X.w ι1 m1 H ∧ i + k = s.items.length ∧ finS X.K X.w X.mg W ι1 m1.length H E (forF s γ g (s.items.drop i) ρ1 m1),
    ⟨s.items.length, ι0, ρ, m0, Step.refl _ _ _, e0, M0, by omega, q0⟩, ?_⟩
  rintro i k σ1 H1 ⟨ι1, ρ1, m1, S1, e1, M1, hk, q1⟩
  by_cases hi : i < s.items.length
  · rw [List.drop_eq_getElem_cons hi] at q1
    have hd : s.items[i]? = some s.items[i] := List.getElem?_eq_getElem hi
    generalize s.items[i] = d at q1 hd
    cases hok : s.ok m1 with
    | false =>
      unfold forF at q1
      rw [hok] at q1
      exact q1.elim
    | true =>
      unfold forF at q1
      rw [hok, if_pos rfl] at q1
      refine .inr ⟨hJ.go ι1 m1 H1 i d S1 M1 hok hd, fun σ' H' => ∃ ι2 ρ2 m2, Step ι0 m0.length H0 ι2 m2.length H' ∧ RelE X.K ι2 m2.length H' ρ2 σ' ∧ RelM X.K X.w ι2 m2 H' ∧ finS X.K X.w X.mg W ι2 m2.length H' E (forF s γ g (s.items.drop (i + 1)) ρ2 m2),
        fun σ' H' ⟨ι2, ρ2, m2, S2, e2, M2, q2⟩ => ⟨k - 1, by omega, ι2, ρ2, m2, S2, e2, M2, by omega, q2⟩, fun x H' y => ?_⟩
      obtain ⟨S2, M2, r2⟩ := hJ.yld ι1 m1 H1 i d x H' S1 M1 hok hd y
      have q2 := finS_step q1 S2
      refine gk σ1 ι1 ρ1 m1 H' d x _ (e1.step S2) M2 r2 (fin_only (k := fun ρ1 m1 => (g ρ1 m1).turn (forF s γ g (s.items.drop (i + 1)))) q2 fun ι3 m3 H3 ρ3 S3 M3 q3 σ3 e3 _ => ?_)
      have S4 := (S1.trans S2).trans S3
      refine ⟨ι3, ρ3, m3, e3, M3, ?_⟩
      cases hg : g ρ3 m3 with
      | nx ρ2 m2 => rw [hg] at q3; exact fun ι5 H5 σ5 S5 M5 e5 => ⟨ι5, ρ2, m2, S4.trans S5, e5, M5, finS_step q3 S5⟩
      | ct ρ2 m2 => rw [hg] at q3; exact fun ι5 H5 σ5 S5 M5 e5 => ⟨ι5, ρ2, m2, S4.trans S5, e5, M5, finS_step q3 S5⟩
      | bk ρ2 m2 => rw [hg] at q3; exact q3
      | rt d m2 => rw [hg] at q3; exact q3
      | exn c fs ρ2 m2 => rw [hg] at q3; exact q3
      | stk => rw [hg] at q3; exact q3
  · have hi2 : i = s.items.length := by omega
    subst hi2
    rw [List.drop_length] at q1
    cases hok : s.ok m1 with
    | false =>
      unfold forF at q1
      rw [hok] at q1
      exact q1.elim
    | true =>
      unfold forF at q1
      rw [hok, if_pos rfl] at q1
      exact .inl ⟨hJ.stop ι1 m1 H1 S1 M1 hok, finS_nx q1 M1 e1⟩
end
end DL
/-! The D layer: comprehensions, calls, defs. -/
namespace DL
open PySem PySem.Spec L2

/-- an answer, nothing raised -/
def R.bnd {α β : Type} (r : R α) (f : α → Mem → R β) : R β := match r with
  | .ok a m => f a m
  | _ => .stk
theorem R.bnd_ok {α β : Type} (a : α) (m : Mem) (f : α → Mem → R β) : (R.ok a m).bnd f = f a m := rfl
def wipeD (ρ : En) : List Nat → En
  | [] => ρ
  | v :: vs => (wipeD ρ vs).set v none
def lcF (l : Nat) (s : Src) (γ : D → En → Mem → R En) (t : DFb) (f : DF) (ρw : En) : List D → Mem → R Unit
  | [], m => if s.ok m = true then .ok () m else .stk
  | d :: ds, m => if s.ok m = true then (γ d ρw m).bnd fun ρ1 m1 => (t ρ1 m1).bnd fun b m2 => if b = true then (f ρ1 m2).bnd fun y m3 => (match m3[l]? with
      | some (.lst acc) => if acc.length < sizeLine then lcF l s γ t f ρw ds (m3.set l (.lst (acc ++ [y]))) else .stk
      | _ => .stk) else lcF l s γ t f ρw ds m2 else .stk
/-- [f for γ in φ if t] -/
def dLc (φ : DFi) (γ : D → En → Mem → R En) (t : DFb) (f : DF) (vs : List Nat) : DF := fun ρ m => (φ ρ m).bind fun s m1 => (lcF m1.length s γ t f (wipeD ρ vs) s.items (m1 ++ [.lst []])).bnd fun _ m2 => .ok (.ref m1.length) m2
def dYes : DFb := fun _ m => .ok true m
/-- the second clause's walk -/
def lc2F (l : Nat) (s : Src) (γ : D → En → Mem → R En) (t : DFb) (φ1 : DFi) (γ1 : D → En → Mem → R En) (t1 : DFb) (f : DF) (vs1 : List Nat) (ρw : En) : List D → Mem → R Unit
  | [], m => if s.ok m = true then .ok () m else .stk
  | d :: ds, m => if s.ok m = true then (γ d ρw m).bnd fun ρ1 m1 => (t ρ1 m1).bnd fun b m2 => if b = true then (φ1 ρ1 m2).bnd fun s1 m3 => (lcF l s1 γ1 t1 f (wipeD ρ1 vs1) s1.items m3).bnd fun _ m4 => lc2F l s γ t φ1 γ1 t1 f vs1 ρw ds m4
      else lc2F l s γ t φ1 γ1 t1 f vs1 ρw ds m2 else .stk
def dLc2 (φ : DFi) (γ : D → En → Mem → R En) (t : DFb) (φ1 : DFi) (γ1 : D → En → Mem → R En) (t1 : DFb) (f : DF) (vs vs1 : List Nat) : DF := fun ρ m => (φ ρ m).bind fun s m1 =>
  (lc2F m1.length s γ t φ1 γ1 t1 f vs1 (wipeD ρ vs) s.items (m1 ++ [.lst []])).bnd fun _ m2 => .ok (.ref m1.length) m2

section
variable {X : Cx} {K : PySem.W.Frag} {w : World} {mg : Str → Option Value} {W : WX} {σ σ' : L2.St} {ι ι' : Nat → Addr} {n n' : Nat} {H H' : Hp} {α β : Type}
theorem fin_bnd {post : (Nat → Addr) → Mem → Hp → β → Prop} {r : R α} {g : α → Mem → R β} (h : fin K w mg W σ ι n H post (r.bnd g)) :
    fin K w mg W0 σ' ι n H (fun ι' m' H' a => fin K w mg W σ ι' m'.length H' post (g a m')) r := by
  cases r with
  | ok a m => exact fun ι2 H2 S2 M => fin_step (show fin K w mg W σ ι n H post (g a m) from h) S2
  | exn c fs m => exact h.elim
  | stk => exact h.elim
theorem fin_bnd' {post : (Nat → Addr) → Mem → Hp → β → Prop} {post' : (Nat → Addr) → Mem → Hp → α → Prop} {r : R α} {g : α → Mem → R β} (h : fin K w mg W σ ι n H post (r.bnd g))
    (i : ∀ ι' m' H' a, Step ι n H ι' m'.length H' → RelM K w ι' m' H' → fin K w mg W σ ι' m'.length H' post (g a m') → post' ι' m' H' a) : fin K w mg W0 σ' ι n H post' r :=
  fin_imp (fin_bnd h) fun ι' m' H' a _ S M q => i ι' m' H' a S M q
theorem wipe_idem (σ : L2.St) : ∀ js : List Nat, wipe (wipe σ js) js = wipe σ js := by
  have out : ∀ (js : List Nat) (τ : L2.St), (∀ i, i ∈ js → i < τ.length → τ[i]? = some none) → wipe τ js = τ := by
    intro js
    induction js with
    | nil => intro τ _; rfl
    | cons j js ih =>
      intro τ h
      show (wipe τ js).set j none = τ
      rw [ih τ fun i hi => h i (List.mem_cons_of_mem _ hi)]
      apply List.ext_getElem?
      intro i
      by_cases hij : j = i
      · subst hij
        by_cases hl : j < τ.length
        · rw [List.getElem?_set_self hl, h j List.mem_cons_self hl]
        · rw [List.getElem?_eq_none (by rw [List.length_set]; omega), List.getElem?_eq_none (by omega)]
      · rw [List.getElem?_set_ne hij]
  have ins : ∀ (js : List Nat) (i : Nat), i ∈ js → i < (wipe σ js).length → (wipe σ js)[i]? = some none := by
    intro js
    induction js with
    | nil => intro i hi; cases hi
    | cons j js ih =>
      intro i hi hl
      have hl' : i < (wipe σ js).length := by rw [wipe_length] at hl ⊢; exact hl
      show ((wipe σ js).set j none)[i]? = some none
      by_cases hij : j = i
      · subst hij
        rw [List.getElem?_set_self hl']
      · rw [List.getElem?_set_ne hij]
        exact ih i ((List.mem_cons.mp hi).resolve_left fun e => hij e.symm) hl'
  exact fun js => out js _ fun i hi hl => ins js i hi hl
theorem RelE.wipe {ρ : En} (h : RelE K ι n H ρ σ) : ∀ js : List Nat, RelE K ι n H (wipeD ρ js) (L2.wipe σ js)
  | [] => h
  | j :: js => by
    have r := RelE.wipe h js
    show RelE K ι n H ((wipeD ρ js).set j none) ((L2.wipe σ js).set j none)
    refine ⟨by rw [List.length_set, List.length_set]; exact r.1, fun i d e => ?_⟩
    by_cases hij : j = i
    · subst hij
      by_cases hl : j < (wipeD ρ js).length
      · rw [List.getElem?_set_self hl] at e; cases e
      · rw [List.getElem?_eq_none (by rw [List.length_set]; omega)] at e; cases e
    · rw [List.getElem?_set_ne hij] at e ⊢
      exact r.2 i d e
/-- the list at l gets one more -/
theorem rel_app {m : Mem} {l : Nat} {acc : List D} {y : D} {v : V} (M : RelM K w ι m H) (h : m[l]? = some (.lst acc)) (r : Rep K ι m.length H y v) :
    ∃ vs, H (ι l) = some (.lst vs) ∧ vs.length = acc.length ∧ Step ι m.length H ι (m.set l (.lst (acc ++ [y]))).length (upd H (ι l) (.lst (vs ++ [v]))) ∧ RelM K w ι (m.set l (.lst (acc ++ [y]))) (upd H (ι l) (.lst (vs ++ [v]))) := by
  obtain ⟨vs, h1, h2⟩ := M.obj l _ h
  have S := Step.wr (ho := .lst (vs ++ [v])) M h rfl
  refine ⟨vs, h1, h2.length, by rw [List.length_set]; exact S, M.wr h rfl rfl ⟨_, upd_same, ?_⟩⟩
  exact (Reps.step S _ _ h2).append (Reps.cons (r.step S) Reps.nil)
theorem lcF_nil {l : Nat} {s : Src} {γ : D → En → Mem → R En} {t : DFb} {f : DF} {ρw : En} {m : Mem} : lcF l s γ t f ρw [] m = if s.ok m = true then .ok () m else .stk := rfl

/-- one walk of a comprehension, its list at l: F what stands behind it -/
theorem lc_walk {l : Nat} {s : Src} {γ : D → En → Mem → R En} {t : DFb} {f : DF} {ρ : En} {js : List Nat} {σ1 σ0 : L2.St} {ι0 : Nat → Addr} {m0 : Mem} {H0 : Hp} {J : It} {g : TG} {tt : TT} {te : TE} {sl : List Nat} {post : (Nat → Addr) → Mem → Hp → Unit → Prop} {Nx : Hp → Prop} {De : Addr}
    (gk : GOk K w mg W0 g γ sl) (hsl : ∀ i ∈ sl, i ∈ js) (htt : ∀ σ H Q, rdT K w mg W0 t σ H Q → tt σ H Q) (hte : ∀ σ H Q, rdE K w mg W0 f σ H Q → te σ H Q) (hJ : ItR K w ι0 m0.length H0 J s) (e0 : RelE K ι0 m0.length H0 ρ σ1) (hl : l < m0.length) (hD : ι0 l = De)
    (M0 : RelM K w ι0 m0 H0) (q : fin K w mg W σ0 ι0 m0.length H0 post (lcF l s γ t f (wipeD ρ js) s.items m0)) (hp : ∀ ι' m' H', Step ι0 m0.length H0 ι' m'.length H' → RelM K w ι' m' H' → post ι' m' H' () → Nx H') :
    ∃ Wi : Nat → Nat → Hp → Prop, (∃ m, Wi 0 m H0) ∧ ∀ j k H, Wi j k H →
      (J.stop j H ∧ Nx H) ∨ (J.go j H ∧ ∃ Nx1 : Hp → Prop, (∀ H', Nx1 H' → ∃ k', k' < k ∧ Wi (j + 1) k' H') ∧ ∀ x H', J.yld j H x H' → g x (wipe σ1 js) H' fun σ3 H5 => wipe σ3 js = wipe σ1 js ∧ tt σ3 H5 fun b H6 =>
        if b = true then te σ3 H6 fun y H7 => ∃ acc, H7 De = some (.lst acc) ∧ acc.length < sizeLine ∧ Nx1 (upd H7 De (.lst (acc ++ [y]))) else Nx1 H6) := by
  refine ⟨fun i k H => ∃ ι1 m1, Step ι0 m0.length H0 ι1 m1.length H ∧ RelM K w ι1 m1 H ∧ i + k = s.items.length ∧ fin K w mg W σ0 ι1 m1.length H post (lcF l s γ t f (wipeD ρ js) (s.items.drop i) m1),
    ⟨s.items.length, ι0, m0, Step.refl _ _ _, M0, by omega, q⟩, ?_⟩
  rintro i k H1 ⟨ι1, m1, S1, M1, hk, q1⟩
  have e1 := e0.step S1
  by_cases hi : i < s.items.length
  · rw [List.drop_eq_getElem_cons hi] at q1
    have hd : s.items[i]? = some s.items[i] := List.getElem?_eq_getElem hi
    generalize s.items[i] = d at q1 hd
    cases hok : s.ok m1 with
    | false =>
      unfold lcF at q1
      rw [hok] at q1
      exact q1.elim
    | true =>
      unfold lcF at q1
      rw [hok, if_pos rfl] at q1
      refine .inr ⟨hJ.go ι1 m1 H1 i d S1 M1 hok hd, fun H' => ∃ ι2 m2, Step ι0 m0.length H0 ι2 m2.length H' ∧ RelM K w ι2 m2 H' ∧ fin K w mg W σ0 ι2 m2.length H' post (lcF l s γ t f (wipeD ρ js) (s.items.drop (i + 1)) m2),
        fun H' ⟨ι2, m2, S2, M2, q2⟩ => ⟨k - 1, by omega, ι2, m2, S2, M2, by omega, q2⟩, fun x H' y => ?_⟩
      obtain ⟨S2, M2, r2⟩ := hJ.yld ι1 m1 H1 i d x H' S1 M1 hok hd y
      refine gk (wipe σ1 js) ι1 (wipeD ρ js) m1 H' d x _ ((e1.step S2).wipe js) M2 r2 (fin_bnd' (fin_step q1 S2) fun ι3 m3 H3 ρ3 S3 M3 q3 σ3 e3 w3 => ?_)
      refine ⟨(w3 js hsl).trans (wipe_idem σ1 js), htt _ _ _ ⟨ι3, ρ3, m3, e3, M3, fin_bnd' q3 fun ι4 m4 H4 b S4 M4 q4 => ?_⟩⟩
      have T4 := ((S1.trans S2).trans S3).trans S4
      cases b with
      | false => exact ⟨ι4, m4, T4, M4, q4⟩
      | true =>
        refine hte _ _ _ ⟨ι4, ρ3, m4, e3.step S4, M4, fin_bnd' q4 fun ι5 m5 H5 yd S5 M5 q5 yv ry => ?_⟩
        have T5 := T4.trans S5
        cases hm : m5[l]? with
        | none => rw [hm] at q5; exact q5.elim
        | some o =>
          rw [hm] at q5
          cases o with
          | lst acc =>
            by_cases hz : acc.length < sizeLine
            · have q6 : fin K w mg W σ0 ι5 m5.length H5 post (if acc.length < sizeLine then lcF l s γ t f (wipeD ρ js) (s.items.drop (i + 1)) (m5.set l (.lst (acc ++ [yd]))) else .stk) := q5
              rw [if_pos hz] at q6
              obtain ⟨vs, h1, h2, h3, h4⟩ := rel_app M5 hm ry
              have hDe : ι5 l = De := (T5.ext l hl).trans hD
              rw [hDe] at h1 h3 h4
              exact ⟨vs, h1, by omega, ι5, _, T5.trans h3, h4, fin_step q6 h3⟩
            · have q6 : fin K w mg W σ0 ι5 m5.length H5 post (if acc.length < sizeLine then lcF l s γ t f (wipeD ρ js) (s.items.drop (i + 1)) (m5.set l (.lst (acc ++ [yd]))) else .stk) := q5
              rw [if_neg hz] at q6
              exact q6.elim
          | _ => exact q5.elim
  · have hi2 : i = s.items.length := by omega
    subst hi2
    rw [List.drop_length, lcF_nil] at q1
    cases hok : s.ok m1 with
    | false => rw [hok] at q1; exact q1.elim
    | true =>
      rw [hok, if_pos rfl] at q1
      exact .inl ⟨hJ.stop ι1 m1 H1 S1 M1 hok, hp ι1 m1 H1 S1 M1 (q1 ι1 H1 (Step.refl _ _ _) M1)⟩

/-- a comprehension's own tests -/
def DTs (X : Cx) (W : WX) (ifs : List Expr) (t : DFb) : Prop := PTs X ifs (rdT X.K X.w X.mg W t)
theorem pts_imp {ifs : List Expr} {t t' : TT} (h : PTs X ifs t) (i : ∀ σ H Q, t' σ H Q → t σ H Q) : PTs X ifs t' := ⟨fun pins s σ H Q I hq => h.run pins s σ H Q I (i σ H Q hq)⟩
theorem dts_nil : DTs X W [] dYes := pts_imp pts_nil fun σ H Q h => by
  obtain ⟨ι, ρ, m, e, M, q⟩ := h
  exact fin_nowB (b := true) (Q := Q) q M
theorem dts_one {c : Expr} {t : DFb} (h : DT X W c t) : DTs X W [c] t := pts_one h
theorem rd_lc {φ : DFi} {γ : D → En → Mem → R En} {t : DFb} {f : DF} {js : List Nat} {g : TG} {sl : List Nat} (gk : GOk K w mg W0 g γ sl) (hsl : ∀ i ∈ sl, i ∈ js) {Q : VK} (h : rdE K w mg W (dLc φ γ t f js) σ H Q) :
    tLc (rdI K w mg W φ) g (rdT K w mg W0 t) (rdE K w mg W0 f) js σ H Q := by
  obtain ⟨ι, ρ, m, e, M, q⟩ := h
  refine ⟨ι, ρ, m, e, M, fin_then q fun ι1 m1 H1 s S1 M1 q1 J hJ De hD => ?_⟩
  have hl : (m1 ++ [MO.lst []]).length = m1.length + 1 := by simp
  have S2 : Step ι1 m1.length H1 (more ι1 m1.length De) (m1 ++ [MO.lst []]).length (upd H1 De (.lst [])) := by rw [hl]; exact Step.new hD
  have M2 : RelM K w (more ι1 m1.length De) (m1 ++ [MO.lst []]) (upd H1 De (.lst [])) := M1.new hD ⟨[], upd_same, Reps.nil⟩
  have hJ2 : ItR K w (more ι1 m1.length De) (m1 ++ [MO.lst []]).length (upd H1 De (.lst [])) J s :=
    ⟨fun ι' m' H' i d S M o e => hJ.go ι' m' H' i d (S2.trans S) M o e, fun ι' m' H' i d x H'' S M o e y => hJ.yld ι' m' H' i d x H'' (S2.trans S) M o e y, fun ι' m' H' S M o => hJ.stop ι' m' H' (S2.trans S) M o⟩
  refine lc_walk (σ1 := σ) (ρ := ρ) (σ0 := σ) (W := W) gk hsl (fun _ _ _ z => z) (fun _ _ _ z => z) hJ2 ((e.step S1).step S2) (by rw [hl]; exact Nat.lt_succ_self _) more_new M2 (q := ?_) (post := fun ι' m' H' _ => fin K w mg W σ ι' m'.length H' (pV K Q) (.ok (.ref m1.length) m')) fun ι' m' H' S M z => ?_
  · have q2 := fin_step q1 S2
    cases hr : lcF m1.length s γ t f (wipeD ρ js) s.items (m1 ++ [MO.lst []]) with
    | ok a m3 => rw [hr] at q2; exact fun ι3 H3 S3 M3 => fin_step q2 S3
    | exn c fs m3 => rw [hr] at q2; exact q2.elim
    | stk => rw [hr] at q2; exact q2.elim
  · refine z ι' H' (Step.refl _ _ _) M (.ref De) ⟨?_, ?_⟩
    · have := S.le
      rw [hl] at this
      omega
    · rw [S.ext m1.length (by rw [hl]; exact Nat.lt_succ_self _), more_new]
theorem de_lc {elt tg iter : Expr} {ifs : List Expr} {scope : Scope} {own : List (Str × Nat)} {pos : Pos} {φ : DFi} {g : TG} {γ : D → En → Mem → R En} {sl : List Nat} {t : DFb} {f : DF} (hc : X.calm = true) (hN : X.N.Nodup) (hi : DI X W tg iter φ) (ok : BlkOk X.N X.env.scope scope own)
    (hg : ∀ (s : Shared) (H : Hp) (C : Addr) (cl : List (Str × Addr)) (fp : List Addr), PG (X.blk s H scope (compEnvC scope cl C X.env) fp) tg g) (gk : GOk X.K X.w X.mg W0 g γ sl) (hsl : ∀ i ∈ sl, i ∈ own.map (·.2))
    (ht : ∀ (s : Shared) (H : Hp) (C : Addr) (cl : List (Str × Addr)) (fp : List Addr), DTs (X.blk s H scope (compEnvC scope cl C X.env) fp) W0 ifs t)
    (he : ∀ (s : Shared) (H : Hp) (C : Addr) (cl : List (Str × Addr)) (fp : List Addr), DE (X.blk s H scope (compEnvC scope cl C X.env) fp) W0 elt f) (hs : ∀ x, foldedSetIterable iter X.env x = pure x := by intro _; rfl) :
    DE X W (.ListComp elt [⟨tg, iter, ifs, 0⟩] scope pos) (dLc φ γ t f (own.map (·.2))) := pe_imp (pe_lc (tt := rdT X.K X.w X.mg W0 t) (te := rdE X.K X.w X.mg W0 f) hc hN hi ok hg ht he hs) fun _ _ _ h => rd_lc gk hsl h
theorem ds_setLc {i : Nat} {y : Str} {py : Pos} {elt tg iter : Expr} {ifs : List Expr} {scope : Scope} {own : List (Str × Nat)} {pos spos : Pos} {φ : DFi} {g : TG} {γ : D → En → Mem → R En} {sl : List Nat} {t : DFb} {f : DF} (hc : X.calm = true) (hN : X.N.Nodup) (hy : X.N[i]? = some y)
    (hyl : X.env.scope.names.lookup y = some .local) (hsw : swapsWith (.ListComp elt [⟨tg, iter, ifs, 0⟩] scope pos) (some (.Name y py)) spos.line X.env = pure true) (hi : DI X W tg iter φ) (ok : BlkOk X.N X.env.scope scope own)
    (hg : ∀ (s : Shared) (H : Hp) (C : Addr) (cl : List (Str × Addr)) (fp : List Addr), PG (X.blk s H scope (compEnvC scope cl C X.env) fp) tg g) (gk : GOk X.K X.w X.mg W0 g γ sl) (hsl : ∀ i ∈ sl, i ∈ own.map (·.2))
    (ht : ∀ (s : Shared) (H : Hp) (C : Addr) (cl : List (Str × Addr)) (fp : List Addr), DTs (X.blk s H scope (compEnvC scope cl C X.env) fp) W0 ifs t)
    (he : ∀ (s : Shared) (H : Hp) (C : Addr) (cl : List (Str × Addr)) (fp : List Addr), DE (X.blk s H scope (compEnvC scope cl C X.env) fp) W0 elt f) (hs : ∀ x, foldedSetIterable iter X.env x = pure x := by intro _; rfl) :
    DS X W (.Assign [.Name y py] (.ListComp elt [⟨tg, iter, ifs, 0⟩] scope pos) spos) (dSet i (dLc φ γ t f (own.map (·.2)))) := ps_imp (ps_setLc (i := i) (tt := rdT X.K X.w X.mg W0 t) (te := rdE X.K X.w X.mg W0 f) hc hN hy hyl hsw hi ok hg ht he hs) fun E σ H h => by
  obtain ⟨ι, ρ, m, e, M, q⟩ := h
  exact rd_lc gk hsl ⟨ι, ρ, m, e, M, fin_goes' e q fun ι1 m1 H1 d S1 M1 e1 q1 v rv => finS_nx q1 M1 (e1.set rv i)⟩
theorem rd_lc2 {φ φ1 : DFi} {γ γ1 : D → En → Mem → R En} {t t1 : DFb} {f : DF} {js js1 : List Nat} {g g1 : TG} {sl sl1 : List Nat} (gk : GOk K w mg W0 g γ sl) (hsl : ∀ i ∈ sl, i ∈ js) (gk1 : GOk K w mg W0 g1 γ1 sl1) (hsl1 : ∀ i ∈ sl1, i ∈ js1) {Q : VK}
    (h : rdE K w mg W (dLc2 φ γ t φ1 γ1 t1 f js js1) σ H Q) : tLc2 (rdI K w mg W φ) g (rdT K w mg W0 t) (rdI K w mg W0 φ1) g1 (rdT K w mg W0 t1) (rdE K w mg W0 f) js js1 σ H Q := by
  obtain ⟨ι, ρ, m, e, M, q⟩ := h
  refine ⟨ι, ρ, m, e, M, fin_then q fun ι1 m1 H1 s S1 M1 q1 J hJ De hD => ?_⟩
  have hl : (m1 ++ [MO.lst []]).length = m1.length + 1 := by simp
  have S2 : Step ι1 m1.length H1 (more ι1 m1.length De) (m1 ++ [MO.lst []]).length (upd H1 De (.lst [])) := by rw [hl]; exact Step.new hD
  have M2 : RelM K w (more ι1 m1.length De) (m1 ++ [MO.lst []]) (upd H1 De (.lst [])) := M1.new hD ⟨[], upd_same, Reps.nil⟩
  have q2 := fin_step q1 S2
  refine ⟨fun i k H => ∃ ι3 m3, Step (more ι1 m1.length De) (m1 ++ [MO.lst []]).length (upd H1 De (.lst [])) ι3 m3.length H ∧ RelM K w ι3 m3 H ∧ i + k = s.items.length ∧
      fin K w mg W σ ι3 m3.length H (pV K Q) ((lc2F m1.length s γ t φ1 γ1 t1 f js1 (wipeD ρ js) (s.items.drop i) m3).bnd fun _ m2 => .ok (.ref m1.length) m2),
    ⟨s.items.length, _, _, Step.refl _ _ _, M2, by omega, q2⟩, ?_⟩
  rintro i k H3 ⟨ι3, m3, S3, M3, hk, q3⟩
  have e3 := ((e.step S1).step S2).step S3
  by_cases hi : i < s.items.length
  · rw [List.drop_eq_getElem_cons hi] at q3
    have hd : s.items[i]? = some s.items[i] := List.getElem?_eq_getElem hi
    generalize s.items[i] = d at q3 hd
    cases hok : s.ok m3 with
    | false =>
      unfold lc2F at q3
      rw [hok] at q3
      exact q3.elim
    | true =>
      unfold lc2F at q3
      rw [hok, if_pos rfl] at q3
      refine .inr ⟨hJ.go ι3 m3 H3 i d (S2.trans S3) M3 hok hd, fun H' => ∃ ι4 m4, Step (more ι1 m1.length De) (m1 ++ [MO.lst []]).length (upd H1 De (.lst [])) ι4 m4.length H' ∧ RelM K w ι4 m4 H' ∧
          fin K w mg W σ ι4 m4.length H' (pV K Q) ((lc2F m1.length s γ t φ1 γ1 t1 f js1 (wipeD ρ js) (s.items.drop (i + 1)) m4).bnd fun _ m2 => .ok (.ref m1.length) m2),
        fun H' ⟨ι4, m4, S4, M4, q4⟩ => ⟨k - 1, by omega, ι4, m4, S4, M4, by omega, q4⟩, fun x H' y => ?_⟩
      obtain ⟨S4, M4, r4⟩ := hJ.yld ι3 m3 H3 i d x H' (S2.trans S3) M3 hok hd y
      have T4 := S3.trans S4
      have q4 := fin_step q3 S4
      -- the strict bind of a strict bind
      have assoc : ∀ {a b : Type} (r : R a) (f1 : a → Mem → R b), (r.bnd f1).bnd (fun (_ : b) m2 => (.ok (.ref m1.length) m2 : R D)) = r.bnd fun x m => (f1 x m).bnd fun _ m2 => .ok (.ref m1.length) m2 := by
        intro a b r f1
        cases r <;> rfl
      rw [assoc] at q4
      refine gk (wipe σ js) ι3 (wipeD ρ js) m3 H' d x _ ((e3.step S4).wipe js) M4 r4 (fin_bnd' q4 fun ι5 m5 H5 ρ5 S5 M5 q5 σ5 e5 w5 => ?_)
      rw [assoc] at q5
      refine ⟨(w5 js hsl).trans (wipe_idem σ js), ι5, ρ5, m5, e5, M5, fin_bnd' q5 fun ι6 m6 H6 b S6 M6 q6 => ?_⟩
      have T6 := (T4.trans S5).trans S6
      cases b with
      | false => exact ⟨ι6, m6, T6, M6, q6⟩
      | true =>
        have q6' : fin K w mg W σ ι6 m6.length H6 (pV K Q) (((φ1 ρ5 m6).bnd fun s1 m3 => (lcF m1.length s1 γ1 t1 f (wipeD ρ5 js1) s1.items m3).bnd fun _ m4 => lc2F m1.length s γ t φ1 γ1 t1 f js1 (wipeD ρ js) (s.items.drop (i + 1)) m4).bnd fun _ m2 => .ok (.ref m1.length) m2) := q6
        rw [assoc] at q6'
        refine ⟨ι6, ρ5, m6, e5.step S6, M6, fin_bnd' q6' fun ι7 m7 H7 s7 S7 M7 q7 J7 hJ7 => ?_⟩
        rw [assoc] at q7
        have T7 := T6.trans S7
        have hl7 : m1.length < m7.length := by
          have := T7.le
          rw [hl] at this
          omega
        refine lc_walk (σ1 := σ5) (ρ := ρ5) (σ0 := σ) (W := W) gk1 hsl1 (fun _ _ _ z => z) (fun _ _ _ z => z) hJ7 ((e5.step S6).step S7) hl7 ((T7.ext m1.length (by rw [hl]; exact Nat.lt_succ_self _)).trans more_new) M7 (q := ?_)
          (post := fun ι' m' H' _ => fin K w mg W σ ι' m'.length H' (pV K Q) ((lc2F m1.length s γ t φ1 γ1 t1 f js1 (wipeD ρ js) (s.items.drop (i + 1)) m').bnd fun _ m2 => .ok (.ref m1.length) m2)) fun ι' m' H' S M z => ⟨ι', m', T7.trans S, M, z⟩
        cases hr : lcF m1.length s7 γ1 t1 f (wipeD ρ5 js1) s7.items m7 with
        | ok a m8 => rw [hr] at q7; exact fun ι8 H8 S8 M8 => fin_step q7 S8
        | exn c fs m8 => rw [hr] at q7; exact q7.elim
        | stk => rw [hr] at q7; exact q7.elim
  · have hi2 : i = s.items.length := by omega
    subst hi2
    rw [List.drop_length] at q3
    cases hok : s.ok m3 with
    | false =>
      unfold lc2F at q3
      rw [hok] at q3
      exact q3.elim
    | true =>
      unfold lc2F at q3
      rw [hok, if_pos rfl] at q3
      refine .inl ⟨hJ.stop ι3 m3 H3 (S2.trans S3) M3 hok, q3 ι3 H3 (Step.refl _ _ _) M3 (.ref De) ⟨?_, ?_⟩⟩
      · have := S3.le
        rw [hl] at this
        omega
      · rw [S3.ext m1.length (by rw [hl]; exact Nat.lt_succ_self _), more_new]
theorem de_lc2 {elt tg iter tg1 iter1 : Expr} {ifs ifs1 : List Expr} {scope : Scope} {own : List (Str × Nat)} {vs1 : List Nat} {pos : Pos} {φ φ1 : DFi} {g g1 : TG} {γ γ1 : D → En → Mem → R En} {sl sl1 : List Nat} {t t1 : DFb} {f : DF} (hc : X.calm = true) (hN : X.N.Nodup) (hi : DI X W tg iter φ)
    (ok : BlkOk X.N X.env.scope scope own) (hv : ∀ i ∈ vs1, i ∈ own.map (·.2))
    (hg : ∀ (s : Shared) (H : Hp) (C : Addr) (cl : List (Str × Addr)) (fp : List Addr), PG (X.blk s H scope (compEnvC scope cl C X.env) fp) tg g) (gk : GOk X.K X.w X.mg W0 g γ sl) (hsl : ∀ i ∈ sl, i ∈ own.map (·.2))
    (ht : ∀ (s : Shared) (H : Hp) (C : Addr) (cl : List (Str × Addr)) (fp : List Addr), DTs (X.blk s H scope (compEnvC scope cl C X.env) fp) W0 ifs t)
    (hi1 : ∀ (s : Shared) (H : Hp) (C : Addr) (cl : List (Str × Addr)) (fp : List Addr), DI (X.blk s H scope (compEnvC scope cl C X.env) fp) W0 tg1 iter1 φ1)
    (hg1 : ∀ (s : Shared) (H : Hp) (C : Addr) (cl : List (Str × Addr)) (fp : List Addr), PG (X.blk s H scope (compEnvC scope cl C X.env) fp) tg1 g1) (gk1 : GOk X.K X.w X.mg W0 g1 γ1 sl1) (hsl1 : ∀ i ∈ sl1, i ∈ vs1)
    (ht1 : ∀ (s : Shared) (H : Hp) (C : Addr) (cl : List (Str × Addr)) (fp : List Addr), DTs (X.blk s H scope (compEnvC scope cl C X.env) fp) W0 ifs1 t1)
    (he : ∀ (s : Shared) (H : Hp) (C : Addr) (cl : List (Str × Addr)) (fp : List Addr), DE (X.blk s H scope (compEnvC scope cl C X.env) fp) W0 elt f) (hs : ∀ x, foldedSetIterable iter X.env x = pure x := by intro _; rfl) (hs1 : ∀ env x, foldedSetIterable iter1 env x = pure x := by intro _ _; rfl) :
    DE X W (.ListComp elt [⟨tg, iter, ifs, 0⟩, ⟨tg1, iter1, ifs1, 0⟩] scope pos) (dLc2 φ γ t φ1 γ1 t1 f (own.map (·.2)) vs1) := pe_imp (pe_lc2 (wi1 := rdI X.K X.w X.mg W0 φ1) (tt1 := rdT X.K X.w X.mg W0 t1) (tt := rdT X.K X.w X.mg W0 t) (te := rdE X.K X.w X.mg W0 f) hc hN hi ok hv hg ht hi1 hg1 ht1 he hs hs1) fun _ _ _ h => rd_lc2 gk hsl gk1 hsl1 h

/-! ### calls of defs -/
def spD (K : PySem.W.Frag) (w : World) (mg : Str → Option Value) (np : Nat) (F : List D → Mem → R D) : Sp := fun vs H Q E => vs.length = np ∧ ∃ ι ds m, Reps K ι m.length H ds vs ∧ RelM K w ι m H ∧ fin K w mg (fun c d _ H' => E c d H') [] ι m.length H (pV K Q) (F ds m)
/-- the def at f is F -/
structure Fn (X : Cx) (k : Nat) (f : Addr) (fd : FuncData) (ps : List Str) (F : List D → Mem → R D) : Prop where
  ok : FnOk X.prog X.w X.K X.mg X.base (L2.CX X.prog X.w) k f fd ps (spD X.K X.w X.mg ps.length F)
  len : ∀ ds m, ds.length ≠ ps.length → F ds m = .stk
/-- what a callee raises reaches W -/
def Pass (X : Cx) (W : WX) : Prop := ∀ σ, PassesAt (L2.CX X.prog X.w) X σ (WE W σ)
theorem pass_of {W : WX} (tk : Takes X W) : Pass X W := fun σ => passAt tk σ
theorem pass_W0 : Pass X W0 := fun σ => fun _ _ _ _ _ _ h => by
  obtain ⟨_, _, _, _, _, _, _, _, _, _, _, _, z⟩ := h
  exact z.elim
def dApp (F : List D → Mem → R D) (dds : List D) (fs : DFs) : DF := fun ρ m => (fs ρ m).bind fun ds m1 => F (ds ++ dds) m1
theorem fin_slots {α : Type} {post : (Nat → Addr) → Mem → Hp → α → Prop} {r : R α} (h : fin K w mg W σ ι n H post r) : fin K w mg (fun c d _ H' => WE W σ c d H') [] ι n H post r := by
  cases r with
  | ok a m => exact h
  | exn c fs m => exact h
  | stk => exact h
variable {k : Nat} {f : Addr} {fd : FuncData} {ps : List Str} {F : List D → Mem → R D} {dvs : List V} {ds : List Value} {dds : List D} {x : Str} {p pos : Pos} {e : Expr} {es : List Expr} {fs : DFs}
theorem rd_app (G : Fn X k f fd ps F) (hdd : ∀ ι n H, Reps X.K ι n H dds dvs) {Q : VK} (h : rdE X.K X.w X.mg W (dApp F dds fs) σ H Q) : tCallSD (spD X.K X.w X.mg ps.length F) dvs (fun σ => WE W σ) (rdA X.K X.w X.mg W fs) σ H Q := by
  obtain ⟨ι, ρ, m, e, M, q⟩ := h
  refine ⟨ι, ρ, m, e, M, fin_then q fun ι1 m1 H1 ds1 S1 M1 q1 vs rv => ?_⟩
  have r2 : Reps X.K ι1 m1.length H1 (ds1 ++ dds) (vs ++ dvs) := rv.append (hdd _ _ _)
  refine ⟨?_, ι1, ds1 ++ dds, m1, r2, M1, fin_slots q1⟩
  by_cases hl : (ds1 ++ dds).length = ps.length
  · rw [r2.length]; exact hl
  · have q2 : fin X.K X.w X.mg W σ ι1 m1.length H1 (pV X.K Q) (F (ds1 ++ dds) m1) := q1
    rw [G.len _ _ hl] at q2
    exact q2.elim
theorem de_call (G : Fn X k f fd ps F) (hr : Room k X.A) (hg : Gl X x) (hm : X.mg x = some (.ref f)) (hk : PySem.W.keepIn X.K (.ref f) = true)
    (hb : Binds X.K fd ps ds) (hd : Vals dvs ds) (hdd : ∀ ι n H, Reps X.K ι n H dds dvs) (hx : Pass X W) (ha : DA X W (e :: es) fs) (hdb : (x == ("__debug__" : Str)) = false := by decide) (he : starEach (e :: es) X.env = (false, eval e X.env) :: starEach es X.env := by rfl)
    (hpl : (backTo pos (starEach es X.env)).any (·.1) = false := by rfl) : DE X W (.Call (.Name x p) (e :: es) [] pos) (dApp F dds fs) :=
  pe_imp (pe_callSD (E := fun σ => WE W σ) (t := rdA X.K X.w X.mg W fs) G.ok hr hg hm hk hb hd hx ha hdb he hpl) fun _ _ _ h => rd_app G hdd h

/-! ### defs -/
def envD (N : Nat) (ds : List D) : En := ds.map some ++ List.replicate (N - ds.length) none
def O.val : O → R D
  | .nx _ m => .ok .non m
  | .rt d m => .ok d m
  | .exn c fs _ m => .exn c fs m
  | _ => .stk
def runB (np N : Nat) (g : DSt) : List D → Mem → R D := fun ds m => if ds.length = np then (g (envD N ds) m).val else .stk
theorem rel_start {N : List Str} {ds : List D} {vs : List V} (r : Reps K ι n H ds vs) : RelE K ι n H (envD N.length ds) (start N vs) := by
  unfold envD L2.start
  have hl := r.length
  refine ⟨by simp [hl], fun i d e => ?_⟩
  have hi : i < ds.length := by
    by_cases hi : i < ds.length
    · exact hi
    · rw [List.getElem?_append_right (by simpa using hi), List.getElem?_replicate] at e
      split at e <;> cases e
  rw [List.getElem?_append_left (by simpa using hi), List.getElem?_map] at e
  cases h : ds[i]? with
  | none => rw [h] at e; cases e
  | some d' =>
    rw [h] at e
    cases e
    obtain ⟨v, h1, h2⟩ := r.get h
    exact ⟨v, by rw [List.getElem?_append_left (by simpa [hl] using hi), List.getElem?_map, h1]; rfl, h2⟩
theorem finS_val {g : DSt} {ρ : En} {m : Mem} {Q : VK} {Ex : XK} (h : fin K w mg (fun c d _ H' => Ex c d H') [] ι n H (pV K Q) (g ρ m).val) : finS K w mg (fun c d _ H' => Ex c d H') ι n H { nx := fun _ H' => Q .non H', rt := Q } (g ρ m) := by
  cases hg : g ρ m with
  | nx ρ' m' => rw [hg] at h; exact fun ι' H' σ' S M e => h ι' H' S M .non rfl
  | rt d m' => rw [hg] at h; exact fun ι' H' v S M r => h ι' H' S M v r
  | exn c fs ρ' m' => rw [hg] at h; exact fun ι' H' σ' C dx gs S M e => h ι' H' C dx gs S M
  | bk ρ' m' => rw [hg] at h; exact h.elim
  | ct ρ' m' => rw [hg] at h; exact h.elim
  | stk => rw [hg] at h; exact h.elim
/-- THE RULE of a def: its body -/
theorem fn_ok {P : Program} {base : Heap} {x qual : Str} {st : Stmt} {N : List Str} {g : DSt} (Fu : Fun K x qual st f fd) (S : FnScope N ps (defScope st))
    (hb : ∀ (cdv : Value) (A : Around) (outer : List Env) (s : Shared) (H : Hp) (Ex : XK), Room k (A.deeper (PyProof.Rows.envOfC qual (defScope st) s.heap.objs.size f cdv)) →
      DSs (cxOf (L2.CX P w) P w K mg base N qual (defScope st) f cdv A outer s H Ex) (fun c d _ H' => Ex c d H') (defBody st) g) :
    FnOk P w K mg base (L2.CX P w) (k + 1) f fd ps (spD K w mg ps.length (runB ps.length N.length g)) ∧ ∀ ds m, ds.length ≠ ps.length → runB ps.length N.length g ds m = .stk := by
  refine ⟨Fu.okX S (fun vs H Q E h => h.1) fun cdv A outer s H vs Q Ex hr h => ?_, fun ds m h => by unfold runB; rw [if_neg h]⟩
  refine ⟨_, hb cdv A outer s H Ex hr, ?_⟩
  obtain ⟨hl, ι, ds, m, r, M, q⟩ := h
  have hl2 : ds.length = ps.length := by rw [← r.length]; exact hl
  unfold runB at q
  rw [if_pos hl2] at q
  exact ⟨ι, envD N.length ds, m, rel_start r, M, finS_val q⟩
end
end DL
/-! The D layer: operators, comparisons, subscripts, built-in calls. -/
namespace DL
open PySem PySem.Spec L2

section
variable {X : Cx} {K : PySem.W.Frag} {w : World} {mg : Str → Option Value} {W : WX}

/-- an object as a list that is read -/
theorem list_of {ι : Nat → Addr} {m : Mem} {H : Hp} (M : RelM K w ι m H) {l : Nat} {xs : List D} (h : m[l]? = some (.lst xs) ∨ m[l]? = some (.frl xs)) : ∃ vs, SqL K H (ι l) vs ∧ Reps K ι m.length H xs vs := by
  rcases h with h | h
  · obtain ⟨vs, h1, h2⟩ := M.obj l _ h
    exact ⟨vs, .inl (.inl h1), h2⟩
  · exact (M.obj l _ h).frl_sq
def seqOf (m : Mem) : D → Option (List D)
  | .ref l => match m[l]? with
    | some (.lst xs) => some xs
    | some (.frl xs) => some xs
    | _ => none
  | _ => none
theorem seqOf_sq {ι : Nat → Addr} {m : Mem} {H : Hp} (M : RelM K w ι m H) {d : D} {xs : List D} {v : V} (h : seqOf m d = some xs) (r : Rep K ι m.length H d v) : ∃ a vs, v = .ref a ∧ SqL K H a vs ∧ Reps K ι m.length H xs vs := by
  cases d with
  | ref l =>
    obtain ⟨_, rfl⟩ := r
    unfold seqOf at h
    cases e : m[l]? with
    | none => simp [e] at h
    | some o =>
      simp only [e] at h
      cases o with
      | lst ys =>
        cases h
        obtain ⟨vs, h1, h2⟩ := list_of M (.inl e)
        exact ⟨_, vs, rfl, h1, h2⟩
      | frl ys =>
        cases h
        obtain ⟨vs, h1, h2⟩ := list_of M (.inr e)
        exact ⟨_, vs, rfl, h1, h2⟩
      | dct _ => cases h
      | stt _ => cases h
  | _ => cases h

/-! ### arithmetic -/
def opInt (g : Int → Int → Int) : O2 := fun d e m => match d, e with
  | .int i, .int j => .ok (.int (g i j)) m
  | _, _ => .stk
def opIntC (c : Int → Int → Bool) (g : Int → Int → Int) : O2 := fun d e m => match d, e with
  | .int i, .int j => if c i j = true then .ok (.int (g i j)) m else .stk
  | _, _ => .stk
def opCmpI (g : Int → Int → Bool) : O2 := fun d e m => match d, e with
  | .int i, .int j => .ok (.bl (g i j)) m
  | _, _ => .stk
theorem dop_int (g : Int → Int → Int) : DOp K w mg W (rI0 fun i j => .int (g i j)) (opInt g) := fun σ ι m H x y d e Q M rx ry q => by
  cases d with
  | int i =>
    cases e with
    | int j => exact ⟨i, j, rx, ry, fin_now (α := D) q M _ rfl⟩
    | _ => exact q.elim
  | _ => exact q.elim
theorem dop_cmpI (g : Int → Int → Bool) : DOp K w mg W (rI0 fun i j => .bl (g i j)) (opCmpI g) := fun σ ι m H x y d e Q M rx ry q => by
  cases d with
  | int i =>
    cases e with
    | int j => exact ⟨i, j, rx, ry, fin_now (α := D) q M _ rfl⟩
    | _ => exact q.elim
  | _ => exact q.elim
theorem dop_intC {C : Int → Int → Prop} {c : Int → Int → Bool} (g : Int → Int → Int) (hc : ∀ i j, c i j = true → C i j) : DOp K w mg W (rI C fun i j => .int (g i j)) (opIntC c g) := fun σ ι m H x y d e Q M rx ry q => by
  cases d with
  | int i =>
    cases e with
    | int j =>
      have q' : fin K w mg W σ ι m.length H (pV K Q) (if c i j = true then .ok (.int (g i j)) m else .stk) := q
      by_cases h : c i j = true
      · rw [if_pos h] at q'
        exact ⟨i, j, rx, ry, hc i j h, fin_now (α := D) q' M _ rfl⟩
      · rw [if_neg h] at q'
        exact q'.elim
    | _ => exact q.elim
  | _ => exact q.elim
abbrev opSub : O2 := opInt fun i j => i - j
/-- factors below a million bits together -/
def cMul (i j : Int) : Bool := decide (i.natAbs.log2 + j.natAbs.log2 < 1000000)
abbrev opMul : O2 := opIntC cMul fun i j => i * j
def cDiv (_ j : Int) : Bool := decide (0 < j ∧ j.natAbs.log2 < 9000)
abbrev opDiv : O2 := opIntC cDiv fun i j => i / j
def cMod (_ j : Int) : Bool := decide (0 < j)
abbrev opMod : O2 := opIntC cMod fun i j => i % j
def cPow (i j : Int) : Bool := decide (0 ≤ j ∧ j ≤ 1000000 ∧ i.natAbs < 2 ^ 64)
abbrev opPow : O2 := opIntC cPow fun i j => i ^ j.toNat
theorem de_subI {a b : Expr} {fa fb : DF} {pos : Pos} (ha : DE X W a fa) (hb : DE X W b fb) : DE X W (.BinOp a .Sub b pos) (dBin opSub fa fb) := de_op op_sub (dop_int _) ha hb
theorem de_mul {a b : Expr} {fa fb : DF} {pos : Pos} (ha : DE X W a fa) (hb : DE X W b fb) : DE X W (.BinOp a .Mult b pos) (dBin opMul fa fb) := de_op op_mulW (dop_intC _ fun i j h => by unfold CMulW; simpa [cMul] using h) ha hb
theorem de_fdiv {a b : Expr} {fa fb : DF} {pos : Pos} (ha : DE X W a fa) (hb : DE X W b fb) : DE X W (.BinOp a .FloorDiv b pos) (dBin opDiv fa fb) := de_op op_fdivW (dop_intC _ fun i j h => by unfold CDivW; simpa [cDiv] using h) ha hb
theorem de_mod {a b : Expr} {fa fb : DF} {pos : Pos} (ha : DE X W a fa) (hb : DE X W b fb) : DE X W (.BinOp a .Mod b pos) (dBin opMod fa fb) := de_op op_mod (dop_intC _ fun i j h => by unfold cMod at h; exact (decide_eq_true_eq.mp h)) ha hb
theorem de_pow {a b : Expr} {fa fb : DF} {pos : Pos} (ha : DE X W a fa) (hb : DE X W b fb) : DE X W (.BinOp a .Pow b pos) (dBin opPow fa fb) := de_op op_pow (dop_intC _ fun i j h => by unfold CPow; simpa [cPow] using h) ha hb
/-- + of ints, texts, tuples, lists -/
def opAdd : O2 := fun d e m => match d, e with
  | .int i, .int j => .ok (.int (i + j)) m
  | .str a, .str b => if a.length + b.length ≤ sizeLine then .ok (.str (a ++ b)) m else .stk
  | .tup xs, .tup ys => if xs.length + ys.length ≤ sizeLine then .ok (.tup (xs ++ ys)) m else .stk
  | .ref l, .ref k => match m[l]?, m[k]? with
    | some (.lst xs), some (.lst ys) => if xs.length + ys.length ≤ sizeLine then .ok (.ref m.length) (m ++ [.lst (xs ++ ys)]) else .stk
    | _, _ => .stk
  | _, _ => .stk
def rAddA (K : PySem.W.Frag) : R2 := fun x y H Q => rI0 (fun i j => .int (i + j)) x y H Q ∨ (∃ i j, x = .str i ∧ y = .str j ∧ i.length + j.length ≤ sizeLine ∧ Q (.str (i ++ j)) H) ∨ rCatA K x y H Q ∨ rCat x y H Q
theorem op_addA : OpR X (binaryOp .Add) (rAddA X.K) := op_add.or (op_add_str.or (op_catA.or op_cat))
theorem dop_add : DOp K w mg W (rAddA K) opAdd := fun σ ι m H x y d e Q M rx ry q => by
  cases d with
  | int i =>
    cases e with
    | int j => exact .inl ⟨i, j, rx, ry, fin_now (α := D) q M _ rfl⟩
    | _ => exact q.elim
  | str a =>
    cases e with
    | str b =>
      have q' : fin K w mg W σ ι m.length H (pV K Q) (if a.length + b.length ≤ sizeLine then .ok (.str (a ++ b)) m else .stk) := q
      by_cases h : a.length + b.length ≤ sizeLine
      · rw [if_pos h] at q'
        exact .inr (.inl ⟨a, b, rx, ry, h, fin_now (α := D) q' M _ rfl⟩)
      · rw [if_neg h] at q'
        exact q'.elim
    | _ => exact q.elim
  | tup xs =>
    cases e with
    | tup ys =>
      have q' : fin K w mg W σ ι m.length H (pV K Q) (if xs.length + ys.length ≤ sizeLine then .ok (.tup (xs ++ ys)) m else .stk) := q
      obtain ⟨a, vs, rfl, h1, h2⟩ := id rx
      obtain ⟨b, us, rfl, h3, h4⟩ := id ry
      by_cases h : xs.length + ys.length ≤ sizeLine
      · rw [if_pos h] at q'
        refine .inr (.inr (.inl ⟨a, b, vs, us, rfl, rfl, h1.sq, h3.sq, by rw [h2.length, h4.length]; exact h, fun e => ?_, fun _ e => ?_, fun _ _ => fin_tup M (h2.append h4) q'⟩))
        · have e2 : xs = [] := List.length_eq_zero_iff.mp (by rw [← h2.length, e]; rfl)
          subst e2
          exact fin_now (α := D) q' M _ ry
        · have e2 : ys = [] := List.length_eq_zero_iff.mp (by rw [← h4.length, e]; rfl)
          subst e2
          rw [List.append_nil] at q'
          exact fin_now (α := D) q' M _ rx
      · rw [if_neg h] at q'
        exact q'.elim
    | _ => exact q.elim
  | ref l =>
    cases e with
    | ref k =>
      obtain ⟨_, rfl⟩ := rx
      obtain ⟨_, rfl⟩ := ry
      cases e1 : m[l]? with
      | none => simp only [opAdd, e1] at q; exact q.elim
      | some o =>
        cases e2 : m[k]? with
        | none => simp only [opAdd, e1, e2] at q; cases o <;> exact q.elim
        | some u =>
          simp only [opAdd, e1, e2] at q
          cases o with
          | lst xs =>
            cases u with
            | lst ys =>
              by_cases h : xs.length + ys.length ≤ sizeLine
              · simp only [h, if_true] at q
                obtain ⟨vs, h1, h2⟩ := M.obj l _ e1
                obtain ⟨us, h3, h4⟩ := M.obj k _ e2
                exact .inr (.inr (.inr ⟨ι l, ι k, vs, us, rfl, rfl, h1, h3, by rw [h2.length, h4.length]; exact h, fin_lst M (h2.append h4) q⟩))
              · simp only [h, if_false] at q
                exact q.elim
            | _ => exact q.elim
          | _ => exact q.elim
    | _ => exact q.elim
  | _ => exact q.elim
theorem de_add {a b : Expr} {fa fb : DF} {pos : Pos} (ha : DE X W a fa) (hb : DE X W b fb) : DE X W (.BinOp a .Add b pos) (dBin opAdd fa fb) := de_op op_addA dop_add ha hb
/-- -n -/
def opNeg : O1 := fun d m => match d with
  | .int i => .ok (.int (-i)) m
  | _ => .stk
theorem de_neg {a : Expr} {fa : DF} {pos : Pos} (ha : DE X W a fa) : DE X W (.UnaryOp .USub a pos) (dUn opNeg fa) := de_un un_neg (fun σ ι m H x d Q M rx q => by
  cases d with
  | int i => exact ⟨i, rx, fin_now (α := D) q M _ rfl⟩
  | _ => exact q.elim) ha

/-! ### comparisons -/
def opLt : O2 := fun d e m => match d, e with
  | .int i, .int j => .ok (.bl (decide (i < j))) m
  | .str a, .str b => .ok (.bl (decide (a.cps.toList < b.cps.toList))) m
  | _, _ => .stk
theorem dop_lt : DOp K w mg W (fun x y H Q => rI0 (fun i j => .bl (decide (i < j))) x y H Q ∨ ∃ i j, x = .str i ∧ y = .str j ∧ Q (.bl (decide (i.cps.toList < j.cps.toList))) H) opLt := fun σ ι m H x y d e Q M rx ry q => by
  cases d with
  | int i =>
    cases e with
    | int j => exact .inl ⟨i, j, rx, ry, fin_now (α := D) q M _ rfl⟩
    | _ => exact q.elim
  | str i =>
    cases e with
    | str j => exact .inr ⟨i, j, rx, ry, fin_now (α := D) q M _ rfl⟩
    | _ => exact q.elim
  | _ => exact q.elim
abbrev opLe : O2 := opCmpI fun i j => decide (i ≤ j)
abbrev opGt : O2 := opCmpI fun i j => decide (j < i)
abbrev opGe : O2 := opCmpI fun i j => decide (j ≤ i)
theorem op_ltA : OpR X (compareOp .Lt) (fun x y H Q => rI0 (fun i j => .bl (decide (i < j))) x y H Q ∨ ∃ i j, x = .str i ∧ y = .str j ∧ Q (.bl (decide (i.cps.toList < j.cps.toList))) H) := op_lt.or op_lt_str
/-- None or not -/
def opIsN : O2 := fun d e m => match e with
  | .non => .ok (.bl (decide (d = .non))) m
  | _ => .stk
def opNotN : O2 := fun d e m => match e with
  | .non => .ok (.bl (!decide (d = .non))) m
  | _ => .stk
theorem rep_non {ι : Nat → Addr} {n : Nat} {H : Hp} {d : D} {v : V} (r : Rep K ι n H d v) : decide (v = .non) = decide (d = .non) := by
  cases d with
  | non => obtain rfl : v = .non := r; rfl
  | bl b => obtain rfl : v = .bl b := r; rfl
  | int b => obtain rfl : v = .int b := r; rfl
  | str b => obtain rfl : v = .str b := r; rfl
  | tup ds => obtain ⟨a, vs, rfl, _⟩ := r; rfl
  | ref l => obtain ⟨_, rfl⟩ := r; rfl
theorem dop_isN : DOp K w mg W (fun x y H Q => y = .non ∧ Q (.bl (decide (x = .non))) H) opIsN := fun σ ι m H x y d e Q M rx ry q => by
  cases e with
  | non => exact ⟨ry, by rw [rep_non rx]; exact fin_now (α := D) q M _ rfl⟩
  | _ => exact q.elim
theorem dop_notN : DOp K w mg W (fun x y H Q => y = .non ∧ Q (.bl (!decide (x = .non))) H) opNotN := fun σ ι m H x y d e Q M rx ry q => by
  cases e with
  | non => exact ⟨ry, by rw [rep_non rx]; exact fin_now (α := D) q M _ rfl⟩
  | _ => exact q.elim
mutual
def D.py : D → Option PyData
  | .non => some .none
  | .bl b => some (.bool b)
  | .int i => some (.int i)
  | .str x => some (.str x)
  | .tup xs => (D.pys xs).map .tuple
  | .ref _ => none
def D.pys : List D → Option (List PyData)
  | [] => some []
  | d :: ds => match D.py d, D.pys ds with
    | some k, some ks => some (k :: ks)
    | _, _ => none
end
def pyM (m : Mem) (d : D) : Option PyData := match seqOf m d with
  | some xs => (D.pys xs).map .list
  | none => d.py
section
variable {ι : Nat → Addr} {n : Nat} {H : Hp}
mutual
theorem py_dp : ∀ (d : D) (p : PyData) (v : V), d.py = some p → Rep K ι n H d v → Dp K H v p
  | .non, _, _, h, r => by cases h; obtain rfl := r; exact .non
  | .bl b, _, _, h, r => by cases h; obtain rfl := r; exact .bl b
  | .int b, _, _, h, r => by cases h; obtain rfl := r; exact .int b
  | .str b, _, _, h, r => by cases h; obtain rfl := r; exact .str b
  | .ref _, _, _, h, _ => by cases h
  | .tup ds, p, _, h, r => by
    obtain ⟨a, vs, rfl, h1, h2⟩ := r
    unfold D.py at h
    cases e : D.pys ds with
    | none => rw [e] at h; cases h
    | some ps =>
      rw [e] at h
      cases h
      exact .tup h1.sq (pys_dp ds ps vs e h2)
theorem pys_dp : ∀ (ds : List D) (ps : List PyData) (vs : List V), D.pys ds = some ps → Reps K ι n H ds vs → DpAll K H vs ps
  | [], _, _, h, r => by cases h; obtain rfl := r; exact .nil
  | d :: ds, ps, _, h, r => by
    obtain ⟨v, u, rfl, h1, h2⟩ := r
    unfold D.pys at h
    cases e : d.py with
    | none => rw [e] at h; cases h
    | some k =>
      rw [e] at h
      cases e2 : D.pys ds with
      | none => rw [e2] at h; cases h
      | some ks =>
        rw [e2] at h
        cases h
        exact .cons (py_dp d k v e h1) (pys_dp ds ks u e2 h2)
end
theorem pyM_dp {m : Mem} (M : RelM K w ι m H) {d : D} {p : PyData} {v : V} (h : pyM m d = some p) (r : Rep K ι m.length H d v) : Dp K H v p := by
  unfold pyM at h
  cases e : seqOf m d with
  | none => rw [e] at h; exact py_dp d p v h r
  | some xs =>
    rw [e] at h
    obtain ⟨a, vs, rfl, h1, h2⟩ := seqOf_sq M e r
    cases e2 : D.pys xs with
    | none => simp only [e2] at h; cases h
    | some ps =>
      simp only [e2] at h
      cases h
      exact .lst h1 (pys_dp xs ps vs e2 h2)
end
def opEqB (neg : Bool) : O2 := fun d e m => match pyM m d, pyM m e with
  | some a, some b => if SeqAt.shaped a && SeqAt.shaped b then .ok (.bl (PyData.eqv a b != neg)) m else .stk
  | _, _ => .stk
abbrev opEq : O2 := opEqB false
abbrev opNe : O2 := opEqB true
theorem dop_eqB {neg : Bool} {r : R2} (hr : ∀ x y H Q, (∃ d e, Dp K H x d ∧ Dp K H y e ∧ SeqAt.shaped d = true ∧ SeqAt.shaped e = true ∧ Q (.bl (PyData.eqv d e != neg)) H) → r x y H Q) : DOp K w mg W r (opEqB neg) := fun σ ι m H x y d e Q M rx ry q => by
  refine hr x y H Q ?_
  cases e1 : pyM m d with
  | none => simp only [opEqB, e1] at q; exact q.elim
  | some a =>
    cases e2 : pyM m e with
    | none => simp only [opEqB, e1, e2] at q; exact q.elim
    | some b =>
      simp only [opEqB, e1, e2] at q
      cases h : (SeqAt.shaped a && SeqAt.shaped b) with
      | false => simp only [h] at q; exact q.elim
      | true =>
        simp only [h, if_true] at q
        have h' := Bool.and_eq_true_iff.mp h
        exact ⟨a, b, pyM_dp M e1 rx, pyM_dp M e2 ry, h'.1, h'.2, fin_now (α := D) q M _ rfl⟩
theorem dop_eq : DOp K w mg W (rEqD K) opEq := dop_eqB fun x y H Q ⟨d, e, h1, h2, h3, h4, q⟩ => ⟨d, e, h1, h2, h3, h4, by simpa using q⟩
theorem dop_ne : DOp K w mg W (rNeD K) opNe := dop_eqB fun x y H Q ⟨d, e, h1, h2, h3, h4, q⟩ => ⟨d, e, h1, h2, h3, h4, by simpa using q⟩

/-! ### subscripts -/
def opIx : O2 := fun d e m => match e with
  | .int i => match d with
    | .tup xs => match atI xs i with
      | some x => .ok x m
      | none => .stk
    | .str z => if z.length ≤ sizeLine then (match atI z.cps.toList i with
      | some c => .ok (.str ⟨#[c]⟩) m
      | none => .stk) else .stk
    | .ref l => match seqOf m (.ref l) with
      | some xs => match atI xs i with
        | some x => .ok x m
        | none => .stk
      | none => .stk
    | _ => .stk
  | _ => .stk
theorem Reps.at {ι : Nat → Addr} {n : Nat} {H : Hp} {xs : List D} {vs : List V} {i : Int} {x : D} (r : Reps K ι n H xs vs) (h : atI xs i = some x) : ∃ v, atI vs i = some v ∧ Rep K ι n H x v := by
  unfold atI at h ⊢
  rw [r.length]
  cases e : ixN xs.length i with
  | none => rw [e] at h; cases h
  | some j =>
    rw [e] at h
    exact r.get h
theorem dop_ix : DOp K w mg W (rIx K) opIx := fun σ ι m H x y d e Q M rx ry q => by
  cases e with
  | int i =>
    cases d with
    | tup xs =>
      obtain ⟨a, vs, rfl, h1, h2⟩ := id rx
      cases e1 : atI xs i with
      | none => simp only [opIx, e1] at q; exact q.elim
      | some z =>
        simp only [opIx, e1] at q
        obtain ⟨v, h3, h4⟩ := h2.at e1
        exact .inr (.inl ⟨a, vs, i, v, rfl, ry, h1.sq, h3, fin_now (α := D) q M _ h4⟩)
    | str z =>
      by_cases hz : z.length ≤ sizeLine
      · cases e1 : atI z.cps.toList i with
        | none => simp only [opIx, hz, if_true, e1] at q; exact q.elim
        | some c =>
          simp only [opIx, hz, if_true, e1] at q
          exact .inr (.inr ⟨z, i, c, rx, ry, hz, e1, fin_now (α := D) q M _ rfl⟩)
      · simp only [opIx, hz, if_false] at q
        exact q.elim
    | ref l =>
      cases e1 : seqOf m (.ref l) with
      | none => simp only [opIx, e1] at q; exact q.elim
      | some xs =>
        cases e2 : atI xs i with
        | none => simp only [opIx, e1, e2] at q; exact q.elim
        | some z =>
          simp only [opIx, e1, e2] at q
          obtain ⟨a, vs, rfl, h1, h2⟩ := seqOf_sq M e1 rx
          obtain ⟨v, h3, h4⟩ := h2.at e2
          exact .inl ⟨a, vs, i, v, rfl, ry, h1, h3, fin_now (α := D) q M _ h4⟩
    | _ => exact q.elim
  | _ => exact q.elim
/-- slices -/
def cutD (xs : List D) (lo hi : Option Int) : List D := (xs.drop (HT.sIx xs.length 0 lo)).take (HT.sIx xs.length xs.length hi - HT.sIx xs.length 0 lo)
abbrev OSl := D → Option Int → Option Int → Mem → R D
def opSl : OSl := fun d lo hi m => match d with
  | .tup xs => .ok (.tup (cutD xs lo hi)) m
  | .str z => if z.length ≤ sizeLine then .ok (.str (cutS z lo hi)) m else .stk
  | .ref l => match seqOf m (.ref l) with
    | some xs => .ok (.ref m.length) (m ++ [.lst (cutD xs lo hi)])
    | none => .stk
  | _ => .stk
abbrev DPt := En → Mem → R (Option Int)
def dNoPt : DPt := fun _ m => .ok none m
def dPt (f : DF) : DPt := fun ρ m => (f ρ m).bind fun d m1 => match d with
  | .int i => .ok (some i) m1
  | _ => .stk
def rdO (K : PySem.W.Frag) (w : World) (mg : Str → Option Value) (W : WX) (f : DPt) : TO := fun σ H Q => ∃ ι ρ m, RelE K ι m.length H ρ σ ∧ RelM K w ι m H ∧ fin K w mg W σ ι m.length H (fun _ _ H' o => Q o H') (f ρ m)
def DO (X : Cx) (W : WX) (e : Option Expr) (f : DPt) : Prop := PO X e (rdO X.K X.w X.mg W f)
theorem po_imp {e : Option Expr} {t t' : TO} (h : PO X e t) (i : ∀ σ H Q, t' σ H Q → t σ H Q) : PO X e t' := ⟨fun pins s σ H Q I hq => h.run pins s σ H Q I (i σ H Q hq)⟩
theorem do_none : DO X W none dNoPt := po_imp po_none fun σ H Q h => by
  obtain ⟨ι, ρ, m, e, M, q⟩ := h
  exact q ι H (Step.refl _ _ _) M
theorem do_some {e : Expr} {f : DF} (h : DE X W e f) : DO X W (some e) (dPt f) := po_imp (po_some h) fun σ H Q h => by
  obtain ⟨ι, ρ, m, e, M, q⟩ := h
  refine ⟨ι, ρ, m, e, M, fin_then q fun ι1 m1 H1 d S1 M1 q1 v rv => ?_⟩
  cases d with
  | int i => exact ⟨i, rv, q1 ι1 H1 (Step.refl _ _ _) M1⟩
  | _ => exact q1.elim
def dSl (op : OSl) (f : DF) (l u : DPt) : DF := fun ρ m => (f ρ m).bind fun d m1 => (l ρ m1).bind fun lo m2 => (u ρ m2).bind fun hi m3 => op d lo hi m3
def rSlAll (K : PySem.W.Frag) : V → Option Int → Option Int → Hp → VK → Prop := fun x lo hi H Q => rSlA K x lo hi H Q ∨ rSlS x lo hi H Q ∨ rSlL K x lo hi H Q
theorem sl_all : SlR X (rSlAll X.K) := sl_tupA.or (sl_str.or sl_list)
theorem Reps.cut {ι : Nat → Addr} {n : Nat} {H : Hp} {xs : List D} {vs : List V} (r : Reps K ι n H xs vs) (lo hi : Option Int) : Reps K ι n H (cutD xs lo hi) (cutV vs lo hi) := by
  unfold cutD cutV
  rw [r.length]
  exact (r.drop _).take _
theorem sl_ok {σ : L2.St} {ι : Nat → Addr} {m : Mem} {H : Hp} {x : V} {d : D} {lo hi : Option Int} {Q : VK} (M : RelM K w ι m H) (rx : Rep K ι m.length H d x) (q : fin K w mg W σ ι m.length H (pV K Q) (opSl d lo hi m)) : rSlAll K x lo hi H Q := by
  cases d with
  | tup xs =>
    obtain ⟨a, vs, rfl, h1, h2⟩ := id rx
    refine .inl ⟨a, vs, rfl, h1.sq, fun hw => ?_, fun _ => fin_tup M (h2.cut lo hi) q⟩
    have e : cutD xs lo hi = xs := by
      unfold cutD
      rw [← h2.length, hw.1, hw.2]
      simp [h2.length]
    have q' : fin K w mg W σ ι m.length H (pV K Q) (.ok (.tup (cutD xs lo hi)) m) := q
    rw [e] at q'
    exact fin_now (α := D) q' M _ rx
  | str z =>
    by_cases hz : z.length ≤ sizeLine
    · simp only [opSl, hz, if_true] at q
      exact .inr (.inl ⟨z, rx, hz, fin_now (α := D) q M _ rfl⟩)
    · simp only [opSl, hz, if_false] at q
      exact q.elim
  | ref l =>
    cases e1 : seqOf m (.ref l) with
    | none => simp only [opSl, e1] at q; exact q.elim
    | some xs =>
      simp only [opSl, e1] at q
      obtain ⟨a, vs, rfl, h1, h2⟩ := seqOf_sq M e1 rx
      exact .inr (.inr ⟨a, vs, rfl, h1, fin_lst M (h2.cut lo hi) q⟩)
  | _ => exact q.elim
theorem de_slice {e : Expr} {lo hi : Option Expr} {f : DF} {l u : DPt} {p2 pos : Pos} (he : DE X W e f) (hl : DO X W lo l) (hu : DO X W hi u) : DE X W (.Subscript e (.Slice lo hi none p2) pos) (dSl opSl f l u) := pe_imp (pe_slice sl_all he hl hu) fun σ H Q h => by
  obtain ⟨ι, ρ, m, e, M, q⟩ := h
  refine ⟨ι, ρ, m, e, M, fin_then q fun ι1 m1 H1 d S1 M1 q1 v rv => ?_⟩
  refine ⟨ι1, ρ, m1, e.step S1, M1, fin_then q1 fun ι2 m2 H2 lo S2 M2 q2 => ?_⟩
  refine ⟨ι2, ρ, m2, (e.step S1).step S2, M2, fin_then q2 fun ι3 m3 H3 hi S3 M3 q3 => ?_⟩
  exact sl_ok M3 (rv.step (S2.trans S3)) q3
/-- o[i] = e of a list -/
def opSet : O3 := fun o i v m => match o, i with
  | .ref l, .int k => match m[l]? with
    | some (.lst xs) => match ixN xs.length k with
      | some j => .ok () (m.set l (.lst (xs.set j v)))
      | none => .stk
    | _ => .stk
  | _, _ => .stk
theorem dset_list : DSetR K w mg W rSetL opSet := fun σ ι m H o i v do_ di dv Q M ro ri rv q => by
  cases do_ with
  | ref l =>
    cases di with
    | int k =>
      obtain ⟨_, rfl⟩ := ro
      cases e1 : m[l]? with
      | none => simp only [opSet, e1] at q; exact q.elim
      | some ob =>
        cases ob with
        | lst xs =>
          cases e2 : ixN xs.length k with
          | none => simp only [opSet, e1, e2] at q; exact q.elim
          | some j =>
            simp only [opSet, e1, e2] at q
            obtain ⟨vs, h1, h2⟩ := M.obj l _ e1
            have S := Step.wr (ho := .lst (vs.set j v)) M e1 rfl
            refine ⟨ι l, vs, k, j, rfl, ri, h1, by rw [h2.length]; exact e2, q ι _ (by rw [List.length_set]; exact S) (M.wr e1 rfl rfl ⟨_, upd_same, ?_⟩)⟩
            exact Reps.set (rv.step S) j (Reps.step S _ _ h2)
        | _ => simp only [opSet, e1] at q; exact q.elim
    | _ => exact q.elim
  | _ => exact q.elim

/-! ### built-in calls -/
def fn1 (o : O1) : ON := fun ds m => match ds with
  | [d] => o d m
  | _ => .stk
theorem reps1 {ι : Nat → Addr} {n : Nat} {H : Hp} {d : D} {xs : List V} (r : Reps K ι n H [d] xs) : ∃ x, xs = [x] ∧ Rep K ι n H d x := by
  obtain ⟨v, u, rfl, h1, h2⟩ := r
  obtain rfl : u = [] := h2
  exact ⟨v, rfl, h1⟩
theorem reps2 {ι : Nat → Addr} {n : Nat} {H : Hp} {d e : D} {xs : List V} (r : Reps K ι n H [d, e] xs) : ∃ x y, xs = [x, y] ∧ Rep K ι n H d x ∧ Rep K ι n H e y := by
  obtain ⟨v, u, rfl, h1, h2⟩ := r
  obtain ⟨y, rfl, h3⟩ := reps1 h2
  exact ⟨v, y, rfl, h1, h3⟩
theorem dca1 {r : List V → Hp → VK → Prop} {o : O1} (h : ∀ (σ : L2.St) (ι : Nat → Addr) (m : Mem) (H : Hp) (x : V) (d : D) (Q : VK), RelM K w ι m H → Rep K ι m.length H d x → fin K w mg W σ ι m.length H (pV K Q) (o d m) → r [x] H Q) : DCa K w mg W r (fn1 o) :=
  fun σ ι m H xs ds Q M rs q => by
  match ds, rs, q with
  | [], _, q => exact q.elim
  | [d], rs, q =>
    obtain ⟨x, rfl, h1⟩ := reps1 rs
    exact h σ ι m H x d Q M h1 q
  | _ :: _ :: _, _, q => exact q.elim
/-- len -/
def opLen : O1 := fun d m => match d with
  | .str z => if z.length ≤ sizeLine then .ok (.int z.length) m else .stk
  | .tup xs => .ok (.int xs.length) m
  | .ref l => match seqOf m (.ref l) with
    | some xs => .ok (.int xs.length) m
    | none => .stk
  | _ => .stk
theorem dca_len : DCa K w mg W (fun xs H Q => ∃ x n, xs = [x] ∧ LenV K x H n ∧ Q (.int n) H) (fn1 opLen) := dca1 fun σ ι m H x d Q M rx q => by
  cases d with
  | str z =>
    by_cases hz : z.length ≤ sizeLine
    · simp only [opLen, hz, if_true] at q
      obtain rfl : x = .str z := rx
      exact ⟨_, z.length, rfl, ⟨hz, rfl⟩, fin_now (α := D) q M _ rfl⟩
    · simp only [opLen, hz, if_false] at q
      exact q.elim
  | tup xs =>
    obtain ⟨a, vs, rfl, h1, h2⟩ := id rx
    refine ⟨_, vs.length, rfl, .inr ⟨vs, h1.sq, rfl⟩, ?_⟩
    rw [h2.length]
    exact fin_now (α := D) q M _ rfl
  | ref l =>
    cases e1 : seqOf m (.ref l) with
    | none => simp only [opLen, e1] at q; exact q.elim
    | some xs =>
      simp only [opLen, e1] at q
      obtain ⟨a, vs, rfl, h1, h2⟩ := seqOf_sq M e1 rx
      refine ⟨_, vs.length, rfl, .inl ⟨vs, h1, rfl⟩, ?_⟩
      rw [h2.length]
      exact fin_now (α := D) q M _ rfl
  | _ => exact q.elim
def opAbs : O1 := fun d m => match d with
  | .int i => .ok (.int (if i < 0 then -i else i)) m
  | _ => .stk
theorem dca_abs : DCa K w mg W (fun xs H Q => ∃ i, xs = [.int i] ∧ Q (.int (if i < 0 then -i else i)) H) (fn1 opAbs) := dca1 fun σ ι m H x d Q M rx q => by
  cases d with
  | int i => obtain rfl : x = .int i := rx; exact ⟨i, rfl, fin_now (α := D) q M _ rfl⟩
  | _ => exact q.elim
/-- int of an int, a bool -/
def opIntOf : O1 := fun d m => match d with
  | .int i => .ok (.int i) m
  | .bl b => .ok (.int (if b then 1 else 0)) m
  | _ => .stk
theorem dca_int : DCa K w mg W (fun xs H Q => (∃ i, xs = [.int i] ∧ Q (.int i) H) ∨ ∃ k, xs = [.bl k] ∧ Q (.int (if k then 1 else 0)) H) (fn1 opIntOf) := dca1 fun σ ι m H x d Q M rx q => by
  cases d with
  | int i => obtain rfl : x = .int i := rx; exact .inl ⟨i, rfl, fin_now (α := D) q M _ rfl⟩
  | bl i => obtain rfl : x = .bl i := rx; exact .inr ⟨i, rfl, fin_now (α := D) q M _ rfl⟩
  | _ => exact q.elim
def opStr : O1 := fun d m => match d with
  | .int i => if i.natAbs.log2 < 1920 then .ok (.str (toString i)) m else .stk
  | _ => .stk
theorem dca_str : DCa K w mg W (fun xs H Q => ∃ i : Int, xs = [.int i] ∧ i.natAbs.log2 < 1920 ∧ Q (.str (toString i)) H) (fn1 opStr) := dca1 fun σ ι m H x d Q M rx q => by
  cases d with
  | int i =>
    obtain rfl : x = .int i := rx
    by_cases h : i.natAbs.log2 < 1920
    · simp only [opStr, h, if_true] at q
      exact ⟨i, rfl, h, fin_now (α := D) q M _ rfl⟩
    · simp only [opStr, h, if_false] at q
      exact q.elim
  | _ => exact q.elim
/-- list(x), tuple(x) of lists and tuples -/
def opList : O1 := fun d m => match d with
  | .tup xs => .ok (.ref m.length) (m ++ [.lst xs])
  | .ref l => match seqOf m (.ref l) with
    | some xs => .ok (.ref m.length) (m ++ [.lst xs])
    | none => .stk
  | _ => .stk
theorem dca_list : DCa K w mg W (fun xs H Q => ∃ p ys, xs = [.ref p] ∧ (SqL K H p ys ∨ SqT K H p ys) ∧ ∀ l, H l = none → Q (.ref l) (upd H l (.lst ys))) (fn1 opList) := dca1 fun σ ι m H x d Q M rx q => by
  cases d with
  | tup xs =>
    obtain ⟨a, vs, rfl, h1, h2⟩ := id rx
    exact ⟨a, vs, rfl, .inr h1.sq, fin_lst M h2 q⟩
  | ref l =>
    cases e1 : seqOf m (.ref l) with
    | none => simp only [opList, e1] at q; exact q.elim
    | some xs =>
      simp only [opList, e1] at q
      obtain ⟨a, vs, rfl, h1, h2⟩ := seqOf_sq M e1 rx
      exact ⟨a, vs, rfl, .inl h1, fin_lst M h2 q⟩
  | _ => exact q.elim
def opTuple : O1 := fun d m => match d with
  | .tup xs => .ok (.tup xs) m
  | .ref l => match seqOf m (.ref l) with
    | some xs => .ok (.tup xs) m
    | none => .stk
  | _ => .stk
theorem dca_tuple : DCa K w mg W (fun xs H Q => ∃ p ys, xs = [.ref p] ∧ ((SqL K H p ys ∧ ∀ l, H l = none → Q (.ref l) (upd H l (.tup ys))) ∨ (SqT K H p ys ∧ Q (.ref p) H))) (fn1 opTuple) := dca1 fun σ ι m H x d Q M rx q => by
  cases d with
  | tup xs =>
    obtain ⟨a, vs, rfl, h1, h2⟩ := id rx
    exact ⟨a, vs, rfl, .inr ⟨h1.sq, fin_now (α := D) q M _ rx⟩⟩
  | ref l =>
    cases e1 : seqOf m (.ref l) with
    | none => simp only [opTuple, e1] at q; exact q.elim
    | some xs =>
      simp only [opTuple, e1] at q
      obtain ⟨a, vs, rfl, h1, h2⟩ := seqOf_sq M e1 rx
      exact ⟨a, vs, rfl, .inl ⟨h1, fin_tup M h2 q⟩⟩
  | _ => exact q.elim
/-- any, all of a list of bools -/
def blsOf : List D → Option (List Bool)
  | [] => some []
  | .bl b :: ds => (blsOf ds).map (b :: ·)
  | _ :: _ => none
theorem bls_of {ι : Nat → Addr} {n : Nat} {H : Hp} : ∀ {ds : List D} {bs : List Bool} {vs : List V}, blsOf ds = some bs → Reps K ι n H ds vs → vs = bs.map V.bl
  | [], _, _, h, r => by cases h; exact r
  | .bl b :: ds, _, _, h, r => by
    obtain ⟨v, u, rfl, h1, h2⟩ := r
    unfold blsOf at h
    cases e : blsOf ds with
    | none => rw [e] at h; cases h
    | some cs =>
      rw [e] at h
      cases h
      rw [bls_of e h2, show v = V.bl b from h1]
      rfl
  | .non :: _, _, _, h, _ => by cases h
  | .int _ :: _, _, _, h, _ => by cases h
  | .str _ :: _, _, _, h, _ => by cases h
  | .tup _ :: _, _, _, h, _ => by cases h
  | .ref _ :: _, _, _, h, _ => by cases h
def opBls (g : List Bool → Bool) : O1 := fun d m => match seqOf m d with
  | some xs => match blsOf xs with
    | some bs => .ok (.bl (g bs)) m
    | none => .stk
  | none => .stk
theorem dca_bls {g : List Bool → Bool} : DCa K w mg W (fun vs H Q => ∃ (a : Addr) (bs : List Bool), vs = [V.ref a] ∧ SqL K H a (bs.map V.bl) ∧ Q (.bl (g bs)) H) (fn1 (opBls g)) := dca1 fun σ ι m H x d Q M rx q => by
  unfold opBls at q
  cases e1 : seqOf m d with
  | none => rw [e1] at q; exact q.elim
  | some xs =>
    rw [e1] at q
    cases e2 : blsOf xs with
    | none => simp only [e2] at q; exact q.elim
    | some bs =>
      simp only [e2] at q
      obtain ⟨a, vs, rfl, h1, h2⟩ := seqOf_sq M e1 rx
      rw [bls_of e2 h2] at h1
      exact ⟨a, bs, rfl, h1, fin_now (α := D) q M _ rfl⟩

/-! ### methods of lists -/
def DMt (K : PySem.W.Frag) (w : World) (mg : Str → Option Value) (W : WX) (T : String) (r : V → List V → Hp → VK → Prop) (o : D → List D → Mem → R D) : Prop :=
  ∀ (σ : L2.St) (ι : Nat → Addr) (m : Mem) (H : Hp) (x : V) (xs : List V) (d : D) (ds : List D) (Q : VK), RelM K w ι m H → Rep K ι m.length H d x → Reps K ι m.length H ds xs → fin K w mg W σ ι m.length H (pV K Q) (o d ds m) → r x xs H Q
def DTy (K : PySem.W.Frag) (w : World) (T : String) (c : D → Mem → Bool) : Prop := ∀ (ι : Nat → Addr) (m : Mem) (H : Hp) (x : V) (d : D), RelM K w ι m H → Rep K ι m.length H d x → c d m = true → tyV K T x H
def dMt (c : D → Mem → Bool) (o : D → List D → Mem → R D) (f : DF) (fs : DFs) : DF := fun ρ m => (f ρ m).bind fun d m1 => if c d m1 = true then (fs ρ m1).bind fun ds m2 => o d ds m2 else .stk
def dMt0 (c : D → Mem → Bool) (o : D → List D → Mem → R D) (f : DF) : DF := fun ρ m => (f ρ m).bind fun d m1 => if c d m1 = true then o d [] m1 else .stk
def isLst (d : D) (m : Mem) : Bool := match d with
  | .ref l => match m[l]? with
    | some (.lst _) => true
    | _ => false
  | _ => false
def isStr (d : D) (_ : Mem) : Bool := match d with
  | .str _ => true
  | _ => false
theorem ty_lst : DTy K w "list" isLst := fun ι m H x d M rx h => by
  cases d with
  | ref l =>
    obtain ⟨_, rfl⟩ := rx
    unfold isLst at h
    cases e : m[l]? with
    | none => simp only [e] at h; cases h
    | some o =>
      simp only [e] at h
      cases o with
      | lst xs =>
        obtain ⟨vs, h1, _⟩ := M.obj l _ e
        exact .inl ⟨rfl, _, .inl (.inl h1)⟩
      | _ => cases h
  | _ => cases h
theorem rd_mt {T : String} {r : V → List V → Hp → VK → Prop} {c : D → Mem → Bool} {o : D → List D → Mem → R D} {f : DF} {fs : DFs} {σ : L2.St} {H : Hp} {Q : VK} (ht : DTy K w T c) (hd : DMt K w mg W T r o) (h : rdE K w mg W (dMt c o f fs) σ H Q) :
    tBM K T r (rdE K w mg W f) (rdA K w mg W fs) σ H Q := by
  obtain ⟨ι, ρ, m, e, M, q⟩ := h
  refine ⟨ι, ρ, m, e, M, fin_then q fun ι1 m1 H1 d S1 M1 q1 v rv => ?_⟩
  cases hc : c d m1 with
  | false => simp only [hc] at q1; exact q1.elim
  | true =>
    simp only [hc, if_true] at q1
    refine ⟨ht ι1 m1 H1 v d M1 rv hc, ι1, ρ, m1, e.step S1, M1, fin_then q1 fun ι2 m2 H2 ds S2 M2 q2 vs rvs => ?_⟩
    exact hd σ ι2 m2 H2 v vs d ds Q M2 (rv.step S2) rvs q2
theorem rd_mt0 {T : String} {r : V → List V → Hp → VK → Prop} {c : D → Mem → Bool} {o : D → List D → Mem → R D} {f : DF} {σ : L2.St} {H : Hp} {Q : VK} (ht : DTy K w T c) (hd : DMt K w mg W T r o) (h : rdE K w mg W (dMt0 c o f) σ H Q) :
    tBM0 K T r (rdE K w mg W f) σ H Q := by
  obtain ⟨ι, ρ, m, e, M, q⟩ := h
  refine ⟨ι, ρ, m, e, M, fin_then q fun ι1 m1 H1 d S1 M1 q1 v rv => ?_⟩
  cases hc : c d m1 with
  | false => simp only [hc] at q1; exact q1.elim
  | true =>
    simp only [hc, if_true] at q1
    exact ⟨ht ι1 m1 H1 v d M1 rv hc, hd σ ι1 m1 H1 v [] d [] Q M1 rv Reps.nil q1⟩
/-- xs.append(y) -/
def mAppend : D → List D → Mem → R D := fun d ds m => match d, ds with
  | .ref l, [y] => match m[l]? with
    | some (.lst xs) => if xs.length < sizeLine then .ok .non (m.set l (.lst (xs ++ [y]))) else .stk
    | _ => .stk
  | _, _ => .stk
theorem dmt_append : DMt K w mg W "list" rAppend mAppend := fun σ ι m H x xs d ds Q M rx rs q => by
  cases d with
  | ref l =>
    match ds, rs, q with
    | [], _, q => exact q.elim
    | _ :: _ :: _, _, q => exact q.elim
    | [y], rs, q =>
      obtain ⟨v, rfl, rv⟩ := reps1 rs
      obtain ⟨_, rfl⟩ := rx
      cases e : m[l]? with
      | none => simp only [mAppend, e] at q; exact q.elim
      | some o =>
        cases o with
        | lst ys =>
          by_cases hz : ys.length < sizeLine
          · simp only [mAppend, e, hz, if_true] at q
            obtain ⟨vs, h1, h2, h3, h4⟩ := rel_app M e rv
            exact ⟨ι l, vs, v, rfl, rfl, h1, by omega, q ι _ h3 h4 _ rfl⟩
          · simp only [mAppend, e, hz, if_false] at q
            exact q.elim
        | _ => simp only [mAppend, e] at q; exact q.elim
  | _ => exact q.elim
/-- xs.extend(ys) of lists -/
def mExtend : D → List D → Mem → R D := fun d ds m => match d, ds with
  | .ref l, [y] => match y with
    | .ref k => match m[l]?, m[k]? with
      | some (.lst xs), some (.lst ys) => if xs.length + ys.length ≤ sizeLine then .ok .non (m.set l (.lst (xs ++ ys))) else .stk
      | _, _ => .stk
    | _ => .stk
  | _, _ => .stk
theorem dmt_extend : DMt K w mg W "list" rExtend mExtend := fun σ ι m H x xs d ds Q M rx rs q => by
  cases d with
  | ref l =>
    match ds, rs, q with
    | [], _, q => exact q.elim
    | _ :: _ :: _, _, q => exact q.elim
    | [y], rs, q =>
      obtain ⟨v, rfl, rv⟩ := reps1 rs
      obtain ⟨_, rfl⟩ := rx
      cases y with
      | ref k =>
        obtain ⟨_, rfl⟩ := rv
        cases e : m[l]? with
        | none => simp only [mExtend, e] at q; exact q.elim
        | some o =>
          cases e2 : m[k]? with
          | none => simp only [mExtend, e, e2] at q; cases o <;> exact q.elim
          | some u =>
            cases o with
            | lst ys =>
              cases u with
              | lst zs =>
                by_cases hz : ys.length + zs.length ≤ sizeLine
                · simp only [mExtend, e, e2, hz, if_true] at q
                  obtain ⟨vs, h1, h2⟩ := M.obj l _ e
                  obtain ⟨us, h3, h4⟩ := M.obj k _ e2
                  have S := Step.wr (ho := .lst (vs ++ us)) M e rfl
                  refine ⟨ι l, ι k, vs, us, rfl, rfl, h1, h3, by rw [h2.length, h4.length]; exact hz, q ι _ (by rw [List.length_set]; exact S) (M.wr e rfl rfl ⟨_, upd_same, ?_⟩) _ rfl⟩
                  exact (Reps.step S _ _ h2).append (Reps.step S _ _ h4)
                · simp only [mExtend, e, e2, hz, if_false] at q
                  exact q.elim
              | _ => simp only [mExtend, e, e2] at q; exact q.elim
            | _ => simp only [mExtend, e, e2] at q; exact q.elim
      | _ => exact q.elim
  | _ => exact q.elim
/-- xs.pop(), xs.pop(i) -/
def mPop : D → List D → Mem → R D := fun d ds m => match d, ds with
  | .ref l, [] => match m[l]? with
    | some (.lst xs) => match xs[xs.length - 1]? with
      | some y => .ok y (m.set l (.lst xs.dropLast))
      | none => .stk
    | _ => .stk
  | _, _ => .stk
theorem dmt_pop : DMt K w mg W "list" rPop mPop := fun σ ι m H x xs d ds Q M rx rs q => by
  cases d with
  | ref l =>
    match ds, rs, q with
    | _ :: _, _, q => exact q.elim
    | [], rs, q =>
      obtain rfl : xs = [] := rs
      obtain ⟨_, rfl⟩ := rx
      cases e : m[l]? with
      | none => simp only [mPop, e] at q; exact q.elim
      | some o =>
        cases o with
        | lst ys =>
          cases e2 : ys[ys.length - 1]? with
          | none => simp only [mPop, e, e2] at q; exact q.elim
          | some y =>
            simp only [mPop, e, e2] at q
            obtain ⟨vs, h1, h2⟩ := M.obj l _ e
            obtain ⟨v, h3, h4⟩ := h2.get e2
            have S := Step.wr (ho := .lst vs.dropLast) M e rfl
            exact ⟨ι l, vs, v, rfl, rfl, h1, by rw [h2.length]; exact h3, q ι _ (by rw [List.length_set]; exact S) (M.wr e rfl rfl ⟨_, upd_same, Reps.dropLast (Reps.step S _ _ h2)⟩) _ (by rw [List.length_set]; exact h4.step S)⟩
        | _ => simp only [mPop, e] at q; exact q.elim
  | _ => exact q.elim
def mPopAt : D → List D → Mem → R D := fun d ds m => match d, ds with
  | .ref l, [z] => match z with
    | .int i => match m[l]? with
      | some (.lst xs) => if 0 ≤ i ∧ i < xs.length ∧ i < 2 ^ 62 then (match xs[i.toNat]? with
        | some y => .ok y (m.set l (.lst (xs.eraseIdx i.toNat)))
        | none => .stk) else .stk
      | _ => .stk
    | _ => .stk
  | _, _ => .stk
theorem dmt_popAt : DMt K w mg W "list" rPopAt mPopAt := fun σ ι m H x xs d ds Q M rx rs q => by
  cases d with
  | ref l =>
    match ds, rs, q with
    | [], _, q => exact q.elim
    | _ :: _ :: _, _, q => exact q.elim
    | [y], rs, q =>
      obtain ⟨v, rfl, rv⟩ := reps1 rs
      obtain ⟨_, rfl⟩ := rx
      cases y with
      | int i =>
        cases e : m[l]? with
        | none => simp only [mPopAt, e] at q; exact q.elim
        | some o =>
          cases o with
          | lst ys =>
            by_cases hi : 0 ≤ i ∧ i < ys.length ∧ i < 2 ^ 62
            · cases e2 : ys[i.toNat]? with
              | none => simp only [mPopAt, e, hi, and_self, if_true, e2] at q; exact q.elim
              | some y =>
                have q' : fin K w mg W σ ι m.length H (pV K Q) (.ok y (m.set l (.lst (ys.eraseIdx i.toNat)))) := by
                  simp only [mPopAt, e] at q
                  rw [if_pos hi] at q
                  simp only [e2] at q
                  exact q
                obtain ⟨vs, h1, h2⟩ := M.obj l _ e
                obtain ⟨v, h3, h4⟩ := h2.get e2
                have S := Step.wr (ho := .lst (vs.eraseIdx i.toNat)) M e rfl
                refine ⟨ι l, vs, i, i.toNat, v, rfl, by rw [show _ = V.int i from rv], h1, by omega, by omega, ?_, h3, q' ι _ (by rw [List.length_set]; exact S) (M.wr e rfl rfl ⟨_, upd_same, Reps.eraseIdx _ (Reps.step S _ _ h2)⟩) _ (by rw [List.length_set]; exact h4.step S)⟩
                have hn : ixN vs.length i = some i.toNat := by
                  unfold ixN
                  rw [if_pos hi.1, if_pos (by rw [h2.length]; exact hi.2.1)]
                exact (ixN_seq hn).1
            · simp only [mPopAt, e] at q
              rw [if_neg hi] at q
              exact q.elim
          | _ => simp only [mPopAt, e] at q; exact q.elim
      | _ => exact q.elim
  | _ => exact q.elim
end
end DL
/-! The D layer: what is walked; isinstance; truth; in; turned lists; greatest, least. -/
namespace DL
open PySem PySem.Spec L2 RT RZ

section
variable {X : Cx} {K : PySem.W.Frag} {w : World} {mg : Str → Option Value} {W : WX} {ι : Nat → Addr} {n : Nat} {H : Hp}

/-! ### sources -/
/-- an iterator that gives the items of a list -/
theorem itR_list {m : Mem} (M : RelM K w ι m H) {l : Nat} {xs : List D} {o : MO} (h : m[l]? = some o) (ho : o = .lst xs ∨ o = .frl xs) (hJ : It) (eJ : hJ = Itl K (ι l)) : ItR K w ι m.length H hJ ⟨xs, some (l, o)⟩ := by
  subst eJ
  have look : ∀ {ι1 : Nat → Addr} {m1 : Mem} {H1 : Hp}, Step ι m.length H ι1 m1.length H1 → RelM K w ι1 m1 H1 → (Src.mk xs (some (l, o))).ok m1 = true → ∃ vs, SqL K H1 (ι l) vs ∧ Reps K ι1 m1.length H1 xs vs := fun {ι1 m1 H1} S M1 hok => by
    have e : m1[l]? = some o := of_decide_eq_true hok
    rw [← S.ext l (lt_of_get h)]
    rcases ho with rfl | rfl
    · exact list_of M1 (.inl e)
    · exact list_of M1 (.inr e)
  refine ⟨fun ι1 m1 H1 i d S M1 hok hd => ?_, fun ι1 m1 H1 i d x H' S M1 hok hd hy => ?_, fun ι1 m1 H1 S M1 hok => ?_⟩
  · obtain ⟨vs, h1, h2⟩ := look S M1 hok
    obtain ⟨v, h3, _⟩ := h2.get hd
    exact ⟨vs, v, h1, h3⟩
  · obtain ⟨vs, h1, h2⟩ := look S M1 hok
    obtain ⟨rfl, h3⟩ := hy
    obtain ⟨v, h4, h5⟩ := h2.get hd
    have e := h3 vs h1
    rw [h4] at e
    cases e
    exact ⟨Step.refl _ _ _, M1, h5⟩
  · obtain ⟨vs, h1, h2⟩ := look S M1 hok
    exact ⟨vs, h1, by rw [h2.length]; exact Nat.le_refl _⟩
theorem itR_tup {m : Mem} {a : Addr} {vs : List V} {xs : List D} (ht : TupAt K H a vs) (r : Reps K ι m.length H xs vs) (inj : ∀ H1 us, TupAt K H1 a vs → SqT K H1 a us → us = vs) : ItR K w ι m.length H (Itt K a) ⟨xs, none⟩ := by
  refine ⟨fun ι1 m1 H1 i d S M1 hok hd => ?_, fun ι1 m1 H1 i d x H' S M1 hok hd hy => ?_, fun ι1 m1 H1 S M1 hok => ?_⟩
  · obtain ⟨v, h3, _⟩ := r.get hd
    exact ⟨vs, v, (ht.step S).sq, h3⟩
  · obtain ⟨rfl, h3⟩ := hy
    obtain ⟨v, h4, h5⟩ := r.get hd
    have e := h3 vs (ht.step S).sq
    rw [h4] at e
    cases e
    exact ⟨Step.refl _ _ _, M1, h5.step S⟩
  · exact ⟨vs, (ht.step S).sq, by rw [r.length]; exact Nat.le_refl _⟩
/-- .. without asking that the tuple is one alone -/
theorem itR_tup' {m : Mem} {a : Addr} {vs : List V} {xs : List D} (ht : TupAt K H a vs) (r : Reps K ι m.length H xs vs) : ItR K w ι m.length H (Itt K a) ⟨xs, none⟩ := by
  refine ⟨fun ι1 m1 H1 i d S M1 hok hd => ?_, fun ι1 m1 H1 i d x H' S M1 hok hd hy => ?_, fun ι1 m1 H1 S M1 hok => ?_⟩
  · obtain ⟨v, h3, _⟩ := r.get hd
    exact ⟨vs, v, (ht.step S).sq, h3⟩
  · obtain ⟨rfl, h3⟩ := hy
    obtain ⟨v, h4, h5⟩ := r.get hd
    have e := h3 vs (ht.step S).sq
    rw [h4] at e
    cases e
    exact ⟨Step.refl _ _ _, M1, h5.step S⟩
  · exact ⟨vs, (ht.step S).sq, by rw [r.length]; exact Nat.le_refl _⟩
def signsD (z : Str) : List D := z.cps.toList.map fun c => .str ⟨#[c]⟩
/-- the items of a list, a tuple, a text -/
def srcOf : D → Mem → R Src := fun d m => match d with
  | .tup xs => .ok ⟨xs, none⟩ m
  | .str z => .ok ⟨signsD z, none⟩ m
  | .ref l => match m[l]? with
    | some (.lst xs) => .ok ⟨xs, some (l, .lst xs)⟩ m
    | some (.frl xs) => .ok ⟨xs, some (l, .frl xs)⟩ m
    | _ => .stk
  | _ => .stk
def dIt (f : DF) : DFi := fun ρ m => (f ρ m).bind srcOf
theorem itR_str {m : Mem} (z : Str) : ItR K w ι m.length H (Its z) ⟨signsD z, none⟩ := by
  have hl : (signsD z).length = z.cps.size := by simp [signsD]
  refine ⟨fun ι1 m1 H1 i d S M1 hok hd => ?_, fun ι1 m1 H1 i d x H' S M1 hok hd hy => ?_, fun ι1 m1 H1 S M1 hok => ?_⟩
  · have h := lt_of_get hd
    show i < z.cps.size
    rw [← hl]; exact h
  · obtain ⟨rfl, c, h3, rfl⟩ := hy
    have e : (signsD z)[i]? = some (.str ⟨#[c]⟩) := by
      unfold signsD
      rw [List.getElem?_map, Array.getElem?_toList, h3]
      rfl
    have e2 : (Src.mk (signsD z) none).items[i]? = (signsD z)[i]? := rfl
    rw [e2, e] at hd
    cases hd
    exact ⟨Step.refl _ _ _, M1, rfl⟩
  · show z.cps.size ≤ (signsD z).length
    rw [hl]; exact Nat.le_refl _
/-- what a walk of a value asks -/
def iAny (K : PySem.W.Frag) (tl : TE) : TI := fun σ H R => tl σ H fun x H1 => (∃ a, x = .ref a ∧ (∃ xs, SqL K H1 a xs) ∧ R (Itl K a) H1) ∨ (∃ a, x = .ref a ∧ (∃ xs, SqT K H1 a xs) ∧ R (Itt K a) H1) ∨ ∃ z, x = .str z ∧ R (Its z) H1
theorem pi_any {tg l : Expr} {tl : TE} (hl : PE X l tl) : PI X tg l (iAny X.K tl) := by
  refine ⟨fun pins s σ H R I h => thn (hl.run pins s σ H _ I h) fun v s1 ⟨x, H1, I1, r1, q1⟩ => ?_⟩
  have one : ∀ b, b ∈ [s1.heap.objs.size] → FpOk X pins H1 b := fun b hb => by
    rw [List.mem_singleton.mp hb]
    exact I1.fpOk (Nat.le_refl _) (I1.hok.fresh (Nat.le_refl _))
  rcases q1 with ⟨a, rfl, ⟨xs, hq⟩, q⟩ | ⟨a, rfl, ⟨xs, hq⟩, q⟩ | ⟨z, rfl, q⟩
  · cases r1
    obtain ⟨its, rv, p, hz⟩ := I1.list hq
    exact wpAny_pyIter_list p.isList ⟨_, _, _, _, H1, rfl, I1.kept (t' := s1.toks) fun b o e => Heap.get?_push_of_some _ e, turn_list a _, ⟨_, Heap.get?_push_size _ rfl, rfl, rfl⟩, one, q⟩
  · cases r1
    obtain ⟨its, rv, p, hz⟩ := I1.tuple hq
    exact wpAny_pyIter_tuple (show s1.heap.IsTuple a its.toArray from p) ⟨_, _, _, _, H1, rfl, I1.kept (t' := s1.toks) fun b o e => Heap.get?_push_of_some _ e, turn_tuple a _, ⟨_, Heap.get?_push_size _ rfl, rfl, rfl⟩, one, q⟩
  · obtain ⟨t, rfl⟩ := r1
    cases ha : z.cps.all (· < 128) with
    | false => exact wpAny_pyIter_wide ha (pi_one (tk := s1.toks) I1 _ (turn_str _ z t "str_iterator" (.inr rfl)) ⟨_, Heap.get?_push_size _ rfl, rfl, rfl⟩ q)
    | true => exact wpAny_pyIter_ascii ha (pi_one (tk := s1.toks) I1 _ (turn_str _ z t "str_ascii_iterator" (.inl rfl)) ⟨_, Heap.get?_push_size _ rfl, rfl, rfl⟩ q)
theorem fin_src {m : Mem} {σ : L2.St} {post : (Nat → Addr) → Mem → Hp → Src → Prop} {d : D} {s : Src} {m' : Mem} (e : srcOf d m = .ok s m') (h : fin K w mg W σ ι m.length H post (srcOf d m)) (M : RelM K w ι m H) (hm : m' = m) : post ι m H s := by
  rw [e, hm] at h
  exact h ι H (Step.refl _ _ _) M
theorem di_any {tg l : Expr} {f : DF} (hl : DE X W l f) : DI X W tg l (dIt f) := pi_imp (pi_any hl) fun σ H Q h => by
  obtain ⟨ι, ρ, m, e, M, q⟩ := h
  refine ⟨ι, ρ, m, e, M, fin_then q fun ι1 m1 H1 d S1 M1 q1 v rv => ?_⟩
  cases d with
  | tup xs =>
    obtain ⟨a, vs, rfl, h1, h2⟩ := rv
    exact .inr (.inl ⟨a, rfl, ⟨vs, h1.sq⟩, fin_src (m' := m1) rfl q1 M1 rfl _ (itR_tup' h1 h2)⟩)
  | str z => exact .inr (.inr ⟨z, rv, fin_src (m' := m1) rfl q1 M1 rfl _ (itR_str z)⟩)
  | ref l =>
    obtain ⟨_, rfl⟩ := rv
    cases e1 : m1[l]? with
    | none => simp only [srcOf, e1] at q1; exact q1.elim
    | some o =>
      cases o with
      | lst xs =>
        obtain ⟨vs, h1, h2⟩ := list_of M1 (.inl e1)
        exact .inl ⟨_, rfl, ⟨vs, h1⟩, fin_src (m' := m1) (by simp only [srcOf, e1]) q1 M1 rfl _ (itR_list M1 e1 (.inl rfl) _ rfl)⟩
      | frl xs =>
        obtain ⟨vs, h1, h2⟩ := list_of M1 (.inr e1)
        exact .inl ⟨_, rfl, ⟨vs, h1⟩, fin_src (m' := m1) (by simp only [srcOf, e1]) q1 M1 rfl _ (itR_list M1 e1 (.inr rfl) _ rfl)⟩
      | dct _ => simp only [srcOf, e1] at q1; exact q1.elim
      | stt _ => simp only [srcOf, e1] at q1; exact q1.elim
  | _ => exact q1.elim
/-- numbers -/
def rngD (lo c : Int) (k : Nat) : List D := (List.range k).map fun i => .int (lo + (i : Nat) * c)
theorem rngD_get {lo c : Int} {k i : Nat} {d : D} (h : (rngD lo c k)[i]? = some d) : i < k ∧ d = .int (lo + (i : Nat) * c) := by
  have hl := lt_of_get h
  have hk : i < k := by simpa [rngD] using hl
  unfold rngD at h
  rw [List.getElem?_map, List.getElem?_range hk] at h
  cases h
  exact ⟨hk, rfl⟩
theorem itR_rng {m : Mem} (lo : Int) (k : Nat) : ItR K w ι m.length H (Itr lo k) ⟨rngD lo 1 k, none⟩ := by
  refine ⟨fun ι1 m1 H1 i d S M1 hok hd => (rngD_get hd).1, fun ι1 m1 H1 i d x H' S M1 hok hd hy => ?_, fun ι1 m1 H1 S M1 hok => ?_⟩
  · obtain ⟨rfl, rfl⟩ := hy
    obtain ⟨_, rfl⟩ := rngD_get hd
    exact ⟨Step.refl _ _ _, M1, by rw [Int.mul_one]; rfl⟩
  · show k ≤ (rngD lo 1 k).length
    simp [rngD]
theorem itR_rngC {m : Mem} (lo c : Int) (k : Nat) : ItR K w ι m.length H (Itc lo c k) ⟨rngD lo c k, none⟩ := by
  refine ⟨fun ι1 m1 H1 i d S M1 hok hd => (rngD_get hd).1, fun ι1 m1 H1 i d x H' S M1 hok hd hy => ?_, fun ι1 m1 H1 S M1 hok => ?_⟩
  · obtain ⟨rfl, rfl⟩ := hy
    obtain ⟨_, rfl⟩ := rngD_get hd
    exact ⟨Step.refl _ _ _, M1, rfl⟩
  · show k ≤ (rngD lo c k).length
    simp [rngD]
def smallI (i : Int) : Bool := decide (-(2 ^ 62) ≤ i ∧ i < 2 ^ 62)
theorem smallI_of {i : Int} (h : smallI i = true) : -(2 ^ 62) ≤ i ∧ i < 2 ^ 62 := of_decide_eq_true h
def D.intOf : D → Option Int
  | .int i => some i
  | _ => none
def intsOf : List D → Option (List Int)
  | [] => some []
  | d :: ds => match d.intOf, intsOf ds with
    | some i, some is => some (i :: is)
    | _, _ => none
theorem intOf_rep {d : D} {i : Int} {v : V} (h : d.intOf = some i) (r : Rep K ι n H d v) : v = .int i := by
  cases d with
  | int j => cases h; exact r
  | _ => cases h
theorem ints_of : ∀ {ds : List D} {ns : List Int} {vs : List V}, intsOf ds = some ns → Reps K ι n H ds vs → vs = ns.map V.int
  | [], _, _, h, r => by cases h; exact r
  | d :: ds, _, _, h, r => by
    obtain ⟨v, u, rfl, h1, h2⟩ := r
    unfold intsOf at h
    cases e : d.intOf with
    | none => simp only [e] at h; cases h
    | some i =>
      cases e2 : intsOf ds with
      | none => simp only [e, e2] at h; cases h
      | some is =>
        simp only [e, e2] at h
        cases h
        rw [ints_of e2 h2, intOf_rep e h1]
        rfl
/-- range(j), range(i, j), range(i, j, -1) -/
def dRange1 (f : DF) : DFi := fun ρ m => (f ρ m).bind fun d m1 => match d.intOf with
  | some j => if smallI j = true then .ok ⟨rngD 0 1 j.toNat, none⟩ m1 else .stk
  | none => .stk
def dRange2 (f g : DF) : DFi := fun ρ m => (f ρ m).bind fun d m1 => (g ρ m1).bind fun e m2 => match d.intOf, e.intOf with
  | some i, some j => if smallI i = true ∧ smallI j = true then .ok ⟨rngD i 1 (j - i).toNat, none⟩ m2 else .stk
  | _, _ => .stk
def dRangeD (f g h : DF) : DFi := fun ρ m => (f ρ m).bind fun d m1 => (g ρ m1).bind fun e m2 => (h ρ m2).bind fun c m3 => match d.intOf, e.intOf, c.intOf with
  | some i, some j, some c => if c = -1 ∧ smallI i = true ∧ smallI j = true then .ok ⟨rngD i (-1) (i - j).toNat, none⟩ m3 else .stk
  | _, _, _ => .stk
variable {a b c : Expr} {f g h : DF} {p pos : Pos}
theorem di_range1 {tg : Expr} (hg : Gl X "range") (hm : X.mg "range" = none) (ha : DE X W a f) (na : starEach [a] X.env = (false, eval a X.env) :: starEach [] X.env := by rfl) (hs : starEach [a] X.env = [(false, eval a X.env)] := by rfl) : DI X W tg (.Call (.Name "range" p) [a] [] pos) (dRange1 f) :=
  pi_imp (pi_range1 (ta := tCons (rdE X.K X.w X.mg W f) tNil) hg hm (pa_cons ha pa_nil na) hs) fun σ H Q h => by
  obtain ⟨ι, ρ, m, e, M, q⟩ := h
  refine ⟨ι, ρ, m, e, M, fin_then q fun ι1 m1 H1 d S1 M1 q1 v rv => ?_⟩
  cases e1 : d.intOf with
  | none => simp only [e1] at q1; exact q1.elim
  | some j =>
    simp only [e1] at q1
    by_cases hj : smallI j = true
    · simp only [hj, if_true] at q1
      exact ⟨j, by rw [intOf_rep e1 rv], (smallI_of hj).1, (smallI_of hj).2, fin_now (α := Src) q1 M1 _ (itR_rng 0 _)⟩
    · simp only [hj] at q1
      exact q1.elim
theorem di_range2 {tg : Expr} (hg : Gl X "range") (hm : X.mg "range" = none) (ha : DE X W a f) (hb : DE X W b g) (nb : starEach [b] X.env = (false, eval b X.env) :: starEach [] X.env := by rfl) (na : starEach [a, b] X.env = (false, eval a X.env) :: starEach [b] X.env := by rfl)
    (hs : starEach [a, b] X.env = [(false, eval a X.env), (false, eval b X.env)] := by rfl) (hs2 : starEach [b] X.env = [(false, eval b X.env)] := by rfl) : DI X W tg (.Call (.Name "range" p) [a, b] [] pos) (dRange2 f g) :=
  pi_imp (pi_range2 (ta := tCons (rdE X.K X.w X.mg W f) (tCons (rdE X.K X.w X.mg W g) tNil)) hg hm (pa_cons ha (pa_cons hb pa_nil nb) na) hs hs2) fun σ H Q h => by
  obtain ⟨ι, ρ, m, e, M, q⟩ := h
  refine ⟨ι, ρ, m, e, M, fin_then q fun ι1 m1 H1 d S1 M1 q1 v rv => ⟨ι1, ρ, m1, e.step S1, M1, fin_then q1 fun ι2 m2 H2 d2 S2 M2 q2 v2 rv2 => ?_⟩⟩
  cases e1 : d.intOf with
  | none => simp only [e1] at q2; exact q2.elim
  | some i =>
    cases e2 : d2.intOf with
    | none => simp only [e1, e2] at q2; exact q2.elim
    | some j =>
      simp only [e1, e2] at q2
      by_cases hj : smallI i = true ∧ smallI j = true
      · rw [if_pos hj] at q2
        exact ⟨i, j, by rw [intOf_rep e1 rv, intOf_rep e2 rv2], ⟨(smallI_of hj.1).1, (smallI_of hj.1).2, (smallI_of hj.2).1, (smallI_of hj.2).2⟩, fin_now (α := Src) q2 M2 _ (itR_rng i _)⟩
      · rw [if_neg hj] at q2
        exact q2.elim
theorem di_rangeD {tg : Expr} (hg : Gl X "range") (hm : X.mg "range" = none) (ha : DE X W a f) (hb : DE X W b g) (hc : DE X W c h) (nc : starEach [c] X.env = (false, eval c X.env) :: starEach [] X.env := by rfl) (nb : starEach [b, c] X.env = (false, eval b X.env) :: starEach [c] X.env := by rfl)
    (na : starEach [a, b, c] X.env = (false, eval a X.env) :: starEach [b, c] X.env := by rfl) (hpl : (backTo pos (starEach [b, c] X.env)).any (·.1) = false := by rfl) : DI X W tg (.Call (.Name "range" p) [a, b, c] [] pos) (dRangeD f g h) :=
  pi_imp (pi_range3 (ta := tCons (rdE X.K X.w X.mg W f) (tCons (rdE X.K X.w X.mg W g) (tCons (rdE X.K X.w X.mg W h) tNil))) hg hm (pa_cons ha (pa_cons hb (pa_cons hc pa_nil nc) nb) na) na hpl) fun σ H Q h => by
  obtain ⟨ι, ρ, m, e, M, q⟩ := h
  refine ⟨ι, ρ, m, e, M, fin_then q fun ι1 m1 H1 d S1 M1 q1 v rv => ⟨ι1, ρ, m1, e.step S1, M1, fin_then q1 fun ι2 m2 H2 d2 S2 M2 q2 v2 rv2 => ⟨ι2, ρ, m2, (e.step S1).step S2, M2, fin_then q2 fun ι3 m3 H3 d3 S3 M3 q3 v3 rv3 => ?_⟩⟩⟩
  cases e1 : d.intOf with
  | none => simp only [e1] at q3; exact q3.elim
  | some i =>
    cases e2 : d2.intOf with
    | none => simp only [e1, e2] at q3; exact q3.elim
    | some j =>
      cases e3 : d3.intOf with
      | none => simp only [e1, e2, e3] at q3; exact q3.elim
      | some c =>
        simp only [e1, e2, e3] at q3
        by_cases hj : c = -1 ∧ smallI i = true ∧ smallI j = true
        · rw [if_pos hj] at q3
          obtain ⟨rfl, h1, h2⟩ := hj
          exact ⟨i, j, -1, _, by rw [intOf_rep e1 rv, intOf_rep e2 rv2, intOf_rep e3 rv3], RgC.neg (smallI_of h1).1 (smallI_of h1).2 (smallI_of h2).1 (smallI_of h2).2, fin_now (α := Src) q3 M3 _ (itR_rngC i (-1) _)⟩
        · rw [if_neg hj] at q3
          exact q3.elim
/-- enumerate(list) -/
def enumD (xs : List D) : List D := (List.range xs.length).map fun i => .tup [.int (i : Nat), xs.getD i .non]
def dEnum (f : DF) : DFi := fun ρ m => (f ρ m).bind fun d m1 => match d with
  | .ref l => match m1[l]? with
    | some (.lst xs) => .ok ⟨enumD xs, some (l, .lst xs)⟩ m1
    | _ => .stk
  | _ => .stk
theorem enumD_get {xs : List D} {i : Nat} {d : D} (h : (enumD xs)[i]? = some d) : ∃ x, xs[i]? = some x ∧ d = .tup [.int (i : Nat), x] := by
  have hl := lt_of_get h
  have hk : i < xs.length := by simpa [enumD] using hl
  unfold enumD at h
  rw [List.getElem?_map, List.getElem?_range hk] at h
  cases h
  exact ⟨xs[i], List.getElem?_eq_getElem hk, by show D.tup [D.int (i : Nat), xs.getD i .non] = _; rw [List.getD_eq_getElem?_getD, List.getElem?_eq_getElem hk]; rfl⟩
/-- a new pair -/
theorem new_pair {m1 : Mem} {ι1 : Nat → Addr} {H1 : Hp} {T : Addr} {x y : V} {d e : D} (M1 : RelM K w ι1 m1 H1) (hT : H1 T = none) (r : Rep K ι1 m1.length H1 d x) (s : Rep K ι1 m1.length H1 e y) :
    Step ι1 m1.length H1 ι1 m1.length (upd H1 T (.tup [x, y])) ∧ RelM K w ι1 m1 (upd H1 T (.tup [x, y])) ∧ Rep K ι1 m1.length (upd H1 T (.tup [x, y])) (.tup [d, e]) (.ref T) :=
  ⟨Step.tup hT, M1.fresh hT, T, [x, y], rfl, .inl upd_same, Reps.cons (r.step (Step.tup hT)) (Reps.cons (s.step (Step.tup hT)) Reps.nil)⟩
theorem di_enum {e : Expr} {f : DF} {p pos tpos : Pos} {elts : List Expr} {kk : Nat} (hg : Gl X "enumerate") (hm : X.mg "enumerate" = none) (he : DE X W e f) (ha0 : starEach (e :: []) X.env = (false, eval e X.env) :: starEach [] X.env := by rfl) (hs : starEach [e] X.env = [(false, eval e X.env)] := by rfl) :
    DI X W (.Tuple elts kk tpos) (.Call (.Name "enumerate" p) [e] [] pos) (dEnum f) := pi_imp (pi_enum (ta := tCons (rdE X.K X.w X.mg W f) tNil) hg hm (pa_cons he pa_nil ha0) hs) fun σ H Q h => by
  obtain ⟨ι, ρ, m, e, M, q⟩ := h
  refine ⟨ι, ρ, m, e, M, fin_then q fun ι1 m1 H1 d S1 M1 q1 v rv => ?_⟩
  cases d with
  | ref l =>
    obtain ⟨_, rfl⟩ := rv
    cases e1 : m1[l]? with
    | none => simp only [e1] at q1; exact q1.elim
    | some o =>
      cases o with
      | lst xs =>
        simp only [e1] at q1
        obtain ⟨vs, h1, h2⟩ := list_of M1 (.inl e1)
        refine ⟨_, vs, rfl, h1, fin_now (α := Src) q1 M1 _ ?_⟩
        have look : ∀ {ι2 : Nat → Addr} {m2 : Mem} {H2 : Hp}, Step ι1 m1.length H1 ι2 m2.length H2 → RelM X.K X.w ι2 m2 H2 → (Src.mk (enumD xs) (some (l, .lst xs))).ok m2 = true → ∃ vs, SqL X.K H2 (ι1 l) vs ∧ Reps X.K ι2 m2.length H2 xs vs := fun {ι2 m2 H2} S M2 hok => by
          have e : m2[l]? = some (.lst xs) := of_decide_eq_true hok
          rw [← S.ext l (lt_of_get e1)]
          exact list_of M2 (.inl e)
        refine ⟨fun ι2 m2 H2 i d S M2 hok hd => ?_, fun ι2 m2 H2 i d x H' S M2 hok hd hy => ?_, fun ι2 m2 H2 S M2 hok => ?_⟩
        · obtain ⟨vs, h1, h2⟩ := look S M2 hok
          obtain ⟨x, hx, rfl⟩ := enumD_get hd
          obtain ⟨v, h3, _⟩ := h2.get hx
          exact ⟨vs, v, h1, h3⟩
        · obtain ⟨vs, h1, h2⟩ := look S M2 hok
          obtain ⟨z, hz, rfl⟩ := enumD_get hd
          obtain ⟨T, y, rfl, hT, rfl, h3⟩ := hy
          obtain ⟨v, h4, h5⟩ := h2.get hz
          have e := h3 vs h1
          rw [h4] at e
          cases e
          exact new_pair M2 hT (show Rep X.K ι2 m2.length H2 (.int (i : Nat)) (.int (i : Nat)) from rfl) h5
        · obtain ⟨vs, h1, h2⟩ := look S M2 hok
          refine ⟨vs, h1, ?_⟩
          have e : (enumD xs).length = xs.length := by simp [enumD]
          rw [h2.length]
          exact Nat.le_of_eq e.symm
      | frl _ => simp only [e1] at q1; exact q1.elim
      | dct _ => simp only [e1] at q1; exact q1.elim
      | stt _ => simp only [e1] at q1; exact q1.elim
  | _ => exact q1.elim
/-- zip of two lists, of two tuples -/
def zipD (xs ys : List D) : List D := (xs.zip ys).map fun p => .tup [p.1, p.2]
def lkOf (l : Nat) (xs : List D) (m : Mem) : Bool := decide (m[l]? = some (.lst xs))
/-- reversed(x) of a list, a tuple -/
def dRev (f : DF) : DFi := fun ρ m => (f ρ m).bind fun d m1 => match d with
  | .tup xs => .ok ⟨xs.reverse, none⟩ m1
  | .ref l => match m1[l]? with
    | some (.lst xs) => .ok ⟨xs.reverse, some (l, .lst xs)⟩ m1
    | some (.frl xs) => .ok ⟨xs.reverse, some (l, .frl xs)⟩ m1
    | _ => .stk
  | _ => .stk
theorem rev_get {α : Type} {xs : List α} {i : Nat} {x : α} (h : xs.reverse[i]? = some x) : i < xs.length ∧ xs[xs.length - 1 - i]? = some x := by
  have hl := lt_of_get h
  rw [List.length_reverse] at hl
  rw [List.getElem?_reverse hl] at h
  exact ⟨hl, h⟩
theorem di_rev {tg e : Expr} {f : DF} {p pos : Pos} (hg : Gl X "reversed") (hm : X.mg "reversed" = none) (he : DE X W e f) (hs : starEach [e] X.env = (false, eval e X.env) :: starEach [] X.env := by rfl) : DI X W tg (.Call (.Name "reversed" p) [e] [] pos) (dRev f) :=
  pi_imp (pi_revA hg hm he hs) fun σ H Q h => by
  obtain ⟨ι, ρ, m, e, M, q⟩ := h
  refine ⟨ι, ρ, m, e, M, fin_then q fun ι1 m1 H1 d S1 M1 q1 v rv => ?_⟩
  cases d with
  | tup xs =>
    obtain ⟨a, vs, rfl, h1, h2⟩ := rv
    refine ⟨a, vs, rfl, .inr ⟨h1.sq, fin_now (α := Src) q1 M1 _ ?_⟩⟩
    refine ⟨fun ι2 m2 H2 i d S M2 hok hd => ?_, fun ι2 m2 H2 i d x H' S M2 hok hd hy => ?_, fun ι2 m2 H2 S M2 hok => ?_⟩
    · obtain ⟨hl, hx⟩ := rev_get hd
      obtain ⟨u, h3, _⟩ := h2.get hx
      rw [← h2.length] at h3 hl
      exact ⟨hl, vs, u, (h1.step S).sq, h3⟩
    · obtain ⟨rfl, h3⟩ := hy
      obtain ⟨hl, hx⟩ := rev_get hd
      obtain ⟨u, h4, h5⟩ := h2.get hx
      have e := h3 vs (h1.step S).sq
      rw [h2.length, h4] at e
      cases e
      exact ⟨Step.refl _ _ _, M2, h5.step S⟩
    · show vs.length ≤ xs.reverse.length
      rw [List.length_reverse, h2.length]
      exact Nat.le_refl _
  | ref l =>
    obtain ⟨_, rfl⟩ := rv
    have go : ∀ {o : MO} {xs : List D}, m1[l]? = some o → (o = .lst xs ∨ o = .frl xs) → (∀ J, ItR X.K X.w ι1 m1.length H1 J ⟨xs.reverse, some (l, o)⟩ → Q J H1) → ∃ (a : Addr) (vs : List V), V.ref (ι1 l) = .ref a ∧ ((SqL X.K H1 a vs ∧ Q (Itv X.K a vs.length) H1) ∨ (SqT X.K H1 a vs ∧ Q (ItvT X.K a vs.length) H1)) := fun {o xs} e1 ho k => by
      have look : ∀ {ι2 : Nat → Addr} {m2 : Mem} {H2 : Hp}, Step ι1 m1.length H1 ι2 m2.length H2 → RelM X.K X.w ι2 m2 H2 → (Src.mk xs.reverse (some (l, o))).ok m2 = true → ∃ vs, SqL X.K H2 (ι1 l) vs ∧ Reps X.K ι2 m2.length H2 xs vs := fun {ι2 m2 H2} S M2 hok => by
        have e : m2[l]? = some o := of_decide_eq_true hok
        rw [← S.ext l (lt_of_get e1)]
        rcases ho with rfl | rfl
        · exact list_of M2 (.inl e)
        · exact list_of M2 (.inr e)
      obtain ⟨vs, h1, h2⟩ : ∃ vs, SqL X.K H1 (ι1 l) vs ∧ Reps X.K ι1 m1.length H1 xs vs := by
        rcases ho with rfl | rfl
        · exact list_of M1 (.inl e1)
        · exact list_of M1 (.inr e1)
      refine ⟨_, vs, rfl, .inl ⟨h1, k _ ?_⟩⟩
      refine ⟨fun ι2 m2 H2 i d S M2 hok hd => ?_, fun ι2 m2 H2 i d x H' S M2 hok hd hy => ?_, fun ι2 m2 H2 S M2 hok => ?_⟩
      · obtain ⟨us, h3, h4⟩ := look S M2 hok
        obtain ⟨hl, hx⟩ := rev_get hd
        obtain ⟨u, h5, _⟩ := h4.get hx
        rw [h2.length]
        exact ⟨hl, us, u, h3, h5⟩
      · obtain ⟨rfl, h3⟩ := hy
        obtain ⟨us, h6, h7⟩ := look S M2 hok
        obtain ⟨hl, hx⟩ := rev_get hd
        obtain ⟨u, h4, h5⟩ := h7.get hx
        have e := h3 us h6
        rw [h2.length, h4] at e
        cases e
        exact ⟨Step.refl _ _ _, M2, h5⟩
      · show vs.length ≤ xs.reverse.length
        rw [List.length_reverse, h2.length]
        exact Nat.le_refl _
    cases e1 : m1[l]? with
    | none => simp only [e1] at q1; exact q1.elim
    | some o =>
      cases o with
      | lst xs => simp only [e1] at q1; exact go e1 (.inl rfl) (fin_now (α := Src) q1 M1)
      | frl xs => simp only [e1] at q1; exact go e1 (.inr rfl) (fin_now (α := Src) q1 M1)
      | dct _ => simp only [e1] at q1; exact q1.elim
      | stt _ => simp only [e1] at q1; exact q1.elim
  | _ => exact q1.elim
/-- reversed(range(n)) -/
def dRevR (f : DF) : DFi := fun ρ m => (f ρ m).bind fun d m1 => match d with
  | .int j => if smallI j = true then .ok ⟨rngD ((j.toNat : Nat) - 1) (-1) j.toNat, none⟩ m1 else .stk
  | _ => .stk
theorem di_revR {tg a : Expr} {f : DF} {p p2 pos pos2 : Pos} (hg : Gl X "reversed") (hm : X.mg "reversed" = none) (hg2 : Gl X "range") (hm2 : X.mg "range" = none) (ha : DE X W a f) (na : starEach [a] X.env = (false, eval a X.env) :: starEach [] X.env := by rfl)
    (hs : starEach [(Expr.Call (.Name "range" p2) [a] [] pos2)] X.env = (false, eval (.Call (.Name "range" p2) [a] [] pos2) X.env) :: starEach [] X.env := by rfl) :
    DI X W tg (.Call (.Name "reversed" p) [.Call (.Name "range" p2) [a] [] pos2] [] pos) (dRevR f) := pi_imp (pi_revR (tr := tRg1 (rdE X.K X.w X.mg W f)) hg hm (prg_1 hg2 hm2 ha na) hs) fun σ H Q h => by
  obtain ⟨ι, ρ, m, e, M, q⟩ := h
  refine ⟨ι, ρ, m, e, M, fin_then q fun ι1 m1 H1 d S1 M1 q1 v rv => ?_⟩
  cases d with
  | int j =>
    have q2 : fin X.K X.w X.mg W σ ι1 m1.length H1 _ (if smallI j = true then R.ok (Src.mk (rngD ((j.toNat : Nat) - 1) (-1) j.toNat) none) m1 else R.stk) := q1
    by_cases hj : smallI j = true
    · rw [if_pos hj] at q2
      have hj2 : -(2 ^ 62) ≤ j ∧ j < 2 ^ 62 := of_decide_eq_true hj
      refine ⟨j, rv, by decide, by decide, hj2.1, hj2.2, fin_now (α := Src) q2 M1 _ ?_⟩
      have e0 : (0 : Int) + (((j - 0).toNat : Nat) : Int) - 1 = (j.toNat : Nat) - 1 := by rw [Int.sub_zero, Int.zero_add]
      rw [e0, Int.sub_zero]
      exact itR_rngC _ (-1) _
    · rw [if_neg hj] at q2
      exact q2.elim
  | _ => exact q1.elim

/-! ### isinstance -/
def tyD (m : Mem) : D → Option String
  | .non => some "NoneType"
  | .bl _ => some "bool"
  | .int _ => some "int"
  | .str _ => some "str"
  | .tup _ => some "tuple"
  | .ref l => match m[l]? with
    | some (.lst _) => some "list"
    | some (.frl _) => some "list"
    | _ => none
/-- a is b, or under it -/
def isiB (a b : String) : Bool := a == b || (a == "bool" && b == "int")
def isiTypes : List String := ["NoneType", "bool", "int", "str", "tuple", "list"]
def isiAsked : List String := ["bool", "int", "str", "tuple", "list", "dict"]
theorem isi_tab : (isiTypes.all fun a => isiAsked.all fun b => decide (kitB a b = some (isiB a b))) = true := by decide +kernel
def opIsi (T : String) : O1 := fun d m => match tyD m d with
  | some t => if isiTypes.contains t && isiAsked.contains T then .ok (.bl (isiB t T)) m else .stk
  | none => .stk
theorem ty_of {m : Mem} (M : RelM K w ι m H) {d : D} {v : V} {t : String} (r : Rep K ι m.length H d v) (h : tyD m d = some t) : TyX K H v (.type t) := by
  cases d with
  | non => cases h; obtain rfl : v = .non := r; exact .base .non
  | bl b => cases h; obtain rfl : v = .bl b := r; exact .base (.bl b)
  | int b => cases h; obtain rfl : v = .int b := r; exact .base (.int b)
  | str b => cases h; obtain rfl : v = .str b := r; exact .base (.str b)
  | tup ds =>
    cases h
    obtain ⟨a, vs, rfl, h1, _⟩ := r
    rcases h1 with h1 | ⟨o, its, k, h1, h2, _⟩
    · exact .base (.tup h1)
    · exact .kTuple h1 h2
  | ref l =>
    obtain ⟨_, rfl⟩ := r
    unfold tyD at h
    cases e : m[l]? with
    | none => simp only [e] at h; cases h
    | some o =>
      cases o with
      | lst xs =>
        simp only [e] at h; cases h
        obtain ⟨vs, h1, _⟩ := M.obj l _ e
        exact .base (.lst h1)
      | frl xs =>
        simp only [e] at h; cases h
        obtain ⟨vs, _, h1⟩ := M.obj l _ e
        rcases h1 with ⟨ob, h1⟩ | ⟨o, its, k, h1, h2, _⟩
        · exact .base (.frz h1)
        · exact .kList h1 h2
      | dct _ => simp only [e] at h; cases h
      | stt _ => simp only [e] at h; cases h
theorem de_isi {e : Expr} {f : DF} {T : String} {xT : Str} {p p2 pos : Pos} (hg : Gl X "isinstance") (hm : X.mg "isinstance" = none) (hg2 : Gl X xT) (hm2 : X.mg xT = none) (hv2 : bootBuiltins xT = some (.type T)) (he : DE X W e f)
    (hn : xT ≠ "__name__" := by decide) (hdb : (xT == ("__debug__" : Str)) = false := by decide)
    (hs1 : starEach [(Expr.Name xT p2)] X.env = (false, eval (.Name xT p2) X.env) :: starEach [] X.env := by rfl) (hs2 : starEach [e, (Expr.Name xT p2)] X.env = (false, eval e X.env) :: starEach [(Expr.Name xT p2)] X.env := by rfl)
    (hpl : (backTo pos (starEach [(Expr.Name xT p2)] X.env)).any (·.1) = false := by rfl) :
    DE X W (.Call (.Name "isinstance" p) [e, .Name xT p2] [] pos) (dUn (opIsi T) f) := pe_imp (pe_callB call_isi hg hm (by decide +kernel) (pa_cons he (pa_cons (pe_bltn (v := .ty T) hg2 hm2 hv2 rfl hn hdb) pa_nil hs1) hs2) (by decide) (by decide) hs2 hpl) fun σ H Q h => by
  obtain ⟨ι, ρ, m, e, M, q⟩ := h
  refine ⟨ι, ρ, m, e, M, fin_then q fun ι1 m1 H1 d S1 M1 q1 v rv => ?_⟩
  cases ht : tyD m1 d with
  | none => simp only [opIsi, ht] at q1; exact q1.elim
  | some t =>
    cases hc : (isiTypes.contains t && isiAsked.contains T) with
    | false => simp only [opIsi, ht, hc] at q1; exact q1.elim
    | true =>
      simp only [opIsi, ht, hc, if_true] at q1
      have hk : kitB t T = some (isiB t T) := by
        have h1 := List.all_eq_true.mp isi_tab t (by simpa using (Bool.and_eq_true_iff.mp hc).1)
        have h2 := List.all_eq_true.mp h1 T (by simpa using (Bool.and_eq_true_iff.mp hc).2)
        exact of_decide_eq_true h2
      exact ⟨_, _, _, _, _, rfl, .ty T, ty_of M1 rv ht, kit_ty hk, fin_now (α := D) q1 M1 _ rfl⟩
end
end DL
/-! The D layer: truth, in, turned lists, the greatest, dicts. -/
namespace DL
open PySem PySem.Spec L2

section
variable {X : Cx} {K : PySem.W.Frag} {w : World} {mg : Str → Option Value} {W : WX} {ι : Nat → Addr} {n : Nat} {H : Hp}

/-! ### dicts: what a key gives -/
/-- the value at a key -/
def lookD (kvs : List (D × D)) (k : D) : Option D := (kvs.find? fun p => decide (p.1 = k)).map (·.2)
def putD (kvs : List (D × D)) (k v : D) : List (D × D) := if (lookD kvs k).isSome = true then kvs.map (fun p => if p.1 = k then (p.1, v) else p) else kvs ++ [(k, v)]
mutual
/-- a key tells the data -/
theorem nk_inj : ∀ (a b : D) (k : NestedKey), a.nk = some k → b.nk = some k → a = b
  | .non, b, k, h, h' => by cases h; cases b <;> first | rfl | (simp [D.nk] at h') 
  | .int i, b, k, h, h' => by cases h; cases b <;> first | (simp only [D.nk, Option.some.injEq, NestedKey.num.injEq] at h'; rw [h']) | (simp [D.nk] at h')
  | .str i, b, k, h, h' => by cases h; cases b <;> first | (simp only [D.nk, Option.some.injEq, NestedKey.text.injEq] at h'; rw [h']) | (simp [D.nk] at h')
  | .bl _, _, _, h, _ => by cases h
  | .ref _, _, _, h, _ => by cases h
  | .tup xs, b, k, h, h' => by
    unfold D.nk at h
    cases e : D.nks xs with
    | none => simp only [e, Option.map_none] at h; cases h
    | some ks =>
      simp only [e, Option.map_some] at h
      cases h
      cases b with
      | tup ys =>
        unfold D.nk at h'
        cases e2 : D.nks ys with
        | none => simp only [e2, Option.map_none] at h'; cases h'
        | some js =>
          simp only [e2, Option.map_some, Option.some.injEq, NestedKey.tup.injEq] at h'
          subst h'
          rw [nks_inj xs ys js e e2]
      | _ => simp [D.nk] at h'
theorem nks_inj : ∀ (as bs : List D) (ks : List NestedKey), D.nks as = some ks → D.nks bs = some ks → as = bs
  | [], bs, ks, h, h' => by
    cases h
    cases bs with
    | nil => rfl
    | cons b bs =>
      unfold D.nks at h'
      cases e : b.nk with
      | none => simp only [e] at h'; cases h'
      | some k =>
        cases e2 : D.nks bs with
        | none => simp only [e, e2] at h'; cases h'
        | some js => simp only [e, e2] at h'; cases h'
  | a :: as, bs, ks, h, h' => by
    unfold D.nks at h
    cases e : a.nk with
    | none => simp only [e] at h; cases h
    | some k =>
      cases e2 : D.nks as with
      | none => simp only [e, e2] at h; cases h
      | some js =>
        simp only [e, e2] at h
        cases h
        cases bs with
        | nil => cases h'
        | cons b bs =>
          unfold D.nks at h'
          cases e3 : b.nk with
          | none => simp only [e3] at h'; cases h'
          | some k' =>
            cases e4 : D.nks bs with
            | none => simp only [e3, e4] at h'; cases h'
            | some js' =>
              simp only [e3, e4, Option.some.injEq, List.cons.injEq] at h'
              obtain ⟨rfl, rfl⟩ := h'
              rw [nk_inj a b k' e e3, nks_inj as bs js' e2 e4]
end
theorem key_inj {a b : D} {k : Key} (h : a.key = some k) (h' : b.key = some k) : a = b := by
  cases a with
  | int i => cases h; cases b <;> first | (simp only [D.key, Option.some.injEq, Sum.inl.injEq] at h'; rw [h']) | (simp [D.key] at h')
  | str i => cases h; cases b <;> first | (simp only [D.key, Option.some.injEq, Sum.inr.injEq] at h'; rw [h']) | (simp [D.key] at h')
  | _ => cases h

/-! ### keys at values -/
mutual
def KeyAt (K : PySem.W.Frag) (H : Hp) : NestedKey → V → Prop
  | .none, v => v = .non
  | .num i, v => v = .int i
  | .text x, v => v = .str x
  | .tup ks, v => ∃ a vs, v = .ref a ∧ SqT K H a vs ∧ KeysAt K H ks vs
def KeysAt (K : PySem.W.Frag) (H : Hp) : List NestedKey → List V → Prop
  | [], vs => vs = []
  | k :: ks, vs => ∃ v r, vs = v :: r ∧ KeyAt K H k v ∧ KeysAt K H ks r
end
mutual
theorem key_rep : ∀ (d : D) (k : NestedKey) (v : V), d.nk = some k → Rep K ι n H d v → KeyAt K H k v
  | .non, _, _, h, r => by cases h; exact r
  | .int _, _, _, h, r => by cases h; exact r
  | .str _, _, _, h, r => by cases h; exact r
  | .bl _, _, _, h, _ => by cases h
  | .ref _, _, _, h, _ => by cases h
  | .tup xs, k, _, h, r => by
    obtain ⟨a, vs, rfl, h1, h2⟩ := r
    unfold D.nk at h
    cases e : D.nks xs with
    | none => simp only [e, Option.map_none] at h; cases h
    | some ks =>
      simp only [e, Option.map_some] at h
      cases h
      exact ⟨a, vs, rfl, h1.sq, keys_rep xs ks vs e h2⟩
theorem keys_rep : ∀ (ds : List D) (ks : List NestedKey) (vs : List V), D.nks ds = some ks → Reps K ι n H ds vs → KeysAt K H ks vs
  | [], _, _, h, r => by cases h; exact r
  | d :: ds, ks, _, h, r => by
    obtain ⟨v, u, rfl, h1, h2⟩ := r
    unfold D.nks at h
    cases e : d.nk with
    | none => simp only [e] at h; cases h
    | some k =>
      cases e2 : D.nks ds with
      | none => simp only [e, e2] at h; cases h
      | some js =>
        simp only [e, e2] at h
        cases h
        exact ⟨v, u, rfl, key_rep d k v e h1, keys_rep ds js u e2 h2⟩
end
section
variable {pins : List (Addr × Obj)} {σ : L2.St} {s : Shared}
mutual
theorem key_is (I : Inv X pins σ H s) : ∀ (k : NestedKey) (v : V) (u : Value), KeyAt X.K H k v → RelV v u → NestedIs s.heap k u
  | .none, _, _, h, r => by obtain rfl := h; obtain rfl := r; exact .none
  | .num i, _, _, h, r => by obtain rfl := h; obtain ⟨t, rfl⟩ := r; exact .int i t
  | .text x, _, _, h, r => by obtain rfl := h; obtain ⟨t, rfl⟩ := r; exact .text x t
  | .tup ks, _, _, h, r => by
    obtain ⟨a, vs, rfl, h1, h2⟩ := h
    obtain rfl := r
    obtain ⟨its, rv, ⟨o, ho, hc, k, hd⟩, _⟩ := I.tuple h1
    exact .tup ho hc hd (keys_is I ks vs its h2 rv)
theorem keys_is (I : Inv X pins σ H s) : ∀ (ks : List NestedKey) (vs : List V) (us : List Value), KeysAt X.K H ks vs → Vals vs us → NestedAll s.heap ks us
  | [], _, _, h, r => by obtain rfl := h; cases r; exact .nil
  | k :: ks, _, _, h, r => by
    obtain ⟨v, w, rfl, h1, h2⟩ := h
    cases r with
    | cons r1 r2 => exact .cons (key_is I k v _ h1 r1) (keys_is I ks w _ h2 r2)
end

/-! ### dicts by tuples -/
abbrev KX := List (NestedKey × Addr × V)
def valN (xs : KX) (k : NestedKey) : Option V := (xs.find? fun p => decide (p.1 = k)).map (·.2.2)
def putN (xs : KX) (k : NestedKey) (b : Addr) (v : V) : KX := if (valN xs k).isSome = true then xs.map (fun p => if p.1 = k then (p.1, p.2.1, v) else p) else xs ++ [(k, b, v)]
abbrev KXR : KX → List (NestedKey × Addr × Value) → Prop := Paired fun p q => p.1 = q.1 ∧ p.2.1 = q.2.1 ∧ RelV p.2.2 q.2.2
theorem kxr_val : ∀ {xs : KX} {ys : List (NestedKey × Addr × Value)} (k : NestedKey), KXR xs ys → RelO (valN xs k) ((atKey ys k).map (·.2))
  | _, _, k, .nil => trivial
  | p :: xs, q :: ys, k, .cons ⟨h1, h2, h3⟩ t => by
    have ih := kxr_val k t
    unfold valN atKey at ih ⊢
    by_cases e : p.1 = k
    · have e2 : q.1 = k := h1 ▸ e
      simp only [List.find?_cons, e, e2, decide_true]
      exact h3
    · have e2 : ¬ q.1 = k := h1 ▸ e
      simp only [List.find?_cons, e, e2, decide_false]
      exact ih
theorem kxr_len {xs : KX} {ys : List (NestedKey × Addr × Value)} (r : KXR xs ys) : xs.length = ys.length := Paired.length r
theorem kxr_map {xs : KX} {ys : List (NestedKey × Addr × Value)} (r : KXR xs ys) (k : NestedKey) {v : V} {u : Value} (rv : RelV v u) : KXR (xs.map fun p => if p.1 = k then (p.1, p.2.1, v) else p) (ys.map (putAt k u)) := by
  induction r with
  | nil => exact .nil
  | @cons p q _ _ h t ih =>
    refine .cons ?_ ih
    obtain ⟨h1, h2, h3⟩ := h
    unfold putAt
    dsimp only
    by_cases e : p.1 = k
    · rw [if_pos e, if_pos (h1 ▸ e)]; exact ⟨h1, h2, rv⟩
    · rw [if_neg e, if_neg (h1 ▸ e)]; exact ⟨h1, h2, h3⟩
theorem kxr_app : ∀ {xs xs' : KX} {ys ys' : List (NestedKey × Addr × Value)}, KXR xs ys → KXR xs' ys' → KXR (xs ++ xs') (ys ++ ys')
  | _, _, _, _, .nil, h => h
  | _, _, _, _, .cons h t, g => .cons h (kxr_app t g)
theorem kxr_put {xs : KX} {ys : List (NestedKey × Addr × Value)} (r : KXR xs ys) (k : NestedKey) (b : Addr) {v : V} {u : Value} (rv : RelV v u) : KXR (putN xs k b v) (storedH ys k b u) := by
  have h := kxr_val k r
  unfold putN storedH
  have e : (valN xs k).isSome = (atKey ys k).isSome := by rw [h.isSome_eq, Option.isSome_map]
  rw [e]
  split
  · exact kxr_map r k rv
  · exact kxr_app r (.cons ⟨rfl, rfl, rv⟩ .nil)
/-- the keys are there -/
def KeysOk (K : PySem.W.Frag) (H : Hp) (xs : KX) : Prop := ∀ p ∈ xs, KeyAt K H p.1 (.ref p.2.1) ∧ p.1.depth ≤ 8
theorem dN_of {P : Program} {h : Heap} {a : Addr} {xs : KX} (I : Inv X pins σ H s) (e : H a = some (dN X.w a xs)) (ok : KeysOk X.K H xs) :
    (a == sysModules) = false ∧ xs.length ≤ sizeLine ∧ ∃ ys, KXR xs ys ∧ s.heap.DictOfH (nestedKind X.prog X.w) a ys := by
  obtain ⟨⟨h1, h2, ys, r, o, es, ep, h3, h4, h5, h6, h7⟩, _⟩ := I.hok a _ e
  refine ⟨h1, h2, ys, r, o, es, ep, h3, h4, h5, h6, fun y hy => ?_, h7⟩
  obtain ⟨j, hj, ej⟩ := List.getElem_of_mem hy
  have hj2 : j < xs.length := by rw [kxr_len r]; exact hj
  have key : ∀ {xs : KX} {ys : List (NestedKey × Addr × Value)}, KXR xs ys → ∀ {j : Nat} {y}, ys[j]? = some y → ∃ x, xs[j]? = some x ∧ x.1 = y.1 ∧ x.2.1 = y.2.1 := by
    intro xs ys r
    induction r with
    | nil => intro j y h; simp at h
    | cons h t ih =>
      intro j y hy
      cases j with
      | zero => simp at hy; subst hy; exact ⟨_, rfl, h.1, h.2.1⟩
      | succ j => exact (by obtain ⟨x, h1, h2⟩ := ih (by simpa using hy); exact ⟨x, by simpa using h1, h2⟩)
  obtain ⟨x, hx, e1, e2⟩ := key r (by rw [List.getElem?_eq_getElem hj, ej])
  obtain ⟨k1, k2⟩ := ok x (List.mem_of_getElem? hx)
  rw [← e1, ← e2]
  exact ⟨key_is I _ _ _ k1 rfl, k2⟩
theorem dN_new {P : Program} {H' : Hp} {h' : Heap} {a : Addr} {xs : KX} {ys : List (NestedKey × Addr × Value)} (h1 : (a == sysModules) = false) (h2 : xs.length ≤ sizeLine) (r : KXR xs ys) (dd : h'.DictOfH (nestedKind P w) a ys) : ObjOk P w H' h' a (dN w a xs) := by
  obtain ⟨o, es, ep, h3, h4, h5, h6, _, h7⟩ := dd
  refine ⟨⟨h1, h2, ys, r, o, es, ep, h3, h4, h5, h6, h7⟩, ⟨o, h3⟩, fun g g' ⟨a1, a2, zs, a3, o', es', ep', a4, a5⟩ k => ⟨a1, a2, zs, a3, o', es', ep', k _ a4, a5⟩⟩
/-- a dict of tuples, or one that is empty -/
def IsDN (K : PySem.W.Frag) (w : World) (H : Hp) (a : Addr) (xs : KX) : Prop := (H a = some (dN w a xs) ∧ KeysOk K H xs) ∨ (xs = [] ∧ H a = some (.dK []))
theorem isDN_of {a : Addr} {xs : KX} (I : Inv X pins σ H s) (e : IsDN X.K X.w H a xs) :
    (a == sysModules) = false ∧ xs.length ≤ sizeLine ∧ ∃ ys, KXR xs ys ∧ s.heap.DictOfH (nestedKind X.prog X.w) a ys := by
  rcases e with ⟨e, ok⟩ | ⟨rfl, e⟩
  · exact dN_of (P := X.prog) (h := s.heap) I e ok
  · obtain ⟨_, hd, vs, rel, o, es, ep, h1, h2, h3, h4, h5, _⟩ := dk_of I.hok e
    cases rel
    refine ⟨hd, Nat.zero_le _, [], .nil, o, es, ep, h1, h2, h3, ?_, fun x hx => (by cases hx), List.nodup_nil⟩
    generalize es.toList = l at h5
    cases h5
    rfl
/-- d[k], k in d, d[k] = v, d.get(k, x) -/
def rIxN (K : PySem.W.Frag) (w : World) : R2 := fun x y H Q => ∃ a b xs k v, x = .ref a ∧ y = .ref b ∧ IsDN K w H a xs ∧ KeyAt K H k (.ref b) ∧ k.depth ≤ 8 ∧ valN xs k = some v ∧ Q v H
def rInN (K : PySem.W.Frag) (w : World) (neg : Bool) : R2 := fun y x H Q => ∃ a b xs k, x = .ref a ∧ y = .ref b ∧ IsDN K w H a xs ∧ KeyAt K H k (.ref b) ∧ k.depth ≤ 8 ∧ Q (.bl ((valN xs k).isSome != neg)) H
theorem room8 {A : Around} (hu : A.units + 9 < cLine) : A.in1.units + 8 < cLine := by
  show A.units + 1 + 8 < cLine
  omega
theorem ix_N (hu : X.A.units + 9 < cLine) : IxR X (rIxN X.K X.w) := by
  intro value slice pins s σ H x y v u Q I rx ry h hs
  obtain ⟨a, b, xs, k, r, rfl, rfl, hd, hk, hk8, hv, q⟩ := h
  cases rx
  cases ry
  obtain ⟨h1, h2, ys, rel, dd⟩ := isDN_of I hd
  obtain ⟨w', hw, rw'⟩ := RelO.some_of (v := r) (o := (atKey ys k).map (·.2)) (by rw [← hv]; exact kxr_val k rel)
  obtain ⟨p, hp, rfl⟩ := Option.map_eq_some_iff.mp hw
  exact PyProof.Rows.subscriptTail_builtinR (x := p.2) dd.typeIs PySem.F.slot_dict_getitem.lookup
    (wpAny_getItem_heap (knd := nestedKind X.prog X.w) (Q := fun z s' => z = p.2 ∧ EP X pins σ Q z s') (room8 hu) ⟨key_is I k _ _ hk rfl, hk8⟩ dd hp ⟨rfl, r, H, I.tok _, rw', q⟩) hs
/-- a dict by ints and texts -/
def rIxK : R2 := fun x y H Q => ∃ a kvs k v, x = .ref a ∧ y = kV k ∧ H a = some (.dK kvs) ∧ valV kvs k = some v ∧ Q v H
theorem ix_K : IxR X rIxK := by
  intro value slice pins s σ H x y v u Q I rx ry h hs
  obtain ⟨a, kvs, k, r, rfl, rfl, hd, hv, q⟩ := h
  cases rx
  obtain ⟨z, hne, vs, rel, dd⟩ := dk_of I.hok hd
  obtain ⟨w', hw, rw'⟩ := RelO.some_of (v := r) (o := valueAt vs k) (by rw [← hv]; exact rel.val k)
  exact PyProof.Rows.subscriptTail_builtinR (x := w') dd.typeIs PySem.F.slot_dict_getitem.lookup
    (wpAny_getItem_of (Q := fun z s' => z = w' ∧ EP X pins σ Q z s') (kV_is ry) dd.mapOf hw ⟨rfl, r, H, I.tok _, rw', q⟩) hs
def rInK (neg : Bool) : R2 := fun y x H Q => ∃ a kvs k, x = .ref a ∧ y = kV k ∧ H a = some (.dK kvs) ∧ Q (.bl ((valV kvs k).isSome != neg)) H
theorem op_inK (hu : X.A.units + 9 < cLine) : OpR X (compareOp .In) (rInK false) := by
  intro pins s σ H y x u v Q I ry rx h
  obtain ⟨a, kvs, k, rfl, rfl, hd, q⟩ := h
  cases rx
  exact d_in (by omega) I (DGet.k hd) ry fun s' I' => ⟨.bl _, H, I', rfl, by simpa using q⟩
theorem op_notInK (hu : X.A.units + 9 < cLine) : OpR X (compareOp .NotIn) (rInK true) := by
  intro pins s σ H y x u v Q I ry rx h
  obtain ⟨a, kvs, k, rfl, rfl, hd, q⟩ := h
  cases rx
  exact d_notIn (by omega) I (DGet.k hd) ry fun s' I' => ⟨.bl _, H, I', rfl, by simpa using q⟩
def rSetK : V → V → V → Hp → (Hp → Prop) → Prop := fun o i v H Q => ∃ a kvs k, o = .ref a ∧ i = kV k ∧ H a = some (.dK kvs) ∧ kvs.length < sizeLine ∧ Q (upd H a (.dK (putK kvs k v)))
theorem set_K (hu : X.A.units + 9 < cLine) : PSet X rSetK := by
  intro pins s σ H o i v ov iv u Q I ro ri rv h
  obtain ⟨a, kvs, k, rfl, rfl, hd, hz, q⟩ := h
  cases ro
  exact d_setItem (by omega) I (DPut.k hd hz) ri rv fun s' I' => ⟨_, I', q⟩
theorem op_inN (hu : X.A.units + 9 < cLine) : OpR X (compareOp .In) (rInN X.K X.w false) := by
  intro pins s σ H y x u v Q I ry rx h
  obtain ⟨a, b, xs, k, rfl, rfl, hd, hk, hk8, q⟩ := h
  cases rx
  cases ry
  obtain ⟨h1, h2, ys, rel, dd⟩ := isDN_of I hd
  refine wpAny_in_heap (knd := nestedKind X.prog X.w) (room8 hu) ⟨key_is I k _ _ hk rfl, hk8⟩ h1 dd ⟨.bl _, H, I.tok _, rfl, ?_⟩
  have e := (kxr_val k rel).isSome_eq
  rw [Option.isSome_map] at e
  rw [← e]
  simpa using q
theorem op_notInN (hu : X.A.units + 9 < cLine) : OpR X (compareOp .NotIn) (rInN X.K X.w true) := by
  intro pins s σ H y x u v Q I ry rx h
  obtain ⟨a, b, xs, k, rfl, rfl, hd, hk, hk8, q⟩ := h
  cases rx
  cases ry
  obtain ⟨h1, h2, ys, rel, dd⟩ := isDN_of I hd
  refine PyProof.Rows.wpAny_notIn_heap (knd := nestedKind X.prog X.w) (room8 hu) ⟨key_is I k _ _ hk rfl, hk8⟩ h1 dd ⟨.bl _, H, I.tok _, rfl, ?_⟩
  have e := (kxr_val k rel).isSome_eq
  rw [Option.isSome_map] at e
  rw [← e]
  simpa using q
def rSetN (K : PySem.W.Frag) (w : World) : V → V → V → Hp → (Hp → Prop) → Prop := fun o i v H Q => ∃ a b xs k, o = .ref a ∧ i = .ref b ∧ IsDN K w H a xs ∧ KeyAt K H k (.ref b) ∧ k.depth ≤ 8 ∧ xs.length < sizeLine ∧ Q (upd H a (dN w a (putN xs k b v)))
theorem putN_len (xs : KX) (k : NestedKey) (b : Addr) (v : V) : (putN xs k b v).length ≤ xs.length + 1 := by
  unfold putN
  split
  · rw [List.length_map]; omega
  · rw [List.length_append]; exact Nat.le_refl _
theorem set_N (hu : X.A.units + 9 < cLine) : PSet X (rSetN X.K X.w) := by
  intro pins s σ H o i v ov iv u Q I ro ri rv h
  obtain ⟨a, b, xs, k, rfl, rfl, hd, hk, hk8, hz, q⟩ := h
  cases ro
  cases ri
  obtain ⟨h1, h2, ys, rel, dd⟩ := isDN_of I hd
  refine wpAny_setItem_heap (knd := nestedKind X.prog X.w) (hsz := by rw [← kxr_len rel]; exact h2) (room8 hu) ⟨key_is I k _ _ hk rfl, hk8⟩ dd fun h' dd' hs => ⟨_, ?_, q⟩
  have mu : Mut (H a) := by
    rcases hd with ⟨e, _⟩ | ⟨_, e⟩ <;> rw [e] <;> exact True.intro
  have he : ∃ q, h'.get? a = some q := let ⟨q, _, _, hq, _⟩ := dd'; ⟨q, hq⟩
  exact d_write I mu hs he (dN_new h1 (Nat.le_trans (putN_len _ _ _ _) hz) (kxr_put rel k b rv) dd')
end
end
end DL
/-! The D layer: dicts by data, truth, further sequence rules, methods, calls by name. -/
namespace DL
open PySem PySem.Spec L2

section
variable {X : Cx} {K : PySem.W.Frag} {w : World} {mg : Str → Option Value} {W : WX} {ι : Nat → Addr} {n : Nat} {H : Hp}

/-! ### dicts by data -/
def flatK (e : D) : Bool := e.key.isSome
def tupK (e : D) : Bool := match e with
  | .tup xs => match (D.tup xs).nk with
    | some k => decide (k.depth ≤ 8)
    | none => false
  | _ => false
theorem key_rep' {d : D} {k : Key} {v : V} (h : d.key = some k) (r : Rep K ι n H d v) : v = kV k := by
  cases d with
  | int i => cases h; exact r
  | str x => cases h; exact r
  | _ => cases h
theorem pk_val {kvs : List (D × D)} {ks : List (Key × V)} {e : D} {k : Key} (he : e.key = some k) :
    Paired (fun (p : D × D) (q : Key × V) => p.1.key = some q.1 ∧ Rep K ι n H p.2 q.2) kvs ks →
    (lookD kvs e = none ∧ valV ks k = none) ∨ ∃ d v, lookD kvs e = some d ∧ valV ks k = some v ∧ Rep K ι n H d v := by
  intro r
  induction r with
  | nil => exact .inl ⟨rfl, rfl⟩
  | @cons p q ps qs h t ih =>
    by_cases hk : p.1 = e
    · have hq : q.1 = k := by
        rw [hk, he] at h
        exact (Option.some.inj h.1).symm
      exact .inr ⟨p.2, q.2, by simp [lookD, List.find?, hk], by simp [valV, List.find?, hq], h.2⟩
    · have hq : ¬ q.1 = k := fun z => hk (key_inj (k := k) (by rw [h.1, z]) he)
      rcases ih with ⟨h1, h2⟩ | ⟨d, v, h1, h2, h3⟩
      · exact .inl ⟨by simp only [lookD, List.find?, hk, decide_false] at h1 ⊢; exact h1, by simp only [valV, List.find?, hq, decide_false] at h2 ⊢; exact h2⟩
      · exact .inr ⟨d, v, by simp only [lookD, List.find?, hk, decide_false] at h1 ⊢; exact h1, by simp only [valV, List.find?, hq, decide_false] at h2 ⊢; exact h2, h3⟩
theorem pn_val {kvs : List (D × D)} {xs : KX} {e : D} {k : NestedKey} (he : e.nk = some k) :
    Paired (fun (p : D × D) (q : NestedKey × Addr × V) => (∃ ds, p.1 = .tup ds) ∧ p.1.nk = some q.1 ∧ q.1.depth ≤ 8 ∧ Rep K ι n H p.1 (.ref q.2.1) ∧ Rep K ι n H p.2 q.2.2) kvs xs →
    (lookD kvs e = none ∧ valN xs k = none) ∨ ∃ d v, lookD kvs e = some d ∧ valN xs k = some v ∧ Rep K ι n H d v := by
  intro r
  induction r with
  | nil => exact .inl ⟨rfl, rfl⟩
  | @cons p q ps qs h t ih =>
    by_cases hk : p.1 = e
    · have hq : q.1 = k := by
        rw [hk, he] at h
        exact (Option.some.inj h.2.1).symm
      exact .inr ⟨p.2, q.2.2, by simp [lookD, List.find?, hk], by simp [valN, List.find?, hq], h.2.2.2.2⟩
    · have hq : ¬ q.1 = k := fun z => hk (nk_inj _ _ k (by rw [h.2.1, z]) he)
      rcases ih with ⟨h1, h2⟩ | ⟨d, v, h1, h2, h3⟩
      · exact .inl ⟨by simp only [lookD, List.find?, hk, decide_false] at h1 ⊢; exact h1, by simp only [valN, List.find?, hq, decide_false] at h2 ⊢; exact h2⟩
      · exact .inr ⟨d, v, by simp only [lookD, List.find?, hk, decide_false] at h1 ⊢; exact h1, by simp only [valN, List.find?, hq, decide_false] at h2 ⊢; exact h2, h3⟩
theorem pn_ok {kvs : List (D × D)} {xs : KX} (r : Paired (fun (p : D × D) (q : NestedKey × Addr × V) => (∃ ds, p.1 = .tup ds) ∧ p.1.nk = some q.1 ∧ q.1.depth ≤ 8 ∧ Rep K ι n H p.1 (.ref q.2.1) ∧ Rep K ι n H p.2 q.2.2) kvs xs) : KeysOk K H xs := by
  induction r with
  | nil => intro p hp; cases hp
  | @cons p q ps qs h t ih =>
    intro z hz
    rcases List.mem_cons.mp hz with rfl | hz
    · exact ⟨key_rep _ _ _ h.2.1 h.2.2.2.1, h.2.2.1⟩
    · exact ih z hz
/-- what a key that is there is -/
theorem look_mem {kvs : List (D × D)} {e d : D} (h : lookD kvs e = some d) : (e, d) ∈ kvs := by
  unfold lookD at h
  obtain ⟨p, h1, h2⟩ := Option.map_eq_some_iff.mp h
  have := List.find?_some h1
  have e1 : p.1 = e := by simpa using this
  have := List.mem_of_find?_eq_some h1
  rw [← e1, ← h2]; exact this
theorem paired_mem {α β : Type} {F : α → β → Prop} : ∀ {xs : List α} {ys : List β}, Paired F xs ys → ∀ {x}, x ∈ xs → ∃ y, y ∈ ys ∧ F x y
  | _, _, .nil, _, h => by cases h
  | _, _, .cons r t, x, h => by
    rcases List.mem_cons.mp h with rfl | h
    · exact ⟨_, List.mem_cons_self, r⟩
    · obtain ⟨y, h1, h2⟩ := paired_mem t h
      exact ⟨y, List.mem_cons_of_mem _ h1, h2⟩
def opIxM : O2 := fun d e m => match d with
  | .ref l => match m[l]? with
    | some (.dct kvs) => match lookD kvs e with
      | some x => .ok x m
      | none => .stk
    | _ => opIx (.ref l) e m
  | d => opIx d e m
def rIxM (K : PySem.W.Frag) (w : World) : R2 := fun x y H Q => rIx K x y H Q ∨ rIxK x y H Q ∨ rIxN K w x y H Q
theorem ix_M (hu : X.A.units + 9 < cLine) : IxR X (rIxM X.K X.w) := ix_seq.or (ix_K.or (ix_N hu))
theorem dct_of {m : Mem} (M : RelM K w ι m H) {l : Nat} {kvs : List (D × D)} (h : m[l]? = some (.dct kvs)) : ObjR K w ι m.length H (ι l) (.dct kvs) := M.obj l _ h
theorem tupK_of {e : D} (h : tupK e = true) : ∃ xs k, e = .tup xs ∧ e.nk = some k ∧ k.depth ≤ 8 := by
  cases e with
  | tup xs =>
    cases h1 : (D.tup xs).nk with
    | none => unfold tupK at h; simp only [h1] at h; cases h
    | some k => unfold tupK at h; simp only [h1] at h; exact ⟨xs, k, rfl, rfl, of_decide_eq_true h⟩
  | _ => cases h
theorem dop_ixM : DOp K w mg W (rIxM K w) opIxM := fun σ ι m H x y d e Q M rx ry q => by
  by_cases hd : ∃ l kvs, d = .ref l ∧ m[l]? = some (.dct kvs)
  · obtain ⟨l, kvs, rfl, h1⟩ := hd
    cases h2 : lookD kvs e with
    | none => simp only [opIxM, h1, h2] at q; exact q.elim
    | some z =>
      simp only [opIxM, h1, h2] at q
      obtain ⟨_, rfl⟩ := rx
      rcases dct_of M h1 with ⟨ks, h3, h4⟩ | ⟨xs, h3, hne, h4⟩
      · obtain ⟨p, hp, hk, _⟩ := paired_mem h4 (look_mem h2)
        rcases pk_val hk h4 with ⟨z1, _⟩ | ⟨d', v, z1, z2, z3⟩
        · rw [h2] at z1; cases z1
        · rw [h2] at z1
          cases z1
          exact .inr (.inl ⟨_, ks, p.1, v, rfl, key_rep' hk ry, h3, z2, fin_now (α := D) q M _ z3⟩)
      · obtain ⟨p, hp, ⟨ds, ed⟩, hk, hk8, _⟩ := paired_mem h4 (look_mem h2)
        have ed' : e = .tup ds := ed
        subst ed'
        rcases pn_val hk h4 with ⟨z1, _⟩ | ⟨d', v, z1, z2, z3⟩
        · rw [h2] at z1; cases z1
        · rw [h2] at z1
          cases z1
          obtain ⟨a, vs, rfl, h5, h6⟩ := id ry
          exact .inr (.inr ⟨_, a, xs, p.1, v, rfl, rfl, .inl ⟨h3, pn_ok h4⟩, key_rep _ _ _ hk ry, hk8, z2, fin_now (α := D) q M _ z3⟩)
  · refine .inl (dop_ix (mg := mg) (W := W) σ ι m H x y d e Q M rx ry ?_)
    have : opIxM d e m = opIx d e m := by
      unfold opIxM
      cases d with
      | ref l =>
        cases h1 : m[l]? with
        | none => simp [h1]
        | some o =>
          cases o with
          | dct kvs => exact absurd ⟨l, kvs, rfl, h1⟩ hd
          | _ => simp [h1]
      | _ => rfl
    rw [← this]; exact q
theorem de_ixM {a b : Expr} {fa fb : DF} {pos : Pos} (hu : X.A.units + 9 < cLine) (ha : DE X W a fa) (hb : DE X W b fb) (hs : PlainIx b) : DE X W (.Subscript a b pos) (dBin opIxM fa fb) := de_ix (ix_M hu) dop_ixM ha hb hs
/-- d[k] = v -/
def opSetM : O3 := fun o i v m => match o with
  | .ref l => match m[l]? with
    | some (.dct kvs) => if kvs.length < sizeLine ∧ ((flatK i = true ∧ (kvs.all fun p => flatK p.1) = true) ∨ (tupK i = true ∧ (kvs.all fun p => tupK p.1) = true)) then .ok () (m.set l (.dct (putD kvs i v))) else .stk
    | _ => opSet (.ref l) i v m
  | o => opSet o i v m
def rSetM (K : PySem.W.Frag) (w : World) : V → V → V → Hp → (Hp → Prop) → Prop := fun o i v H Q => rSetL o i v H Q ∨ rSetK o i v H Q ∨ rSetN K w o i v H Q
theorem PSet.or' {t t' : TSet} (h : PSet X t) (h' : PSet X t') : PSet X (fun o i v H Q => t o i v H Q ∨ t' o i v H Q) := by
  intro pins s σ H o i v ov iv u Q I ro ri rv q
  rcases q with q | q
  · exact h pins s σ H o i v ov iv u Q I ro ri rv q
  · exact h' pins s σ H o i v ov iv u Q I ro ri rv q
theorem set_M (hu : X.A.units + 9 < cLine) : PSet X (rSetM X.K X.w) := PSet.or' set_list (PSet.or' (set_K hu) (set_N hu))
theorem pk_put {kvs : List (D × D)} {ks : List (Key × V)} {e d : D} {k : Key} {v : V} (he : e.key = some k) (rv : Rep K ι n H d v)
    (r : Paired (fun (p : D × D) (q : Key × V) => p.1.key = some q.1 ∧ Rep K ι n H p.2 q.2) kvs ks) :
    Paired (fun (p : D × D) (q : Key × V) => p.1.key = some q.1 ∧ Rep K ι n H p.2 q.2) (putD kvs e d) (putK ks k v) := by
  have hs : (lookD kvs e).isSome = (valV ks k).isSome := by
    rcases pk_val he r with ⟨h1, h2⟩ | ⟨_, _, h1, h2, _⟩ <;> rw [h1, h2] <;> rfl
  have app : ∀ {xs : List (D × D)} {ys : List (Key × V)}, Paired (fun (p : D × D) (q : Key × V) => p.1.key = some q.1 ∧ Rep K ι n H p.2 q.2) xs ys → Paired (fun (p : D × D) (q : Key × V) => p.1.key = some q.1 ∧ Rep K ι n H p.2 q.2) (xs ++ [(e, d)]) (ys ++ [(k, v)]) := by
    intro xs ys r
    induction r with
    | nil => exact .cons ⟨he, rv⟩ .nil
    | cons h t ih => exact .cons h ih
  have any : (ks.any fun kv => decide (kv.1 = k)) = (valV ks k).isSome := by
    clear hs r app
    induction ks with
    | nil => rfl
    | cons q qs ih =>
      rw [List.any_cons, ih]
      by_cases hq : q.1 = k <;> simp [valV, List.find?, hq]
  have mp : ∀ {kvs : List (D × D)} {ks : List (Key × V)}, Paired (fun (p : D × D) (q : Key × V) => p.1.key = some q.1 ∧ Rep K ι n H p.2 q.2) kvs ks → Paired (fun (p : D × D) (q : Key × V) => p.1.key = some q.1 ∧ Rep K ι n H p.2 q.2) (kvs.map fun p => if p.1 = e then (p.1, d) else p) (ks.map fun p => if p.1 = k then (p.1, v) else p) := by
    intro kvs ks r
    induction r with
    | nil => exact .nil
    | @cons p q ps qs h t ih =>
      refine .cons ?_ ih
      by_cases hk : p.1 = e
      · have hq : q.1 = k := by rw [hk, he] at h; exact (Option.some.inj h.1).symm
        simp only [hk, hq, if_true]
        exact ⟨he, rv⟩
      · have hq : ¬ q.1 = k := fun z => hk (key_inj (k := k) (by rw [h.1, z]) he)
        simp only [hk, hq, if_false]
        exact h
  unfold putD putK
  rw [hs, any]
  split
  · exact mp r
  · exact app r
theorem pn_put {kvs : List (D × D)} {xs : KX} {e d : D} {k : NestedKey} {a : Addr} {v : V} (he : e.nk = some k) (h8 : k.depth ≤ 8) (hT : ∃ ds, e = .tup ds) (re : Rep K ι n H e (.ref a)) (rv : Rep K ι n H d v)
    (r : Paired (fun (p : D × D) (q : NestedKey × Addr × V) => (∃ ds, p.1 = .tup ds) ∧ p.1.nk = some q.1 ∧ q.1.depth ≤ 8 ∧ Rep K ι n H p.1 (.ref q.2.1) ∧ Rep K ι n H p.2 q.2.2) kvs xs) :
    Paired (fun (p : D × D) (q : NestedKey × Addr × V) => (∃ ds, p.1 = .tup ds) ∧ p.1.nk = some q.1 ∧ q.1.depth ≤ 8 ∧ Rep K ι n H p.1 (.ref q.2.1) ∧ Rep K ι n H p.2 q.2.2) (putD kvs e d) (putN xs k a v) := by
  have hs : (lookD kvs e).isSome = (valN xs k).isSome := by
    rcases pn_val he r with ⟨h1, h2⟩ | ⟨_, _, h1, h2, _⟩ <;> rw [h1, h2] <;> rfl
  unfold putD putN
  rw [hs]
  split
  · clear hs
    rename_i hh
    clear hh
    induction r with
    | nil => exact .nil
    | @cons p q ps qs h t ih =>
      refine .cons ?_ ih
      by_cases hk : p.1 = e
      · have hq : q.1 = k := by rw [hk, he] at h; exact (Option.some.inj h.2.1).symm
        simp only [hk, hq, if_true]
        exact ⟨hT, he, h8, by rw [← hk]; exact h.2.2.2.1, rv⟩
      · have hq : ¬ q.1 = k := fun z => hk (nk_inj _ _ k (by rw [h.2.1, z]) he)
        simp only [hk, hq, if_false]
        exact h
  · rename_i hh
    clear hh hs
    induction r with
    | nil => exact .cons ⟨hT, he, h8, re, rv⟩ .nil
    | cons h t ih => exact .cons h ih
theorem putD_all {kvs : List (D × D)} {e d : D} {f : D → Bool} (he : f e = true) (h : (kvs.all fun p => f p.1) = true) : ((putD kvs e d).all fun p => f p.1) = true := by
  unfold putD
  split
  · rw [List.all_map]
    rw [List.all_eq_true] at h ⊢
    intro p hp
    show f (if p.1 = e then (p.1, d) else p).1 = true
    split
    · exact h p hp
    · exact h p hp
  · rw [List.all_append, h, Bool.true_and]
    simp [he]
theorem dset_M : DSetR K w mg W (rSetM K w) opSetM := fun σ ι m H o i v do_ di dv Q M ro ri rv q => by
  by_cases hd : ∃ l kvs, do_ = .ref l ∧ m[l]? = some (.dct kvs)
  · obtain ⟨l, kvs, rfl, h1⟩ := hd
    simp only [opSetM, h1] at q
    by_cases hc : kvs.length < sizeLine ∧ ((flatK di = true ∧ (kvs.all fun p => flatK p.1) = true) ∨ (tupK di = true ∧ (kvs.all fun p => tupK p.1) = true))
    · rw [if_pos hc] at q
      obtain ⟨hz, hk⟩ := hc
      obtain ⟨_, rfl⟩ := ro
      have hlen : ∀ o', (m.set l o').length = m.length := fun o' => List.length_set
      rcases hk with ⟨hf, ha⟩ | ⟨ht, ha⟩
      · obtain ⟨k, hk⟩ := Option.isSome_iff_exists.mp hf
        rcases dct_of M h1 with ⟨ks, h3, h4⟩ | ⟨xs, h3, hne, h4⟩
        · have S := Step.wr (ho := .dK (putK ks k v)) M h1 rfl
          refine .inr (.inl ⟨_, ks, k, rfl, key_rep' hk ri, h3, by rw [← Paired.length h4]; exact hz, q ι _ (by rw [hlen]; exact S) (M.wr h1 rfl rfl (.inl ⟨_, upd_same, ?_⟩))⟩)
          exact Paired.mp (fun p q z => ⟨z.1, Rep.step S _ _ z.2⟩) (pk_put hk rv h4)
        · cases h4 with
          | nil => exact absurd rfl hne
          | @cons p qq ps qs h t =>
            rw [List.all_cons, Bool.and_eq_true] at ha
            obtain ⟨ds, ed⟩ := h.1
            rw [ed] at ha
            cases ha.1
      · obtain ⟨es, k, rfl, hk, h8⟩ := tupK_of ht
        obtain ⟨a, vs, rfl, h5, h6⟩ := id ri
        have go : ∀ xs : KX, IsDN K w H (ι l) xs → Paired (fun (p : D × D) (q : NestedKey × Addr × V) => (∃ ds, p.1 = .tup ds) ∧ p.1.nk = some q.1 ∧ q.1.depth ≤ 8 ∧ Rep K ι m.length H p.1 (.ref q.2.1) ∧ Rep K ι m.length H p.2 q.2.2) kvs xs → rSetN K w (.ref (ι l)) (.ref a) v H Q := fun xs hI h4 => by
          have S := Step.wr (ho := dN w (ι l) (putN xs k a v)) M h1 rfl
          refine ⟨_, a, xs, k, rfl, rfl, hI, key_rep _ _ _ hk ri, h8, by rw [← Paired.length h4]; exact hz, q ι _ (by rw [hlen]; exact S) (M.wr h1 rfl rfl (.inr ⟨_, upd_same, ?_, ?_⟩))⟩
          · unfold putD
            split
            · rename_i hh
              intro z
              have : kvs = [] := by simpa using z
              rw [this] at hh
              cases hh
            · simp
          · exact Paired.mp (fun p q z => ⟨z.1, z.2.1, z.2.2.1, Rep.step S _ _ z.2.2.2.1, Rep.step S _ _ z.2.2.2.2⟩) (pn_put hk h8 ⟨es, rfl⟩ ri rv h4)
        rcases dct_of M h1 with ⟨ks, h3, h4⟩ | ⟨xs, h3, hne, h4⟩
        · cases h4 with
          | nil => exact .inr (.inr (go [] (.inr ⟨rfl, h3⟩) .nil))
          | @cons p qq ps qs h t =>
            rw [List.all_cons, Bool.and_eq_true] at ha
            obtain ⟨es2, k2, e2, _⟩ := tupK_of ha.1
            have := h.1
            rw [e2] at this
            cases this
        · exact .inr (.inr (go xs (.inl ⟨h3, pn_ok h4⟩) h4))
    · rw [if_neg hc] at q
      exact q.elim
  · refine .inl (dset_list (mg := mg) (W := W) σ ι m H o i v do_ di dv Q M ro ri rv ?_)
    have : opSetM do_ di dv m = opSet do_ di dv m := by
      unfold opSetM
      cases do_ with
      | ref l =>
        cases h1 : m[l]? with
        | none => simp [h1]
        | some o =>
          cases o with
          | dct kvs => exact absurd ⟨l, kvs, rfl, h1⟩ hd
          | _ => simp [h1]
      | _ => rfl
    rw [← this]; exact q
end
end DL
/-! The D layer: membership, truth, further rules of lists, methods, calls by name. -/
namespace DL
open PySem PySem.Spec L2

section
variable {X : Cx} {K : PySem.W.Frag} {w : World} {mg : Str → Option Value} {W : WX} {ι : Nat → Addr} {n : Nat} {H : Hp}

/-! ### x in y -/
def subStr (a b : Str) : Bool := !(Builtin.Str.occurrences b a 0 b.length 1).isEmpty
def inData (neg : Bool) : O2 := fun x y m => match pyM m x, pyM m y with
  | some d, some (.list ds) => if SeqAt.shaped d && SeqAt.shaped (.list ds) then .ok (.bl ((ds.any fun z => PyData.eqv z d) != neg)) m else .stk
  | some d, some (.tuple ds) => if SeqAt.shaped d && SeqAt.shaped (.tuple ds) then .ok (.bl ((ds.any fun z => PyData.eqv z d) != neg)) m else .stk
  | _, _ => .stk
def inDct (neg : Bool) (kvs : List (D × D)) (x : D) (m : Mem) : R D := if (flatK x = true ∧ (kvs.all fun p => flatK p.1) = true) ∨ (tupK x = true ∧ (kvs.all fun p => tupK p.1) = true) then .ok (.bl ((lookD kvs x).isSome != neg)) m else .stk
def opInB (neg : Bool) : O2 := fun x y m => match y with
  | .str b => match x with
    | .str a => .ok (.bl (subStr a b != neg)) m
    | _ => .stk
  | .ref l => match m[l]? with
    | some (.dct kvs) => inDct neg kvs x m
    | _ => inData neg x (.ref l) m
  | y => inData neg x y m
abbrev opIn : O2 := opInB false
abbrev opNotIn : O2 := opInB true
def rInTu (K : PySem.W.Frag) (neg : Bool) : R2 := fun x y H Q => ∃ d ds, Dp K H x d ∧ Dp K H y (.tuple ds) ∧ SeqAt.shaped d = true ∧ SeqAt.shaped (.tuple ds) = true ∧ Q (.bl ((ds.any fun z => PyData.eqv z d) != neg)) H
theorem room_tu {A : Around} {ds : List PyData} {d : PyData} (h : SeqAt.shaped d = true) (hu : A.units + 65 < cLine) : A.units + 1 + min (PyData.depthAll ds) d.depth < cLine := by
  have := SeqAt.depth_of_shaped h
  have := Nat.min_le_right (PyData.depthAll ds) d.depth
  omega
theorem op_inTu (hu : X.A.units + 65 < cLine) : OpR X (compareOp .In) (rInTu X.K false) := by
  intro pins s σ H x y v u Q I rx ry h
  obtain ⟨d, ds, hd, he, sd, se, q⟩ := h
  obtain ⟨as, r1⟩ := Dp.reads I d x v hd rx
  obtain ⟨bs, r2⟩ := Dp.reads I (.tuple ds) y u he ry
  exact SeqAt.in_tuple_reads r2 r1 (SeqAt.canLay_of_shaped se) (SeqAt.canLay_of_shaped sd) (room_tu sd hu) ⟨.bl _, H, I, rfl, by simpa using q⟩
theorem op_notInTu (hu : X.A.units + 65 < cLine) : OpR X (compareOp .NotIn) (rInTu X.K true) := by
  intro pins s σ H x y v u Q I rx ry h
  obtain ⟨d, ds, hd, he, sd, se, q⟩ := h
  obtain ⟨as, r1⟩ := Dp.reads I d x v hd rx
  obtain ⟨bs, r2⟩ := Dp.reads I (.tuple ds) y u he ry
  exact SeqAt.notIn_tuple_reads r2 r1 (SeqAt.canLay_of_shaped se) (SeqAt.canLay_of_shaped sd) (room_tu sd hu) ⟨.bl _, H, I, rfl, by simpa using q⟩
def rInS' (neg : Bool) : R2 := fun x y H Q => ∃ i j, x = .str i ∧ y = .str j ∧ Q (.bl (subStr i j != neg)) H
def rInLD (K : PySem.W.Frag) (neg : Bool) : R2 := fun x y H Q => ∃ d ds, Dp K H x d ∧ Dp K H y (.list ds) ∧ SeqAt.shaped d = true ∧ SeqAt.shaped (.list ds) = true ∧ Q (.bl ((ds.any fun z => PyData.eqv z d) != neg)) H
def rInAll (K : PySem.W.Frag) (w : World) (neg : Bool) : R2 := fun x y H Q => rInS' neg x y H Q ∨ rInLD K neg x y H Q ∨ rInTu K neg x y H Q ∨ rInK neg x y H Q ∨ rInN K w neg x y H Q
theorem OpR.mono {f : Value → Value → Sem Value} {r r' : R2} (h : OpR X f r) (i : ∀ x y H Q, r' x y H Q → r x y H Q) : OpR X f r' := fun pins s σ H x y v u Q I rx ry q => h pins s σ H x y v u Q I rx ry (i _ _ _ _ q)
theorem op_inAll (hu : X.A.units + 65 < cLine) : OpR X (compareOp .In) (rInAll X.K X.w false) :=
  (OpR.mono op_in_str fun x y H Q ⟨i, j, e, e', q⟩ => ⟨i, j, e, e', by simpa [subStr] using q⟩).or ((OpR.mono (op_inD hu) fun x y H Q ⟨d, ds, a, b, c, e, q⟩ => ⟨d, ds, a, b, c, e, by simpa using q⟩).or ((op_inTu hu).or ((op_inK (by omega)).or (op_inN (by omega)))))
theorem op_notInAll (hu : X.A.units + 65 < cLine) : OpR X (compareOp .NotIn) (rInAll X.K X.w true) :=
  (OpR.mono L2.op_notIn_str fun x y H Q ⟨i, j, e, e', q⟩ => ⟨i, j, e, e', by simpa [subStr] using q⟩).or ((OpR.mono (op_notInD hu) fun x y H Q ⟨d, ds, a, b, c, e, q⟩ => ⟨d, ds, a, b, c, e, by simpa using q⟩).or ((op_notInTu hu).or ((op_notInK (by omega)).or (op_notInN (by omega)))))
theorem inData_ok {neg : Bool} {σ : L2.St} {m : Mem} {x y : V} {d e : D} {Q : VK} (M : RelM K w ι m H) (rx : Rep K ι m.length H d x) (ry : Rep K ι m.length H e y) (q : fin K w mg W σ ι m.length H (pV K Q) (inData neg d e m)) : rInLD K neg x y H Q ∨ rInTu K neg x y H Q := by
  unfold inData at q
  cases e1 : pyM m d with
  | none => rw [e1] at q; exact q.elim
  | some p =>
    cases e2 : pyM m e with
    | none => rw [e1, e2] at q; exact q.elim
    | some pe =>
      rw [e1, e2] at q
      cases pe with
      | list ds =>
        cases h : (SeqAt.shaped p && SeqAt.shaped (.list ds)) with
        | false => simp only [h] at q; exact q.elim
        | true =>
          simp only [h, if_true] at q
          have h' := Bool.and_eq_true_iff.mp h
          exact .inl ⟨p, ds, pyM_dp M e1 rx, pyM_dp M e2 ry, h'.1, h'.2, fin_now (α := D) q M _ rfl⟩
      | tuple ds =>
        cases h : (SeqAt.shaped p && SeqAt.shaped (.tuple ds)) with
        | false => simp only [h] at q; exact q.elim
        | true =>
          simp only [h, if_true] at q
          have h' := Bool.and_eq_true_iff.mp h
          exact .inr ⟨p, ds, pyM_dp M e1 rx, pyM_dp M e2 ry, h'.1, h'.2, fin_now (α := D) q M _ rfl⟩
      | _ => exact q.elim
theorem dop_in {neg : Bool} : DOp K w mg W (rInAll K w neg) (opInB neg) := fun σ ι m H x y d e Q M rx ry q => by
  have base : ∀ {e : D}, Rep K ι m.length H e y → fin K w mg W σ ι m.length H (pV K Q) (inData neg d e m) → rInAll K w neg x y H Q := fun ry q => by
    rcases inData_ok M rx ry q with z | z
    · exact .inr (.inl z)
    · exact .inr (.inr (.inl z))
  cases e with
  | str b =>
    cases d with
    | str a => exact .inl ⟨a, b, rx, ry, fin_now (α := D) q M _ rfl⟩
    | _ => exact q.elim
  | ref l =>
    cases h1 : m[l]? with
    | none => simp only [opInB, h1] at q; exact base ry q
    | some o =>
      cases o with
      | dct kvs =>
        simp only [opInB, h1, inDct] at q
        by_cases hc : (flatK d = true ∧ (kvs.all fun p => flatK p.1) = true) ∨ (tupK d = true ∧ (kvs.all fun p => tupK p.1) = true)
        · rw [if_pos hc] at q
          obtain ⟨_, rfl⟩ := ry
          have q' := fin_now (α := D) q M _ rfl
          rcases hc with ⟨hf, ha⟩ | ⟨ht, ha⟩
          · obtain ⟨k, hk⟩ := Option.isSome_iff_exists.mp hf
            rcases dct_of M h1 with ⟨ks, h3, h4⟩ | ⟨xs, h3, hne, h4⟩
            · refine .inr (.inr (.inr (.inl ⟨_, ks, k, rfl, key_rep' hk rx, h3, ?_⟩)))
              rcases pk_val hk h4 with ⟨z1, z2⟩ | ⟨_, _, z1, z2, _⟩ <;> rw [z2] <;> rw [z1] at q' <;> exact q'
            · cases h4 with
              | nil => exact absurd rfl hne
              | @cons p qq ps qs h t =>
                rw [List.all_cons, Bool.and_eq_true] at ha
                obtain ⟨ds, ed⟩ := h.1
                rw [ed] at ha
                cases ha.1
          · obtain ⟨es, k, rfl, hk, h8⟩ := tupK_of ht
            obtain ⟨a, vs, rfl, h5, h6⟩ := id rx
            rcases dct_of M h1 with ⟨ks, h3, h4⟩ | ⟨xs, h3, hne, h4⟩
            · cases h4 with
              | nil => exact .inr (.inr (.inr (.inr ⟨_, a, [], k, rfl, rfl, .inr ⟨rfl, h3⟩, key_rep _ _ _ hk rx, h8, q'⟩)))
              | @cons p qq ps qs h t =>
                rw [List.all_cons, Bool.and_eq_true] at ha
                obtain ⟨es2, k2, e2, _⟩ := tupK_of ha.1
                have := h.1
                rw [e2] at this
                cases this
            · refine .inr (.inr (.inr (.inr ⟨_, a, xs, k, rfl, rfl, .inl ⟨h3, pn_ok h4⟩, key_rep _ _ _ hk rx, h8, ?_⟩)))
              rcases pn_val hk h4 with ⟨z1, z2⟩ | ⟨_, _, z1, z2, _⟩ <;> rw [z2] <;> rw [z1] at q' <;> exact q'
        · rw [if_neg hc] at q
          exact q.elim
      | _ => simp only [opInB, h1] at q; exact base ry q
  | _ => exact base ry q

/-! ### truth -/
def truD (d : D) (m : Mem) : Option Bool := match d with
  | .non => some false
  | .bl b => some b
  | .int i => some (i != 0)
  | .str x => if x.length ≤ sizeLine then some ((x.length : Int) != 0) else none
  | .tup xs => some (!xs.isEmpty)
  | .ref l => match m[l]? with
    | some (.lst xs) => some (!xs.isEmpty)
    | some (.frl xs) => some (!xs.isEmpty)
    | _ => none
def dTru (f : DF) : DFb := fun ρ m => (f ρ m).bind fun d m1 => match truD d m1 with
  | some b => .ok b m1
  | none => .stk
theorem reps_empty {ds : List D} {vs : List V} (r : Reps K ι n H ds vs) : vs.isEmpty = ds.isEmpty := by
  have := r.length
  cases ds <;> cases vs <;> first | rfl | simp at this
theorem tru_rep {m : Mem} (M : RelM K w ι m H) {d : D} {v : V} {b : Bool} (h : truD d m = some b) (r : Rep K ι m.length H d v) : TruV K v H b := by
  cases d with
  | non => cases h; obtain rfl := r; exact rfl
  | bl c => cases h; obtain rfl := r; exact rfl
  | int i => cases h; obtain rfl := r; exact rfl
  | str x =>
    obtain rfl := r
    unfold truD at h
    by_cases hz : x.length ≤ sizeLine
    · simp only [hz, if_true] at h
      cases h
      exact ⟨hz, rfl⟩
    · simp only [hz, if_false] at h
      cases h
  | tup xs =>
    cases h
    obtain ⟨a, vs, rfl, h1, h2⟩ := r
    exact .inr (.inl ⟨vs, h1.sq, by rw [reps_empty h2]⟩)
  | ref l =>
    obtain ⟨_, rfl⟩ := r
    unfold truD at h
    cases h1 : m[l]? with
    | none => simp only [h1] at h; cases h
    | some o =>
      cases o with
      | lst xs =>
        simp only [h1] at h; cases h
        obtain ⟨vs, h2, h3⟩ := list_of M (.inl h1)
        exact .inl ⟨vs, h2, by rw [reps_empty h3]⟩
      | frl xs =>
        simp only [h1] at h; cases h
        obtain ⟨vs, h2, h3⟩ := list_of M (.inr h1)
        exact .inl ⟨vs, h2, by rw [reps_empty h3]⟩
      | _ => simp only [h1] at h; cases h
theorem dt_tru {e : Expr} {f : DF} (h : DE X W e f) (he : ∀ whole, isTrue e X.env whole = (do let v ← whole; standAt e.pos; holding [v] (truthy v)) := by intro _; rfl) : DT X W e (dTru f) :=
  pt_imp (pt_truth h he) fun σ H Q q => by
    obtain ⟨ι, ρ, m, E, M, q⟩ := q
    refine ⟨ι, ρ, m, E, M, fin_then q fun ι1 m1 H1 d S1 M1 q1 v rv => ?_⟩
    cases e1 : truD d m1 with
    | none => simp only [e1] at q1; exact q1.elim
    | some b =>
      simp only [e1] at q1
      exact ⟨b, tru_rep M1 e1 rv, fin_nowB (W := W) (σ := σ) (b := b) (m := m1) (Q := Q) q1 M1⟩

/-! ### xs[::-1] of a list -/
def opRevL : O1 := fun d m => match d with
  | .ref l => match seqOf m (.ref l) with
    | some xs => .ok (.ref m.length) (m ++ [.lst xs.reverse])
    | none => .stk
  | _ => .stk
theorem de_revL {e : Expr} {f : DF} {k : Nat} {p1 p2 p3 pos : Pos} (he : DE X W e f) : DE X W (.Subscript e (.Slice none none (some (.UnaryOp .USub (.Constant (.int 1) k p1) p2)) p3) pos) (dUn opRevL f) := pe_imp (pe_revL he) fun σ H Q h => by
  obtain ⟨ι, ρ, m, e, M, q⟩ := h
  refine ⟨ι, ρ, m, e, M, fin_then q fun ι1 m1 H1 d S1 M1 q1 v rv => ?_⟩
  cases d with
  | ref l =>
    cases e1 : seqOf m1 (.ref l) with
    | none => simp only [opRevL, e1] at q1; exact q1.elim
    | some xs =>
      simp only [opRevL, e1] at q1
      obtain ⟨a, vs, rfl, h1, h2⟩ := seqOf_sq M1 e1 rv
      exact ⟨a, vs, rfl, h1, fin_lst M1 h2.reverse q1⟩
  | _ => exact q1.elim

/-! ### max, min of a list of ints -/
def bestI (f : Int → Int → Int) : List Int → Option Int
  | [] => none
  | i :: is => some (is.foldl f i)
def opBest (f : Int → Int → Int) : O1 := fun d m => match d with
  | .ref l => match seqOf m (.ref l) with
    | some xs => match intsOf xs with
      | some ns => match bestI f ns with
        | some i => .ok (.int i) m
        | none => .stk
      | none => .stk
    | none => .stk
  | _ => .stk
theorem fold_max : ∀ (is : List Int) (i : Int), (is.foldl max i = i ∨ is.foldl max i ∈ is) ∧ i ≤ is.foldl max i ∧ ∀ y ∈ is, y ≤ is.foldl max i
  | [], i => ⟨.inl rfl, Int.le_refl _, fun y h => by cases h⟩
  | j :: js, i => by
    obtain ⟨h1, h2, h3⟩ := fold_max js (max i j)
    refine ⟨?_, Int.le_trans (Int.le_max_left i j) h2, fun y hy => ?_⟩
    · rcases h1 with h1 | h1
      · rw [List.foldl_cons, h1]
        rcases Int.le_total i j with z | z
        · exact .inr (by rw [Int.max_eq_right z]; exact List.mem_cons_self)
        · exact .inl (Int.max_eq_left z)
      · exact .inr (List.mem_cons_of_mem _ h1)
    · rcases List.mem_cons.mp hy with rfl | hy
      · exact Int.le_trans (Int.le_max_right i y) h2
      · exact h3 y hy
theorem fold_min : ∀ (is : List Int) (i : Int), (is.foldl min i = i ∨ is.foldl min i ∈ is) ∧ is.foldl min i ≤ i ∧ ∀ y ∈ is, is.foldl min i ≤ y
  | [], i => ⟨.inl rfl, Int.le_refl _, fun y h => by cases h⟩
  | j :: js, i => by
    obtain ⟨h1, h2, h3⟩ := fold_min js (min i j)
    refine ⟨?_, Int.le_trans h2 (Int.min_le_left i j), fun y hy => ?_⟩
    · rcases h1 with h1 | h1
      · rw [List.foldl_cons, h1]
        rcases Int.le_total i j with z | z
        · exact .inl (Int.min_eq_left z)
        · exact .inr (by rw [Int.min_eq_right z]; exact List.mem_cons_self)
      · exact .inr (List.mem_cons_of_mem _ h1)
    · rcases List.mem_cons.mp hy with rfl | hy
      · exact Int.le_trans h2 (Int.min_le_right i y)
      · exact h3 y hy
abbrev opMax : O1 := opBest max
abbrev opMin : O1 := opBest min
theorem best_ok {f : Int → Int → Int} {r : List V → Hp → VK → Prop} (hr : ∀ (a : Addr) (H : Hp) (i : Int) (is : List Int) (Q : VK), SqL K H a ((i :: is).map V.int) → Q (.int (is.foldl f i)) H → r [V.ref a] H Q) : DCa K w mg W r (fn1 (opBest f)) := dca1 fun σ ι m H x d Q M rx q => by
  cases d with
  | ref l =>
    cases e1 : seqOf m (.ref l) with
    | none => simp only [opBest, e1] at q; exact q.elim
    | some xs =>
      cases e2 : intsOf xs with
      | none => simp only [opBest, e1, e2] at q; exact q.elim
      | some ns =>
        cases ns with
        | nil => simp only [opBest, e1, e2, bestI] at q; exact q.elim
        | cons i is =>
          simp only [opBest, e1, e2, bestI] at q
          obtain ⟨a, vs, rfl, h1, h2⟩ := seqOf_sq M e1 rx
          obtain rfl := ints_of e2 h2
          exact hr a H i is Q h1 (fin_now (α := D) q M _ rfl)
  | _ => exact q.elim
theorem dca_max : DCa K w mg W (rMax K) (fn1 opMax) := best_ok fun a H i is Q h q => ⟨a, i :: is, rfl, h, Nat.succ_pos _, fun m hm hall => by
  obtain ⟨h1, h2, h3⟩ := fold_max is i
  have e : m = is.foldl max i := by
    refine Int.le_antisymm ?_ (hall _ ?_)
    · rcases List.mem_cons.mp hm with rfl | hm
      · exact h2
      · exact h3 m hm
    · rcases h1 with h1 | h1
      · rw [h1]; exact List.mem_cons_self
      · exact List.mem_cons_of_mem _ h1
  rw [e]; exact q⟩
theorem dca_min : DCa K w mg W (rMin K) (fn1 opMin) := best_ok fun a H i is Q h q => ⟨a, i :: is, rfl, h, Nat.succ_pos _, fun m hm hall => by
  obtain ⟨h1, h2, h3⟩ := fold_min is i
  have e : m = is.foldl min i := by
    refine Int.le_antisymm (hall _ ?_) ?_
    · rcases h1 with h1 | h1
      · rw [h1]; exact List.mem_cons_self
      · exact List.mem_cons_of_mem _ h1
    · rcases List.mem_cons.mp hm with rfl | hm
      · exact h2
      · exact h3 m hm
  rw [e]; exact q⟩

/-! ### {} -/
def dNewD : DF := fun _ m => .ok (.ref m.length) (m ++ [.dct []])
theorem de_newD {pos : Pos} : DE X W (.Dict [] [] pos) dNewD := pe_imp pe_dnewK fun σ H Q h p hp => by
  obtain ⟨ι, ρ, m, e, M, q⟩ := h
  have hl : (m ++ [MO.dct []]).length = m.length + 1 := by simp
  have S : Step ι m.length H (more ι m.length p) (m ++ [MO.dct []]).length (upd H p (.dK [])) := by rw [hl]; exact Step.new hp
  refine q _ _ S (M.new hp (.inl ⟨[], upd_same, .nil⟩)) _ ⟨by rw [hl]; exact Nat.lt_succ_self _, by rw [more_new]⟩

/-! ### a, b, .. = a list -/
def γLst (n : Nat) (δ : γs) : D → En → Mem → R En := fun d ρ m => match d with
  | .ref l => match seqOf m (.ref l) with
    | some ds => if ds.length = n then δ ds ρ m else .stk
    | none => .stk
  | _ => .stk
theorem gok_lst {gs : TGs} {δ : γs} {sl : List Nat} (n : Nat) (hs : GsOk K w mg W gs δ sl) : GOk K w mg W (gLst K n gs) (γLst n δ) sl := fun σ ι ρ m H d v Q e M r q => by
  cases d with
  | ref l =>
    have q' : fin K w mg W σ ι m.length H _ (match seqOf m (.ref l) with | some ds => if ds.length = n then δ ds ρ m else .stk | none => .stk) := q
    cases e1 : seqOf m (.ref l) with
    | none => rw [e1] at q'; exact q'.elim
    | some ds =>
      rw [e1] at q'
      dsimp only at q'
      obtain ⟨a, vs, rfl, h1, h2⟩ := seqOf_sq M e1 r
      by_cases hn : ds.length = n
      · rw [if_pos hn] at q'
        exact ⟨a, vs, rfl, h1, by rw [h2.length]; exact hn, hs σ ι ρ m H ds vs Q e M h2 q'⟩
      · rw [if_neg hn] at q'
        exact q'.elim
  | _ => exact q.elim

/-! ### methods -/
section
variable {o e : Expr} {es : List Expr} {name : Str} {apos cpos : Pos} {T id : String} {r : V → List V → Hp → VK → Prop} {c : D → Mem → Bool} {op : D → List D → Mem → R D} {f : DF} {fs : DFs}
theorem de_bm0 (pa : PlainAttrs T) (slot : Slot T name id) (hty : typeOf (.builtin id) = pure (.type "method_descriptor")) (hm : MtR X id r) (ht : DTy X.K X.w T c) (hd : DMt X.K X.w X.mg W T r op) (ho : DE X W o f)
    (hbase : attributeBase o name X.env (eval o X.env) = eval o X.env := by rfl) (hline : (apos.endLine == cpos.line) = true := by rfl) : DE X W (.Call (.Attribute o name apos) [] [] cpos) (dMt0 c op f) :=
  pe_imp (pe_bm0 pa slot hty hm ho hbase hline) fun _ _ _ h => rd_mt0 ht hd h
theorem de_bm (pa : PlainAttrs T) (slot : Slot T name id) (hty : typeOf (.builtin id) = pure (.type "method_descriptor")) (hm : MtR X id r) (ht : DTy X.K X.w T c) (hd : DMt X.K X.w X.mg W T r op) (ho : DE X W o f) (ha : DA X W (e :: es) fs)
    (hbase : attributeBase o name X.env (eval o X.env) = eval o X.env := by rfl)
    (hfew : ((backTo cpos (starEach (e :: es) X.env)).all (fun x => !x.1) && (backToKw cpos (keywordEach [] X.env)).all (fun x => x.1.isSome)
      && decide ((e :: es).length + ([] : List Keyword).length + (if ([] : List Keyword).isEmpty then 0 else 1) < 30)) = true := by rfl)
    (hline : (apos.endLine == cpos.line) = true := by rfl) (hs : starEach (e :: es) X.env = (false, eval e X.env) :: starEach es X.env := by rfl) (hplain : (backTo cpos (starEach es X.env)).any (·.1) = false := by rfl) :
    DE X W (.Call (.Attribute o name apos) (e :: es) [] cpos) (dMt c op f fs) :=
  pe_imp (pe_bm pa slot hty hm ho ha hbase hfew hline hs hplain) fun _ _ _ h => rd_mt ht hd h
end

/-! ### calls by name, nothing by position -/
section
variable {k : Nat} {f : Addr} {fd : FuncData} {ps ks : List Str} {F : List D → Mem → R D} {x : Str} {p pos : Pos} {kws : List Keyword} {fs : DFs}
def permL {α : Type} (ix : List Nat) (l : List α) : List α := if l.length = ix.length then ix.filterMap (l[·]?) else []
def DK (X : Cx) (W : WX) (kws : List Keyword) (f : DFs) : Prop := PK X kws (rdA X.K X.w X.mg W f)
theorem pk_imp {kws : List Keyword} {t t' : TA} (h : PK X kws t) (i : ∀ σ H Q, t' σ H Q → t σ H Q) : PK X kws t' := ⟨fun pos pins s σ H Q I hq => h.run pos pins s σ H Q I (i σ H Q hq)⟩
theorem dk_nil : DK X W [] dNil := pk_imp pk_nil fun σ H Q h => by
  obtain ⟨ι, ρ, m, E, M, q⟩ := h
  exact fin_now q M [] Reps.nil
theorem dk_cons {nm : Option Str} {kpos : Pos} {e : Expr} {f : DF} {g : DFs} (ha : DE X W e f) (hr : DK X W kws g) : DK X W (⟨nm, e, kpos⟩ :: kws) (dCons f g) :=
  pk_imp (pk_cons ha hr) fun σ H Q h => by
    obtain ⟨ι, ρ, m, E, M, q⟩ := h
    refine ⟨ι, ρ, m, E, M, fin_then q fun ι1 m1 H1 d S1 M1 q1 v rv => ?_⟩
    refine ⟨ι1, ρ, m1, E.step S1, M1, fin_then q1 fun ι2 m2 H2 ds S2 M2 q2 vs rvs => ?_⟩
    exact fin_now q2 M2 (v :: vs) (Reps.cons (rv.step S2) rvs)
/-- how a call by names alone binds -/
structure KwOk (K : PySem.W.Frag) (fd : FuncData) (ps ks : List Str) (ix : List Nat) : Prop where
  to : ∀ (s : Shared) (ws : List Value), K.In s.heap → ws.length = ix.length → (permL ix ws).length = ps.length → BindsTo s fd ⟨[], ks.zip ws⟩ (ps.zip (permL ix ws))
theorem permL_reps {ds : List D} {vs : List V} (r : Reps K ι n H ds vs) (ix : List Nat) : Reps K ι n H (permL ix ds) (permL ix vs) := by
  unfold permL
  rw [r.length]
  split
  · rename_i hl
    clear hl
    induction ix with
    | nil => exact Reps.nil
    | cons i ix ih =>
      rw [List.filterMap_cons, List.filterMap_cons]
      cases e : ds[i]? with
      | none =>
        have : vs[i]? = none := by rw [List.getElem?_eq_none_iff] at e ⊢; rw [r.length]; exact e
        rw [this]; exact ih
      | some d =>
        obtain ⟨v, h1, h2⟩ := r.get e
        rw [h1]
        exact Reps.cons h2 ih
  · exact Reps.nil
theorem permL_vals {vs : List V} {us : List Value} (r : Vals vs us) (ix : List Nat) : Vals (permL ix vs) (permL ix us) := by
  unfold permL
  rw [r.length]
  split
  · rename_i hl
    clear hl
    induction ix with
    | nil => exact .nil
    | cons i ix ih =>
      rw [List.filterMap_cons, List.filterMap_cons]
      have key : RelO (vs[i]?) (us[i]?) := by
        clear ih
        induction r generalizing i with
        | nil => simp; exact trivial
        | cons h t ih =>
          cases i with
          | zero => exact h
          | succ i => simpa using ih i
      cases e : vs[i]? with
      | none =>
        rw [e] at key
        cases e2 : us[i]? with
        | none => exact ih
        | some u => rw [e2] at key; exact key.elim
      | some v =>
        rw [e] at key
        cases e2 : us[i]? with
        | none => rw [e2] at key; exact key.elim
        | some u => rw [e2] at key; exact .cons key ih
  · exact .nil
def dAppK (F : List D → Mem → R D) (ix : List Nat) (fs : DFs) : DF := fun ρ m => (fs ρ m).bind fun ds m1 => if ds.length = ix.length then F (permL ix ds) m1 else .stk
theorem de_callK (G : Fn X k f fd ps F) (hr : Room k X.A) (hg : Gl X x) (hm : X.mg x = some (.ref f)) (hk : PySem.W.keepIn X.K (.ref f) = true) {ix : List Nat}
    (hb : KwOk X.K fd ps ks ix) (hx : Pass X W) (hkw : DK X W kws fs) (hdb : (x == ("__debug__" : Str)) = false := by decide) (hall : (backToKw pos (keywordEach kws X.env)).all (·.1.isSome) = true := by rfl) (hks : (backToKw pos (keywordEach kws X.env)).filterMap (·.1) = ks := by rfl)
    (hpl : ((backTo pos (starEach [] X.env)).any (·.1) || (backToKw pos (keywordEach kws X.env)).any (·.1.isNone)) = false := by rfl) : DE X W (.Call (.Name x p) [] kws pos) (dAppK F ix fs) := by
  refine ⟨fun pins s σ H Q I h => ?_⟩
  refine wpAny_Call_Name_kw (ld_glob I hg hm ?_ hdb)
  obtain ⟨ι, ρ, m, e, M, q⟩ := h
  refine PySem.W.callWith_KW0 (h₀ := X.base) I.ok.mod.kin hk hall (thn (hkw.run pos pins s σ H (fun vs H1 => ∃ ι1 m1 ds, Reps X.K ι1 m1.length H1 ds vs ∧ RelM X.K X.w ι1 m1 H1 ∧ fin X.K X.w X.mg W σ ι1 m1.length H1 (pV X.K Q) (if ds.length = ix.length then F (permL ix ds) m1 else .stk)) I
    ⟨ι, ρ, m, e, M, fin_then q fun ι1 m1 H1 ds S1 M1 q1 vs rv => ⟨ι1, m1, ds, rv, M1, q1⟩⟩) fun ws s2 ⟨zs, H2, I2, rz, ι1, m1, ds, rv, M1, q1⟩ => ⟨I2.kIn, ?_⟩) hpl
  rw [hks]
  by_cases hl : ds.length = ix.length
  · rw [if_pos hl] at q1
    have hl2 : (permL ix ds).length = ps.length := by
      by_cases hl2 : (permL ix ds).length = ps.length
      · exact hl2
      · rw [G.len _ _ hl2] at q1
        exact q1.elim
    have hz : zs.length = ix.length := rv.length.trans hl
    have hw : ws.length = ix.length := by rw [← Paired.length rz]; exact hz
    have r2 := permL_reps rv ix
    have v2 := permL_vals rz ix
    have hwl : (permL ix ws).length = ps.length := by rw [← Paired.length v2, r2.length]; exact hl2
    refine wpAny_call (codeAny_mono (G.ok.run X.A X.stack s2 H2 ⟨[], ks.zip ws⟩ (permL ix ws) (permL ix zs) Q (WE W σ) hr I2.env0 (hb.to s2 ws I2.kIn hw hwl) v2 ⟨by rw [r2.length]; exact hl2, ι1, permL ix ds, m1, r2, M1, fin_slots q1⟩) fun r s' hq => ?_)
    cases r with
    | error e => exact hx σ pins H2 s2 e s' I2 hq
    | ok fl =>
      cases fl with
      | ret u => exact I2.after hq
      | next => exact False.elim hq
      | brk => exact False.elim hq
      | cont => exact False.elim hq
  · rw [if_neg hl] at q1
    exact q1.elim
end
end
end DL
/-! The D layer: enumerate over a tuple, list(enumerate(..)) of a list or tuple. -/
namespace DL
open PySem PySem.Spec L2 PyProof.Rows

theorem enum_no_len : typeLookup (.type "enumerate") "__len__" = pure none := by rw [typeLookup_type, builtinLookup_eq_fast]; kernel_rfl
theorem enum_no_hint : typeLookup (.type "enumerate") "__length_hint__" = pure none := by rw [typeLookup_type, builtinLookup_eq_fast]; kernel_rfl

theorem meets_enum1 {v : Value} {o : Obj} {B : Heap → Prop} (b : Begins v o B) :
    Meets (Builtin.«enumerate.__new__» ⟨[.type "enumerate", v], []⟩) (fun _ R s => B s.heap ∧
      R (.ok (.ret (.ref (s.heap.push o).objs.size))) { s with heap := (s.heap.push o).push { cls := .type "enumerate", data := .fields #[.none, .bool false, .ref s.heap.objs.size, rawInt 0, .none, .none] } }) :=
  .of_wp fun prog w A R s z => by
    obtain ⟨hp, g, d, tk, os⟩ := s
    obtain ⟨z1, z⟩ := z
    have hsub := sub_enumerate
    have itr : ∀ {A' : Around} {E : Value → Shared → Prop} {Q : Value → Shared → Prop}, Q (.ref hp.objs.size) ⟨hp.push o, g, d, tk, os⟩ → wpAny (model prog w) A' (pyIter v) Q E ⟨hp, g, d, tk, os⟩ :=
      fun q => b.iter prog w _ _ ⟨hp, g, d, tk, os⟩ _ z1 q
    wp_walk using itr
    refine wpAny_stack_any fun st => wpAny_pure ?_
    split
    · rename_i c _ _ _ _ _
      cases (c == Value.type "enumerate") <;> (wp_walk using itr) <;> exact ⟨_, rfl, z⟩
    · wp_walk using itr
      exact ⟨_, rfl, z⟩
section
variable {prog : Program} {w : World} {A : Around} {E : Value → Shared → Prop} {s : Shared}
theorem enum_call1 {v : Value} {o : Obj} {B : Heap → Prop} {Q : Value → Shared → Prop} (b : Begins v o B) (z : B s.heap)
    (h : ∀ h', IsEnum h' (s.heap.objs.size + 1) s.heap.objs.size 0 .none → h'.get? s.heap.objs.size = some o → h'.objs.size = s.heap.objs.size + 2 →
      (∀ b o, s.heap.get? b = some o → h'.get? b = some o) → Q (.ref (s.heap.objs.size + 1)) { s with heap := h' }) :
    wpAny (model prog w) A (call (.type "enumerate") [v]) Q E s := by
  refine callType_new F.called_enumerate (by decide) (F.typeCall_enumerate_1 _) (F.newCall_enumerate_1 _) (fun obj => F.args_object_init_2 obj _) F.entry_enumerate_new (meets_enum1 b) ⟨z, ?_⟩
  have hz : (s.heap.push o).objs.size = s.heap.objs.size + 1 := Heap.size_push ..
  show _ ∧ _
  rw [hz]
  have he : IsEnum ((s.heap.push o).push { cls := .type "enumerate", data := .fields #[.none, .bool false, .ref s.heap.objs.size, rawInt 0, .none, .none] }) (s.heap.objs.size + 1) s.heap.objs.size 0 .none := by
    have := Heap.get?_push_size (s.heap.push o) (o := { cls := .type "enumerate", data := .fields #[.none, .bool false, .ref s.heap.objs.size, rawInt 0, .none, .none] }) rfl
    rw [hz] at this
    exact this
  exact ⟨⟨_, he, rfl⟩, h _ he (Heap.get?_push_of_some _ (Heap.get?_push_size _ b.free)) (by rw [Heap.size_push, hz]) fun b o x => Heap.get?_push_of_some _ (Heap.get?_push_of_some _ x)⟩

/-- one more pair of an enumerate whose last pair is still there -/
theorem enum_heldC {e it T : Addr} {fp : List Addr} {n i : Nat} {c : Int} {P : Nat → Value → Prop} {St : Nat → Heap → Prop} {old : Value} {f : Bool} {oT : Obj} {Q : Value → Shared → Prop}
    (D : Draws prog w A it fp n P St) (he : IsEnumHeld s.heap e it c old T f) (hT : s.heap.get? T = some oT) (hTe : T ≠ e) (hTi : T ≠ it) (hst : St i s.heap) (hlt : i < n) (hne : e ≠ it) (hef : e ∉ fp)
    (hQ : ∀ x h' tk, P i x → IsEnumHeld h' e it (c + 1) old T true → St (i + 1) h' →
      h'.get? s.heap.objs.size = some { cls := .type "tuple", data := .seq #[.int c tk, x] } → h'.objs.size = s.heap.objs.size + 1 →
      (∀ b o, b ≠ e → b ≠ it → s.heap.get? b = some o → h'.get? b = some o) → Q (.ref s.heap.objs.size) { s with heap := h', toks := tk + 1 }) :
    wpAny (model prog w) A (Builtin.«enumerate.__next__» ⟨[.ref e], []⟩) (fun fin s' => ∃ v, fin = .done (.ret v) ∧ Q v s') E s := by
  obtain ⟨hp, g, d, tk0, os⟩ := s
  show wpAny _ _ (field (.ref e) 2 >>= _) _ _ _
  refine wpAny_bind (wpAny_field he rfl (x := .ref it) rfl ?_)
  refine wpAny_bind (D.item i _ _ _ hlt hst fun x h1 tk hPx hit1 hs1 => ?_)
  replace hs1 : Heap.SameBut it hp h1 := hs1
  have he1 : IsEnumHeld h1 e it c old T f := (hs1.2 e hne).trans he
  show wpAny _ _ (field (.ref e) 3 >>= _) _ _ ⟨h1, g, d, tk, os⟩
  refine wpAny_bind (wpAny_field he1 rfl (x := rawInt c) rfl ?_)
  show wpAny _ _ (field (.ref e) 4 >>= _) _ _ ⟨h1, g, d, tk, os⟩
  refine wpAny_bind (wpAny_field he1 rfl (x := .none) rfl ?_)
  show wpAny _ _ (mkInt c >>= _) _ _ ⟨h1, g, d, tk, os⟩
  refine wpAny_bind (wpAny_mkInt ?_)
  show wpAny _ _ (setField (.ref e) 3 (rawInt (c + 1)) >>= _) _ _ ⟨h1, g, d, tk + 1, os⟩
  refine wpAny_bind (wpAny_setField_rec he1 (by simp) fun h2 he2 hs2 => ?_)
  replace hs2 : Heap.SameBut e h1 h2 := hs2
  replace he2 : IsEnumHeld h2 e it (c + 1) old T f := he2
  show wpAny _ _ (setField (.ref e) 4 .none >>= _) _ _ ⟨h2, g, d, tk + 1, os⟩
  refine wpAny_bind (wpAny_setField_rec he2 (by simp) fun h3 he3 hs3 => ?_)
  replace hs3 : Heap.SameBut e h2 h3 := hs3
  replace he3 : IsEnumHeld h3 e it (c + 1) old T f := he3
  show wpAny _ _ (newTuple [.int c tk, x] >>= _) _ _ ⟨h3, g, d, tk + 1, os⟩
  refine wpAny_bind (wpAny_newTuple ?_)
  have he4 : IsEnumHeld (h3.push { cls := .type "tuple", data := .seq #[.int c tk, x] }) e it (c + 1) old T f := Heap.get?_push_of_some _ he3
  generalize hh4 : h3.push { cls := .type "tuple", data := .seq #[.int c tk, x] } = h4 at he4
  have hsz : h3.objs.size = hp.objs.size := by rw [hs3.1, hs2.1, hs1.1]
  have hel : e < hp.objs.size := Heap.lt_size he
  have ht4 : h4.get? hp.objs.size = some { cls := .type "tuple", data := .seq #[.int c tk, x] } := by rw [← hh4, ← hsz]; exact Heap.get?_push_size _ rfl
  have hz4 : h4.objs.size = hp.objs.size + 1 := by rw [← hh4, Heap.size_push, hsz]
  have hk4 : ∀ b o, b ≠ e → b ≠ it → hp.get? b = some o → h4.get? b = some o := fun b o hbe hbi hb => by
    rw [← hh4]; exact Heap.get?_push_of_some _ (hs3.extBut b o hbe (hs2.extBut b o hbe (hs1.extBut b o hbi hb)))
  have hit4 : St (i + 1) h4 := D.frame _ _ _ hit1 fun b hb o y => by
    have hbe : b ≠ e := fun q => hef (q ▸ hb)
    rw [← hh4]; exact Heap.get?_push_of_some _ (hs3.extBut b o hbe (hs2.extBut b o hbe y))
  show wpAny _ _ (Builtin.SmallTypes.ownedTupleIsFree (.ref e) >>= _) _ _ ⟨h4, g, d, tk + 1, os⟩
  rw [hsz]
  refine wpAny_bind (wpAny_tupleHeld_enum he4 (hk4 _ _ hTe hTi hT) fun h5 he5 hs5 => ?_)
  replace hs5 : Heap.SameBut e h4 h5 := hs5
  show wpAny _ _ (if false = true then _ else _) _ _ _
  rw [if_neg Bool.false_ne_true]
  refine wpAny_pure ⟨_, rfl, hQ x h5 tk hPx he5 (D.frame _ _ _ hit4 fun b hb o y => hs5.extBut b o (fun q => hef (q ▸ hb)) y) (hs5.extBut _ _ (Nat.ne_of_gt hel) ht4) (by rw [hs5.1, hz4]) fun b o hbe hbi hb => hs5.extBut b o hbe (hk4 b o hbe hbi hb)⟩

/-- an enumerate between two turns, its pairs kept -/
def EnSt (h : Heap) (e it : Addr) (i : Nat) : Prop := (∃ old, IsEnum h e it i old) ∨ ∃ (T : Addr) (f : Bool) (old : Value) (oT : Obj), IsEnumHeld h e it i old T f ∧ h.get? T = some oT ∧ T ≠ e ∧ T ≠ it
theorem EnSt.typeIs {e it : Addr} {i : Nat} (h : EnSt s.heap e it i) : s.TypeIs (.ref e) "enumerate" := by
  rcases h with ⟨old, h⟩ | ⟨T, f, old, oT, h, _⟩
  · exact ⟨_, h, rfl⟩
  · exact ⟨_, h, rfl⟩
theorem EnSt.live {h : Heap} {e it : Addr} {i : Nat} (k : EnSt h e it i) : ∃ o, h.get? e = some o := by
  rcases k with ⟨old, k⟩ | ⟨T, f, old, oT, k, _⟩ <;> exact ⟨_, k⟩
theorem EnSt.keep {h h' : Heap} {e it : Addr} {i : Nat} (k : EnSt h e it i) (S : Addr) (he : e ≠ S) (hk : ∀ b o, b ≠ S → h.get? b = some o → h'.get? b = some o) (hS : ∀ o, h.get? S = some o → ∃ o', h'.get? S = some o') : EnSt h' e it i := by
  rcases k with ⟨old, k⟩ | ⟨T, f, old, oT, k, k2, k3, k4⟩
  · exact .inl ⟨old, hk _ _ he k⟩
  · by_cases hTS : T = S
    · subst hTS
      obtain ⟨o', ho⟩ := hS _ k2
      exact .inr ⟨T, f, old, o', hk _ _ he k, ho, k3, k4⟩
    · exact .inr ⟨T, f, old, oT, hk _ _ he k, hk _ _ hTS k2, k3, k4⟩
theorem en_item {e it : Addr} {fp : List Addr} {n i : Nat} {P : Nat → Value → Prop} {St : Nat → Heap → Prop} {Q : Option Value → Shared → Prop}
    (D : Draws prog w A.in1 it fp n P St) (he : EnSt s.heap e it i) (hst : St i s.heap) (hlt : i < n) (hne : e ≠ it) (hef : e ∉ fp) (hif : it ∈ fp)
    (hQ : ∀ x h' tk, P i x → EnSt h' e it (i + 1) → St (i + 1) h' →
      h'.get? s.heap.objs.size = some { cls := .type "tuple", data := .seq #[.int i tk, x] } → h'.objs.size = s.heap.objs.size + 1 →
      (∀ b o, b ≠ e → b ≠ it → s.heap.get? b = some o → h'.get? b = some o) → Q (some (.ref s.heap.objs.size)) { s with heap := h', toks := tk + 1 }) :
    wpAny (model prog w) A (pyNext (.ref e)) Q E s := by
  have hT := he.typeIs
  have hel : e < s.heap.objs.size := by obtain ⟨_, q⟩ := he.live; exact Heap.lt_size q
  have hil : it < s.heap.objs.size := by obtain ⟨_, q⟩ := D.live _ _ hst; exact Heap.lt_size q
  have e1 : ((i + 1 : Nat) : Int) = (i : Int) + 1 := by omega
  unfold pyNext
  refine wpAny_bind (wpAny_attempt (wpAny_callSpecial?_slot (name := Str.ofString "__next__") hT F.slot_enumerate_next
    (wpAny_call_entry F.slot_enumerate_next hT F.entry_enumerate_next ?_ (F.args_enumerate_next_1 _))))
  rcases he with ⟨old, he⟩ | ⟨T, f, old, oT, he, k2, k3, k4⟩
  · refine enumerate_next_itemC D he hst hlt hne hef fun x h' tk a b c d k q => wpAny_pure (hQ x h' tk a (.inr ⟨s.heap.objs.size, false, x, _, ?_, d, Nat.ne_of_gt hel, Nat.ne_of_gt hil⟩) c d k q)
    rw [e1]; exact b
  · refine enum_heldC D he k2 k3 k4 hst hlt hne hef fun x h' tk a b c d k q => wpAny_pure (hQ x h' tk a (.inr ⟨T, true, old, oT, ?_, q _ _ k3 k4 k2, k3, k4⟩) c d k q)
    rw [e1]; exact b
theorem en_end {e it : Addr} {fp : List Addr} {n : Nat} {P : Nat → Value → Prop} {St : Nat → Heap → Prop} {Q : Option Value → Shared → Prop}
    (D : Draws prog w A.in1 it fp n P St) (he : EnSt s.heap e it n) (hst : St n s.heap) (hQ : ∀ h', Heap.ExtBut it s.heap h' → Q none { s with heap := h' }) : wpAny (model prog w) A (pyNext (.ref e)) Q E s := by
  have hT := he.typeIs
  unfold pyNext
  refine wpAny_bind (wpAny_attempt (wpAny_callSpecial?_slot (name := Str.ofString "__next__") hT F.slot_enumerate_next
    (wpAny_call_entry F.slot_enumerate_next hT F.entry_enumerate_next ?_ (F.args_enumerate_next_1 _))))
  show wpAny _ _ (field (.ref e) 2 >>= _) _ _ _
  have hf : wpAny (model prog w) A.in1 (field (.ref e) 2) (fun v s' => v = .ref it ∧ s' = s) (fun _ _ => False) s := by
    rcases he with ⟨old, he⟩ | ⟨T, f, old, oT, he, _⟩
    · exact wpAny_field he rfl (x := .ref it) rfl ⟨rfl, rfl⟩
    · exact wpAny_field he rfl (x := .ref it) rfl ⟨rfl, rfl⟩
  refine wpAny_bind (wpAny_mono hf (fun v s' hv => ?_) fun _ _ z => z.elim)
  obtain ⟨rfl, rfl⟩ := hv
  refine wpAny_bind (D.done _ _ _ hst fun h' x he' hx' => ?_)
  obtain ⟨o, ho, hc⟩ := hx'
  refine wpAny_bind (wpAny_isInstance (T := "StopIteration") (b := true) ⟨o, ho, hc⟩ isSubtype_stop ?_)
  exact wpAny_pure (hQ _ he')
end

/-! ### list(enumerate(..)), with the state -/
/-- pairs (i, x) at new places -/
inductive Pairs (H : Hp) : Nat → List V → List V → Prop where
  | nil {i} : Pairs H i [] []
  | snoc {i xs ps x T} : Pairs H i xs ps → H T = some (.tup [.int ((i + xs.length : Nat) : Int), x]) → Pairs H i (xs ++ [x]) (ps ++ [.ref T])
theorem Pairs.len {H : Hp} {i : Nat} {xs ps : List V} (h : Pairs H i xs ps) : ps.length = xs.length := by
  induction h with
  | nil => rfl
  | snoc _ _ ih => simp [ih]
theorem Pairs.mono {H H' : Hp} {i : Nat} {xs ps : List V} (h : Pairs H i xs ps) (k : ∀ b t, H b = some (.tup t) → H' b = some (.tup t)) : Pairs H' i xs ps := by
  induction h with
  | nil => exact .nil
  | snoc _ e ih => exact .snoc ih (k _ _ e)
section
variable {X : Cx} {pins : List (Addr × Obj)} {σ : L2.St} {R : Result → Shared → Prop}
theorem not_cell_seq {its : Array Value} {n : Nat} : ∀ v, (Data.seq its n : Data) ≠ .cell v := fun v z => by cases z
/-- the loop of list(..) over an enumerate: xs what the source gives -/
theorem en_loop {A : Around} {e it S : Addr} {fp : List Addr} {us : List Value} {xs : List V} {St : Nat → Heap → Prop} {H0 : Hp} {res : Value}
    (D : Draws X.prog X.w A.in1.in1 it fp us.length (fun i v => us[i]? = some v) St) (rv : Vals xs us) (hne : e ≠ it) (hef : e ∉ fp) (hif : it ∈ fp) (hSf : S ∉ fp) (hSe : S ≠ e) (hSi : S ≠ it) (hz : xs.length ≤ sizeLine)
    (hend : ∀ H' s' ps, Inv X pins σ H' s' → (∀ b o, b ≠ S → H0 b = some o → H' b = some o) → H' S = some (.lst ps) → Pairs H' 0 xs ps → R (.ok (.ret res)) s') :
    ∀ (k i : Nat) (s : Shared) (H : Hp) (ps : List V), us.length - i = k → i ≤ us.length → Inv X pins σ H s → (∀ b ∈ [e, it], FpOk X pins H b) → EnSt s.heap e it i → St i s.heap → H S = some (.lst ps) → Pairs H 0 (xs.take i) ps →
      (∀ b o, b ≠ S → H0 b = some o → H b = some o) → codeAny (model X.prog X.w) A (.builtin "list.extend.loop" ⟨[.ref S, .ref e, res], []⟩) R s := by
  intro k
  induction k with
  | zero =>
    intro i s H ps hk hi I hf he hst hS hp h0
    have hin : i = us.length := by omega
    subst hin
    refine codeAny_builtin F.entry_extend_loop ?_
    rw [Around.under_plainId F.plain_extend_loop _]
    show wpAny _ A.in1 (pyNext (.ref e) >>= _) _ _ s
    refine wpAny_bind (en_end D he hst fun h' eb => wpAny_pure ?_)
    have I2 : Inv X pins σ H { s with heap := h' } := I.turnedL (t' := s.toks) (ch := [e, it]) (fun b o hb q => eb b o (fun z => hb (by simp [z])) q) hf
    rw [← rv.length, List.take_length] at hp
    exact hend H _ ps I2 h0 hS hp
  | succ k ih =>
    intro i s H ps hk hi I hf he hst hS hp h0
    have hlt : i < us.length := by omega
    refine codeAny_builtin F.entry_extend_loop ?_
    rw [Around.under_plainId F.plain_extend_loop _]
    show wpAny _ A.in1 (pyNext (.ref e) >>= _) _ _ s
    refine wpAny_bind (en_item D he hst hlt hne hef hif fun x h' tk hx he' hst' hT hsz hk' => ?_)
    have hlx : i < xs.length := by rw [rv.length]; exact hlt
    have hxv : xs[i]? = some xs[i] := List.getElem?_eq_getElem hlx
    obtain ⟨u, hu, ru⟩ := rv.get hxv
    rw [hx] at hu
    cases hu
    generalize hN : s.heap.objs.size = N at hT hsz
    have hel : e < N := by obtain ⟨_, q⟩ := he.live; rw [← hN]; exact Heap.lt_size q
    have hil : it < N := by obtain ⟨_, q⟩ := D.live _ _ hst; rw [← hN]; exact Heap.lt_size q
    have new : ObjOk X.prog X.w (upd H N (.tup [.int (i : Nat), xs[i]])) h' N (.tup [.int (i : Nat), xs[i]]) := ⟨by show 2 ≤ sizeLine; decide, [.int i tk, x], .cons ⟨_, rfl⟩ (.cons ru .nil), ⟨_, hT, rfl, _, rfl⟩⟩
    have I1 : Inv X pins σ (upd H N (.tup [.int (i : Nat), xs[i]])) { s with heap := h', toks := tk + 1 } :=
      I.turnedNew (ch := [e, it]) (fun b ob hb q => hk' b ob (fun z => hb (by simp [z])) (fun z => hb (by simp [z])) q) hf (by rw [hN]; exact Nat.le_refl _) new
    have hNn : H N = none := I.hok.fresh (by rw [hN]; exact Nat.le_refl _)
    have hSN : S ≠ N := ne_of_none hS hNn
    have hS1 : upd H N (.tup [.int (i : Nat), xs[i]]) S = some (.lst ps) := by rw [upd_ne hSN]; exact hS
    obtain ⟨z, its, c, rl, hl, eS⟩ := I1.lstM hS1
    show wpAny _ A.in1 (updateSeq S (·.push (.ref N)) >>= _) _ _ _
    have hpl : ps.length = i := by rw [hp.len, List.length_take]; omega
    have hil2 : its.length = i := by rw [← hl]; exact hpl
    have hsz1 : its.toArray.size < sizeLine := by rw [List.size_toArray]; rw [← rv.length] at hlt; omega
    refine wpAny_bind ?_
    refine wpAny_updateSeq eS rfl (wpAny_pure ⟨plainId_quiet F.plain_extend_loop _, ?_⟩) (by omega) (by show (its.toArray.push _).size ≤ sizeLine + 1; rw [Array.size_push]; omega)
    have I2 : Inv X pins σ (upd (upd H N (.tup [.int (i : Nat), xs[i]])) S (.lst (ps ++ [.ref N]))) { s with heap := h'.update S (Obj.mapSeq (·.push (.ref N))), toks := tk + 1 } :=
      I1.lset (its' := its ++ [.ref N]) (t' := tk + 1) hS1 eS (by simp) (rl.append (.cons (show RelV (V.ref N) (Value.ref N) from rfl) .nil)) (by rw [List.length_append, List.length_singleton]; rw [← rv.length] at hlt; omega)
    have oth : ∀ b o, b ≠ S → h'.get? b = some o → (h'.update S (Obj.mapSeq (·.push (.ref N)))).get? b = some o := fun b o hb q => (Heap.get?_update_other h' _ (Ne.symm hb)).trans q
    refine ih (i + 1) _ _ (ps ++ [.ref N]) (by omega) (by omega) I2 (fun b hb => ?_) (he'.keep S (Ne.symm hSe) oth fun o q => ⟨_, Heap.get?_update_self _ eS rfl⟩) (D.frame _ _ _ hst' fun b hb o q => oth b o (fun z => hSf (z ▸ hb)) q) upd_same ?_ fun b o hb q => ?_
    · have e' : b = e ∨ b = it := by simpa using hb
      have hbS : b ≠ S := by rcases e' with q | q <;> rw [q]; exact Ne.symm hSe; exact Ne.symm hSi
      have hbN : b ≠ N := by rcases e' with q | q <;> rw [q]; exact Nat.ne_of_lt hel; exact Nat.ne_of_lt hil
      obtain ⟨f0, f1⟩ := hf b hb
      exact ⟨by rw [upd_ne hbS, upd_ne hbN]; exact f0, f1⟩
    · rw [List.take_add_one, hxv]
      show Pairs _ 0 (xs.take i ++ [xs[i]]) _
      refine .snoc (hp.mono fun b t q => ?_) ?_
      · have b1 : b ≠ S := fun z => by rw [z, hS] at q; cases q
        have b2 : b ≠ N := ne_of_none q hNn
        rw [upd_ne b1, upd_ne b2]
        exact q
      · rw [upd_ne (Ne.symm hSN), upd_same, List.length_take, Nat.min_eq_left (Nat.le_of_lt hlx), Nat.zero_add]
    · rw [upd_ne hb, upd_ne (ne_of_none (h0 b o hb q) hNn)]
      exact h0 b o hb q
/-- .. all of list(..) -/
theorem call_list_enum {A : Around} {e it : Addr} {fp : List Addr} {us : List Value} {xs : List V} {St : Nat → Heap → Prop} {s : Shared} {H : Hp} {Q : Value → Shared → Prop} {E : Value → Shared → Prop}
    (D : Draws X.prog X.w A.in1.in1.in1 it fp us.length (fun i v => us[i]? = some v) St) (rv : Vals xs us) (hne : e ≠ it) (hef : e ∉ fp) (hif : it ∈ fp) (hfp : ∀ b ∈ fp, b < s.heap.objs.size) (hz : xs.length ≤ sizeLine)
    (I : Inv X pins σ H s) (hf : ∀ b ∈ [e, it], FpOk X pins H b) (he0 : IsEnum s.heap e it 0 .none) (hst : St 0 s.heap)
    (hend : ∀ H' s' ps p, Inv X pins σ H' s' → H p = none → (∀ b o, H b = some o → H' b = some o) → H' p = some (.lst ps) → Pairs H' 0 xs ps → Q (.ref p) s') :
    wpAny (model X.prog X.w) A (call (.type "list") [.ref e]) Q E s := by
  have he : EnSt s.heap e it 0 := .inl ⟨_, he0⟩
  have hel : e < s.heap.objs.size := by obtain ⟨_, q⟩ := he.live; exact Heap.lt_size q
  have hSf : s.heap.objs.size ∉ fp := fun hm => Nat.lt_irrefl _ (hfp _ hm)
  have hSe : s.heap.objs.size ≠ e := Nat.ne_of_gt hel
  have hSi : s.heap.objs.size ≠ it := fun z => hSf (z ▸ hif)
  have hHS : H s.heap.objs.size = none := I.hok.fresh (Nat.le_refl _)
  refine callType_codes (Q₁ := fun obj s₁ => obj = .ref s.heap.objs.size ∧ s₁ = { s with heap := s.heap.push { cls := .type "list", data := .seq #[] } }) F.called_list (F.typeCall_list_1 _) F.entry_list_init
    (code_list_new _ ⟨rfl, rfl⟩) fun obj s₁ h₁ => ?_
  obtain ⟨rfl, rfl⟩ := h₁
  generalize hSS : s.heap.objs.size = S at *
  have hS : (s.heap.push { cls := .type "list", data := .seq #[] }).get? S = some { cls := .type "list", data := .seq #[] } := by rw [← hSS]; exact Heap.get?_push_size _ rfl
  refine ⟨⟨_, hS, rfl⟩, F.args_list_init_2 _ _, ?_⟩
  show wpAny _ A.in1.in1 (do let old ← Builtin.List.listItems (.ref S); Builtin.List.listUpdate (.ref S) (fun _ => #[]); letGo old.toList.reverse; Builtin.List.listExtendWith (.ref S) (.ref e) .none) _ _ _
  refine wpAny_bind ?_
  unfold Builtin.List.listItems
  refine wpAny_bind (wpAny_seqItems hS rfl (wpAny_pure ?_))
  show wpAny _ A.in1.in1 (updateSeq S (fun _ => #[]) >>= fun _ => letGo (#[] : Array Value).toList.reverse >>= fun _ => Builtin.List.listExtendWith (.ref S) (.ref e) .none) _ _ _
  refine wpAny_bind (wpAny_updateSeq hS rfl ?_)
  have hS2 := Heap.get?_update_self (Obj.mapSeq (fun _ => (#[] : Array Value))) hS rfl
  refine wpAny_bind (wpAny_letGo ?_)
  generalize hh2 : (s.heap.push { cls := .type "list", data := .seq #[] }).update S (Obj.mapSeq (fun _ => (#[] : Array Value))) = h2 at *
  have k2 : ∀ b o, s.heap.get? b = some o → h2.get? b = some o := fun b o q => by
    have hb : S ≠ b := fun z => by rw [← hSS] at z; rw [← z] at q; exact absurd (Heap.lt_size q) (Nat.lt_irrefl _)
    rw [← hh2]
    exact (Heap.get?_update_other _ _ hb).trans (Heap.get?_push_of_some _ q)
  unfold Builtin.List.listExtendWith
  have hty : ({ s with heap := h2 } : Shared).TypeIs (.ref e) "enumerate" := EnSt.typeIs (s := { s with heap := h2 }) (he.keep S (Ne.symm hSe) (fun b o _ q => k2 b o q) fun o q => ⟨_, hS2⟩)
  refine wpAny_bind (wpAny_typeOf hty ?_)
  have h1 : Builtin.List.listSameRef (.ref S) (.ref e) = false := by simp [Builtin.List.listSameRef, hSe]
  have h2' : (Value.type "enumerate" == Value.type "list") = false := by decide
  have h3' : (Value.type "enumerate" == Value.type "tuple") = false := by decide
  simp only [h1, h2', h3', Bool.or_false, Bool.false_eq_true, if_false]
  have hself : ∀ {Q : Value → Shared → Prop} {E : Value → Shared → Prop}, Q (.ref e) { s with heap := h2 } → wpAny (model X.prog X.w) A.in1.in1 (pyIter (.ref e)) Q E { s with heap := h2 } := fun {Q E} q => by
    exact wpAny_pyIter_enum (k2 _ _ he0) q
  refine wpAny_bind (hself ?_)
  refine wpAny_bind (wpAny_holding ?_)
  unfold Builtin.List.listLengthHint
  refine wpAny_bind (wpAny_specialOf hty enum_no_len ?_)
  show wpAny _ A.in1.in1 (specialOf (Value.ref e) (Str.ofString "__length_hint__") >>= _) _ _ _
  refine wpAny_bind (wpAny_specialOf hty enum_no_hint ?_)
  refine wpAny_pure ?_
  show wpAny _ A.in1.in1 (rule "list.extend.makes-room" >>= fun _ => Builtin.List.listTouch (.ref S) >>= fun _ =>
    again (.builtin "list.extend.loop" ⟨[.ref S, .ref e, .none], []⟩)) _ _ _
  refine wpAny_bind (wpAny_rule ?_)
  refine wpAny_bind ?_
  show wpAny _ A.in1.in1 (updateSeq S (·.push .none) >>= fun _ => updateSeq S (·.pop)) _ _ _
  refine wpAny_bind (wpAny_updateSeq hS2 rfl ?_)
  have hS3 := Heap.get?_update_self (Obj.mapSeq (·.push Value.none)) hS2 rfl
  refine wpAny_updateSeq (hz := by seq_fits) hS3 rfl ?_
  have hS4 := Heap.get?_update_self (Obj.mapSeq (·.pop)) hS3 rfl
  generalize hh4 : (h2.update S (Obj.mapSeq (·.push Value.none))).update S (Obj.mapSeq (·.pop)) = h4 at *
  have k4 : ∀ b o, s.heap.get? b = some o → h4.get? b = some o := fun b o q => by
    have hb : S ≠ b := fun z => by rw [← hSS] at z; rw [← z] at q; exact absurd (Heap.lt_size q) (Nat.lt_irrefl _)
    rw [← hh4]
    exact (Heap.get?_update_other _ _ hb).trans ((Heap.get?_update_other _ _ hb).trans (k2 b o q))
  have I4 : Inv X pins σ (upd H S (.lst [])) { s with heap := h4 } := I.laid (a := S) (o := .lst []) (t' := s.toks) k4 (by rw [hSS]; exact Nat.le_refl _) ⟨Nat.zero_le _, [], _, .nil, hS4⟩
  have c1 : ∀ H' s' ps, Inv X pins σ H' s' → (∀ b o, b ≠ S → upd H S (.lst []) b = some o → H' b = some o) → H' S = some (.lst ps) → Pairs H' 0 xs ps → wants (fun r s₂ => r = Value.none ∧ Q (.ref S) s₂) E (.ok (.ret .none)) s' := fun H' s' ps I' k' hS' hp =>
    ⟨rfl, hend H' s' ps S I' hHS (fun b o q => k' b o (ne_of_none q hHS) (by rw [upd_ne (ne_of_none q hHS)]; exact q)) hS' hp⟩
  have c2 : ∀ b ∈ [e, it], FpOk X pins (upd H S (.lst [])) b := fun b hb => by
    have e' : b = e ∨ b = it := by simpa using hb
    have hbS : b ≠ S := by rcases e' with q | q <;> rw [q]; exact Ne.symm hSe; exact Ne.symm hSi
    obtain ⟨f0, f1⟩ := hf b hb
    exact ⟨by rw [upd_ne hbS]; exact f0, f1⟩
  have c3 : Pairs (upd H S (.lst [])) 0 (xs.take 0) [] := by rw [List.take_zero]; exact .nil
  exact wpAny_pure ⟨plainId_quiet F.plain_extend_loop _, en_loop (H0 := upd H S (.lst [])) D rv hne hef hif hSf hSe hSi hz c1 us.length 0 _ (upd H S (.lst [])) [] (by omega) (Nat.zero_le _) I4 c2
    (he.keep S (Ne.symm hSe) (fun b o _ q => k4 b o q) fun o q => ⟨_, hS4⟩) (D.frame _ _ _ hst fun b _ o q => k4 b o q) upd_same c3 (fun _ _ _ q => q)⟩

/-! ### the rules -/
variable {W : WX} {K : PySem.W.Frag} {w : World} {mg : Str → Option Value}
theorem size_new {I : Inv X pins σ H s} : True := trivial
/-- list(enumerate(e)), e a list or a tuple -/
def tLE (K : PySem.W.Frag) (te : TE) : TE := fun σ H Q => te σ H fun x H1 => ∃ a xs, x = .ref a ∧ xs.length ≤ sizeLine ∧ (SqL K H1 a xs ∨ SqT K H1 a xs) ∧
  ∀ p H2 ps, H1 p = none → (∀ b o, H1 b = some o → H2 b = some o) → H2 p = some (.lst ps) → Pairs H2 0 xs ps → Q (.ref p) H2
theorem pe_listEnum {e : Expr} {te : TE} {p1 p2 pos pos2 : Pos} (hc : X.calm = true) (hg : Gl X "enumerate") (hm : X.mg "enumerate" = none) (hg2 : Gl X "list") (hm2 : X.mg "list" = none) (he : PE X e te) (hs : starEach [e] X.env = [(false, eval e X.env)] := by rfl)
    (hs2 : starEach [.Call (.Name "enumerate" p1) [e] [] pos2] X.env = [(false, eval (.Call (.Name "enumerate" p1) [e] [] pos2) X.env)] := by rfl) :
    PE X (.Call (.Name "list" p2) [.Call (.Name "enumerate" p1) [e] [] pos2] [] pos) (tLE X.K te) := by
  refine ⟨fun pins s σ H Q I h => ?_⟩
  refine Call_ (ld_blt I hg2 hm2 PyProof.Rows.Boot.«list» (PyProof.Rows.callWith_type1 ?_ hs2 rfl) (by decide) (by decide))
  rw [hs2]
  show wpAny _ _ (spliced [(false, eval (.Call (.Name "enumerate" p1) [e] [] pos2) X.env)]) _ _ _
  refine Calls.spliced_cons ?_
  refine Call_ (ld_blt (I.tok _) hg hm boot_enumerate (PyProof.Rows.callWith_type1 ?_ hs rfl) (by decide) (by decide))
  rw [hs]
  refine Calls.spliced_cons (thn (he.run pins _ σ H _ ((I.tok _).tok _) h) fun u s1 ⟨x, H1, I1, r1, a, xs, ex, hz, hq, q⟩ => ?_)
  subst ex
  obtain rfl : u = Value.ref a := r1
  refine Calls.spliced_nil ?_
  have hh := I1.ok.hd hc
  have fin : ∀ (o : Obj) (B : Heap → Prop) (St : Addr → Nat → Heap → Prop) (us : List Value), Begins (.ref a) o B → B s1.heap → Vals xs us → a < s1.heap.objs.size →
      (∀ it h', h'.get? it = some o → (∀ b u, s1.heap.get? b = some u → h'.get? b = some u) → St it 0 h') → (∀ it, a ≠ it → Draws X.prog X.w X.A.in1.in1.in1 it [it, a] us.length (fun i v => us[i]? = some v) (St it)) →
      wpAny (model X.prog X.w) X.A (call (.type "enumerate") [.ref a]) (fun v s₁ => wpAny (model X.prog X.w) X.A (spliced []) (fun vs s₂ => wpAny (model X.prog X.w) X.A (call (.type "list") (v :: vs)) (EP X pins σ Q) X.xe s₂) X.xe s₁) X.xe s1 := by
    intro o B St us b z rv hal h0 D
    refine enum_call1 b z fun h' he hit hsz hk => Calls.spliced_nil ?_
    have I2 : Inv X pins σ H1 { s1 with heap := h' } := I1.kept (t' := s1.toks) hk
    have hai : a ≠ s1.heap.objs.size := Nat.ne_of_lt hal
    refine call_list_enum (us := us) (s := { s1 with heap := h' }) (D _ hai) rv (Nat.succ_ne_self _) (fun hm => ?_) (by simp) (fun c hm => ?_) hz I2 (fun c hm => ?_) he (h0 _ _ hit hk) fun H' s' ps p I' hp k1 k2 k3 => ⟨.ref p, H', I', rfl, q p H' ps hp k1 k2 k3⟩
    · have e' : s1.heap.objs.size + 1 = s1.heap.objs.size ∨ s1.heap.objs.size + 1 = a := by simpa using hm
      rcases e' with q | q
      · exact absurd q (Nat.succ_ne_self _)
      · rw [← q] at hal; exact absurd hal (Nat.not_lt.mpr (Nat.le_succ _))
    · have e' : c = s1.heap.objs.size ∨ c = a := by simpa using hm
      show c < h'.objs.size
      rw [hsz]
      rcases e' with q | q <;> rw [q]
      · exact Nat.lt_add_of_pos_right (by decide)
      · exact Nat.lt_of_lt_of_le hal (Nat.le_add_right _ _)
    · have e' : c = s1.heap.objs.size + 1 ∨ c = s1.heap.objs.size := by simpa using hm
      have hle : s1.heap.objs.size ≤ c := by
        rcases e' with q | q <;> rw [q]
        · exact Nat.le_succ _
        · exact Nat.le_refl _
      exact I1.fpOk hle (I1.hok.fresh hle)
  rcases hq with hq | hq
  · obtain ⟨its, rv, p, hz2⟩ := I1.list hq
    have hal : a < s1.heap.objs.size := by obtain ⟨_, q, _⟩ := p.isList; exact Heap.lt_size q
    refine fin _ _ (fun it i h => h.IsListIter it a i ∧ h.IsList a its.toArray) its (begins_list a its.toArray) p.isList rv hal (fun it h' e k => ⟨⟨_, e, rfl, rfl⟩, p.isList.at fun o q => k _ _ q⟩) fun it hne => ?_
    have := Draws.list (prog := X.prog) (w := X.w) (A := X.A.in1.in1.in1) hh it a hne its.toArray
    simpa using this
  · obtain ⟨its, rv, p, hz2⟩ := I1.tuple hq
    have p' : s1.heap.IsTuple a its.toArray := p
    have hal : a < s1.heap.objs.size := by obtain ⟨_, q, _⟩ := p'; exact Heap.lt_size q
    refine fin _ _ (fun it i h => h.IsTupleIter it a i ∧ h.IsTuple a its.toArray) its (begins_tuple a its.toArray) p' rv hal (fun it h' e k => ⟨⟨_, e, rfl, rfl⟩, p'.at fun o q => k _ _ q⟩) fun it hne => ?_
    have := Draws.tuple (prog := X.prog) (w := X.w) (A := X.A.in1.in1.in1) hh it a hne its.toArray
    simpa using this

/-! ### at D -/
/-- the world grows -/
theorem RelM.grow {ι : Nat → Addr} {m : Mem} {H H' : Hp} {n n' : Nat} {ι' : Nat → Addr} {o : MO} {p : Addr} (M : RelM K w ι m H) (k : ∀ b u, H b = some u → H' b = some u) (hp : H p = none) (ob : ObjR K w (more ι m.length p) (m.length + 1) H' p o) :
    Step ι m.length H (more ι m.length p) (m ++ [o]).length H' ∧ RelM K w (more ι m.length p) (m ++ [o]) H' := by
  have hl : (m ++ [o]).length = m.length + 1 := by simp
  have S : Step ι m.length H (more ι m.length p) (m.length + 1) H' := ⟨Nat.le_succ _, fun l h => more_old h, fun a vs h => k _ _ h, fun a vs h => k _ _ h⟩
  have old : ∀ l x, (m ++ [o])[l]? = some x → (l < m.length ∧ m[l]? = some x) ∨ (l = m.length ∧ x = o) := fun l x e => by
    have h := lt_of_get e
    rw [hl] at h
    by_cases h2 : l < m.length
    · rw [List.getElem?_append_left h2] at e
      exact .inl ⟨h2, e⟩
    · have h3 : l = m.length := by omega
      subst h3
      rw [List.getElem?_append_right (Nat.le_refl _)] at e
      simp at e
      exact .inr ⟨rfl, e.symm⟩
  refine ⟨by rw [hl]; exact S, fun l x e => ?_, fun l l' x x' e e' hm hm' he => ?_⟩
  · rw [hl]
    rcases old l x e with ⟨h1, h2⟩ | ⟨rfl, rfl⟩
    · rw [more_old h1]
      exact (M.obj l x h2).step S fun h1 h2 => k _ _ h2
    · rw [more_new]; exact ob
  · rcases old l x e with ⟨h1, h2⟩ | ⟨rfl, rfl⟩
    · rcases old l' x' e' with ⟨h1', h2'⟩ | ⟨rfl, rfl⟩
      · rw [more_old h1, more_old h1'] at he
        exact M.sep l l' x x' h2 h2' hm hm' he
      · rw [more_old h1, more_new] at he
        obtain ⟨ho, h3, _⟩ := (M.obj l x h2).there hm
        rw [he, hp] at h3
        cases h3
    · rcases old l' x' e' with ⟨h1', h2'⟩ | ⟨rfl, rfl⟩
      · rw [more_old h1', more_new] at he
        obtain ⟨ho, h3, _⟩ := (M.obj l' x' h2').there hm'
        rw [← he, hp] at h3
        cases h3
      · rfl
/-- what is walked: the items of a list or tuple -/
def itemsOf (m : Mem) (d : D) : Option (List D) := match d with
  | .tup xs => some xs
  | .ref l => seqOf m (.ref l)
  | _ => none
theorem itemsOf_sq {ι : Nat → Addr} {m : Mem} {H : Hp} (M : RelM K w ι m H) {d : D} {xs : List D} {v : V} (h : itemsOf m d = some xs) (r : Rep K ι m.length H d v) : ∃ a vs, v = .ref a ∧ (SqL K H a vs ∨ SqT K H a vs) ∧ Reps K ι m.length H xs vs := by
  cases d with
  | tup ys =>
    cases h
    obtain ⟨a, vs, rfl, h1, h2⟩ := r
    exact ⟨a, vs, rfl, .inr h1.sq, h2⟩
  | ref l =>
    obtain ⟨a, vs, rfl, h1, h2⟩ := seqOf_sq M (show seqOf m (.ref l) = some xs from h) r
    exact ⟨a, vs, rfl, .inl h1, h2⟩
  | _ => cases h
def opListEnum : O1 := fun d m => match itemsOf m d with
  | some xs => if xs.length ≤ sizeLine then .ok (.ref m.length) (m ++ [.lst (enumD xs)]) else .stk
  | none => .stk
theorem enumD_snoc (xs : List D) (x : D) : enumD (xs ++ [x]) = enumD xs ++ [.tup [.int (xs.length : Nat), x]] := by
  unfold enumD
  rw [List.length_append, List.length_singleton, List.range_succ, List.map_append]
  congr 1
  · apply List.map_congr_left
    intro i hi
    have hi' := List.mem_range.mp hi
    rw [List.getD_eq_getElem?_getD, List.getD_eq_getElem?_getD, List.getElem?_append_left hi']
  · simp [List.getD_eq_getElem?_getD]
theorem pairs_reps {ι : Nat → Addr} {n : Nat} {H : Hp} {xs ps : List V} (h : Pairs H 0 xs ps) : ∀ {ds : List D}, Reps K ι n H ds xs → Reps K ι n H (enumD ds) ps := by
  induction h with
  | nil =>
    intro ds r
    have : ds = [] := by
      have := r.length
      cases ds with
      | nil => rfl
      | cons => simp at this
    subst this
    exact rfl
  | @snoc xs ps x T h e ih =>
    intro ds r
    have hl := r.length
    rw [List.length_append, List.length_singleton] at hl
    obtain ⟨ds', d, rfl⟩ : ∃ ds' d, ds = ds' ++ [d] := by
      refine ⟨ds.dropLast, ds.getLast (fun z => by rw [z] at hl; simp at hl), ?_⟩
      exact (List.dropLast_concat_getLast _).symm
    have hl2 : ds'.length = xs.length := by simpa using hl.symm
    have ra := r.take (xs.length)
    rw [List.take_left, ← hl2, List.take_left] at ra
    have rb := r.get (i := ds'.length) (d := d) (by simp)
    obtain ⟨v, e1, e2⟩ := rb
    rw [hl2] at e1
    simp at e1
    subst e1
    rw [enumD_snoc]
    refine (ih ra).append (Reps.cons ⟨T, _, rfl, .inl e, Reps.cons ?_ (Reps.cons e2 Reps.nil)⟩ Reps.nil)
    rw [hl2, Nat.zero_add]
    exact rfl
theorem de_listEnum {e : Expr} {f : DF} {p1 p2 pos pos2 : Pos} (hc : X.calm = true) (hg : Gl X "enumerate") (hm : X.mg "enumerate" = none) (hg2 : Gl X "list") (hm2 : X.mg "list" = none) (he : DE X W e f) (hs : starEach [e] X.env = [(false, eval e X.env)] := by rfl)
    (hs2 : starEach [.Call (.Name "enumerate" p1) [e] [] pos2] X.env = [(false, eval (.Call (.Name "enumerate" p1) [e] [] pos2) X.env)] := by rfl) :
    DE X W (.Call (.Name "list" p2) [.Call (.Name "enumerate" p1) [e] [] pos2] [] pos) (dUn opListEnum f) := pe_imp (pe_listEnum hc hg hm hg2 hm2 he hs hs2) fun σ H Q h => by
  obtain ⟨ι, ρ, m, e, M, q⟩ := h
  refine ⟨ι, ρ, m, e, M, fin_then q fun ι1 m1 H1 d S1 M1 q1 v rv => ?_⟩
  unfold opListEnum at q1
  cases e1 : itemsOf m1 d with
  | none => rw [e1] at q1; exact q1.elim
  | some xs =>
    rw [e1] at q1
    dsimp only at q1
    by_cases hz : xs.length ≤ sizeLine
    · rw [if_pos hz] at q1
      obtain ⟨a, vs, rfl, h1, h2⟩ := itemsOf_sq M1 e1 rv
      refine ⟨a, vs, rfl, by rw [h2.length]; exact hz, h1, fun p H2 ps hp k hps hpp => ?_⟩
      have hl : (m1 ++ [MO.lst (enumD xs)]).length = m1.length + 1 := by simp
      have S0 : Step ι1 m1.length H1 (more ι1 m1.length p) (m1.length + 1) H2 := ⟨Nat.le_succ _, fun l h => more_old h, fun a vs h => k _ _ h, fun a vs h => k _ _ h⟩
      obtain ⟨S2, M2⟩ := RelM.grow (n := 0) (n' := 0) (ι' := ι1) M1 k hp (o := .lst (enumD xs)) ⟨ps, hps, pairs_reps hpp (Reps.step S0 _ _ h2)⟩
      exact q1 _ H2 S2 M2 _ ⟨by rw [hl]; exact Nat.lt_succ_self _, by rw [more_new]⟩
    · rw [if_neg hz] at q1
      exact q1.elim
end
end DL
/-! The D layer: own exceptions with fields: __init__, raise, try .. except .. as .. -/
namespace DL
open PySem PySem.Spec L2 PyProof.Rows

/-- what stands behind __init__ -/
def initH (H : Hp) (a dx C : Addr) (fs : List (Str × V)) : Hp := upd (upd H dx (exd dx fs)) a (exo a C (some dx))
theorem initH_a {H : Hp} {a dx C : Addr} {fs : List (Str × V)} : initH H a dx C fs a = some (exo a C (some dx)) := upd_same
theorem initH_d {H : Hp} {a dx C : Addr} {fs : List (Str × V)} (h : dx ≠ a) : initH H a dx C fs dx = some (exd dx fs) := by unfold initH; rw [upd_ne h, upd_same]
theorem initH_put {H : Hp} {a dx C : Addr} {fs gs : List (Str × V)} (h : dx ≠ a) : upd (initH H a dx C fs) dx (exd dx gs) = initH H a dx C gs := by
  funext b
  unfold initH upd
  by_cases h1 : b = dx
  · subst h1; simp [h]
  · by_cases h2 : b = a
    · subst h2; simp [Ne.symm h]
    · simp [h1, h2]
/-- self.f = f, one behind another -/
def gIn (K : PySem.W.Frag) : List (Str × Nat) → TS
  | [] => tNext
  | (f, i) :: r => tSeq (tOst K f (tVar 0) (tVar i)) (gIn K r)
section
variable {K : PySem.W.Frag} {C : Addr}
theorem gIn_more (T : OexC K C) {H : Hp} {a dx : Addr} (hne : dx ≠ a) {D : Ends} {σ : L2.St} (h0 : σ[0]? = some (some (.ref a))) : ∀ (fs : List (Str × Nat)) (ys : List V) (acc : List (Str × V)), fs.length = ys.length → (∀ (j : Nat) (f : Str) (i : Nat) (y : V), fs[j]? = some (f, i) → ys[j]? = some y → σ[i]? = some (some y)) →
    (∀ p ∈ fs, PySem.W.findIn K (.ref C) p.1 = some none) → acc.length + fs.length ≤ 900 → D.nx σ (initH H a dx C (((fs.map (·.1)).zip ys).reverse ++ acc)) → gIn K fs D σ (initH H a dx C acc)
  | [], [], acc, _, _, _, _, h => h
  | (f, i) :: fs, y :: ys, acc, hl, hv, hf, hz, h => by
    have hz' : acc.length + (fs.length + 1) ≤ 900 := by simpa using hz
    refine ⟨y, hv 0 f i y rfl rfl, .ref a, h0, a, C, rfl, T, hf _ List.mem_cons_self, .inr ⟨dx, acc, initH_a, initH_d hne, by omega, ?_⟩⟩
    rw [initH_put hne]
    refine gIn_more T hne h0 fs ys ((f, y) :: acc) (by simpa using hl) (fun j g k z e e2 => hv (j + 1) g k z (by simpa using e) (by simpa using e2)) (fun p hp => hf p (List.mem_cons_of_mem _ hp)) (by simp; omega) ?_
    have : ((fs.map (·.1)).zip ys).reverse ++ (f, y) :: acc = ((((f, i) :: fs).map (·.1)).zip (y :: ys)).reverse ++ acc := by simp
    rw [this]; exact h
  | [], _ :: _, _, hl, _, _, _, _ => by simp at hl
  | _ :: _, [], _, hl, _, _, _, _ => by simp at hl
/-- what an __init__ that stores its parameters keeps -/
def spIn (K : PySem.W.Frag) (C : Addr) (fns : List Str) : Sp := fun vs H Q E => ∃ a ws, vs = .ref a :: ws ∧ ws.length = fns.length ∧ H a = some (exo a C none) ∧ ∀ dx, H dx = none → dx ≠ a → Q .non (initH H a dx C (fns.zip ws).reverse)
def slotsIn (fns : List Str) : List (Str × Nat) := fns.zip ((List.range fns.length).map (· + 1))
theorem slotsIn_len (fns : List Str) : (slotsIn fns).length = fns.length := by simp [slotsIn]
theorem slotsIn_map (fns : List Str) : (slotsIn fns).map (·.1) = fns := by
  unfold slotsIn
  rw [List.map_fst_zip]
  simp
theorem gIn_ok (T : OexC K C) {H : Hp} {a : Addr} {D : Ends} {N : List Str} {fns : List Str} {ws : List V} (hn : fns ≠ []) (hl : ws.length = fns.length) (hf : ∀ f ∈ fns, PySem.W.findIn K (.ref C) f = some none) (hz : fns.length ≤ 900) (ha : H a = some (exo a C none))
    (h : ∀ dx, H dx = none → dx ≠ a → D.nx (L2.start N (.ref a :: ws)) (initH H a dx C (fns.zip ws).reverse)) : gIn K (slotsIn fns) D (L2.start N (.ref a :: ws)) H := by
  have h0 : (L2.start N (.ref a :: ws))[0]? = some (some (.ref a)) := by simp [L2.start]
  have hv : ∀ (j : Nat) (f : Str) (i : Nat) (y : V), (slotsIn fns)[j]? = some (f, i) → ws[j]? = some y → (L2.start N (.ref a :: ws))[i]? = some (some y) := fun j f i y e e2 => by
    unfold slotsIn at e
    rw [List.getElem?_zip_eq_some] at e
    obtain ⟨e1, e3⟩ := e
    rw [List.getElem?_map] at e3
    have hj := lt_of_get e1
    rw [List.getElem?_range hj] at e3
    cases e3
    simp only [L2.start, List.map_cons, List.cons_append, List.getElem?_cons_succ]
    rw [List.getElem?_append_left (by rw [List.length_map]; exact lt_of_get e2), List.getElem?_map, e2]
    rfl
  cases fns with
  | nil => exact absurd rfl hn
  | cons f fns =>
    cases ws with
    | nil => simp at hl
    | cons y ws =>
      have es : slotsIn (f :: fns) = (f, 1) :: ((fns.zip ((List.range fns.length).map (· + 2)))) := by
        unfold slotsIn
        rw [List.length_cons, List.range_succ_eq_map, List.map_cons, List.zip_cons_cons, List.map_map]
        rfl
      rw [es]
      have hv0 := hv 0 f 1 y (by rw [es]; rfl) rfl
      refine ⟨y, hv0, .ref a, h0, a, C, rfl, T, hf f List.mem_cons_self, .inl ⟨ha, fun dx hd hne => ?_⟩⟩
      show gIn K _ D _ (initH H a dx C [(f, y)])
      refine gIn_more T hne h0 _ ws [(f, y)] (by simp at hl ⊢; omega) (fun j g k z e e2 => hv (j + 1) g k z (by rw [es]; simpa using e) (by simpa using e2)) (fun p hp => hf p.1 (List.mem_cons_of_mem _ (List.of_mem_zip hp).1)) (by simp at hz ⊢; omega) ?_
      have := h dx hd hne
      have e3 : ((f :: fns).zip (y :: ws)).reverse = (((fns.zip ((List.range fns.length).map (· + 2))).map (·.1)).zip ws).reverse ++ [(f, y)] := by
        rw [List.map_fst_zip (by simp)]
        simp
      rw [← e3]; exact this
end
/-- an own exception class: its name, its fields by their parameters -/
structure XCls (X : Cx) (k : Nat) (c : Str) (C fI : Addr) (fd : FuncData) (fns : List Str) : Prop where
  oex : OexC X.K C
  ini : PySem.W.findIn X.K (.ref C) "__init__" = some (some (.ref fI))
  tyI : PySem.W.typeIn X.K (.ref fI) = some (.type "function")
  fn : FnOk X.prog X.w X.K X.mg X.base (L2.CX X.prog X.w) k fI fd ("self" :: fns) (spIn X.K C fns)
  mg : X.mg c = some (.ref C)
  few : fns.length ≤ 900
theorem init_fn {P : Program} {w : World} {K : PySem.W.Frag} {mg : Str → Option Value} {base : Heap} {k : Nat} {C f : Addr} {fd : FuncData} {x qual : Str} {st : Stmt} {N : List Str} {fns : List Str} (Fu : Fun K x qual st f fd) (S : FnScope N ("self" :: fns) (defScope st)) (T : OexC K C)
    (hn : fns ≠ []) (hf : ∀ f ∈ fns, PySem.W.findIn K (.ref C) f = some none) (hz : fns.length ≤ 900)
    (hb : ∀ (cdv : Value) (A : Around) (outer : List Env) (s : Shared) (H : Hp) (E : XK), PSs (cxOf (L2.CX P w) P w K mg base N qual (defScope st) f cdv A outer s H E) (defBody st) (gIn K (slotsIn fns))) :
    FnOk P w K mg base (L2.CX P w) (k + 1) f fd ("self" :: fns) (spIn K C fns) := by
  refine Fu.okX S (fun vs H Q E h => ?_) fun cdv A outer s H vs Q E hr h => ⟨_, hb cdv A outer s H E, ?_⟩
  · obtain ⟨a, ws, rfl, hl, _⟩ := h
    simp [hl]
  · obtain ⟨a, ws, rfl, hl, ha, h⟩ := h
    exact gIn_ok T hn hl hf hz ha h
section
variable {X : Cx} {W : WX} {k : Nat} {c : Str} {C fI : Addr} {fd : FuncData} {fns : List Str} {e : Expr} {es : List Expr} {fs : DFs} {p pos pos2 : Pos}
/-- raise c(e, ..) -/
def dRaise (c : Str) (fns : List Str) (fs : DFs) : DSt := fun ρ m => (fs ρ m).goes ρ fun ds m1 => if ds.length = fns.length then .exn c (fns.zip ds).reverse ρ m1 else .stk
theorem fld_zip {K : PySem.W.Frag} {ι : Nat → Addr} {n : Nat} {H : Hp} : ∀ {fns : List Str} {ds : List D} {vs : List V}, Reps K ι n H ds vs → FldR K ι n H (fns.zip ds) (fns.zip vs)
  | [], _, _, _ => .nil
  | _ :: _, [], vs, r => by rw [show vs = [] from r]; exact .nil
  | f :: fns, d :: ds, _, r => by
    obtain ⟨v, u, rfl, r1, r2⟩ := r
    exact .cons ⟨rfl, r1⟩ (fld_zip r2)
theorem paired_snoc {α β : Type} {F : α → β → Prop} {a : α} {b : β} (h : F a b) : ∀ {xs : List α} {ys : List β}, Paired F xs ys → Paired F (xs ++ [a]) (ys ++ [b])
  | _, _, .nil => .cons h .nil
  | _, _, .cons r t => .cons r (paired_snoc h t)
theorem paired_rev {α β : Type} {F : α → β → Prop} : ∀ {xs : List α} {ys : List β}, Paired F xs ys → Paired F xs.reverse ys.reverse
  | _, _, .nil => .nil
  | _, _, .cons r t => by rw [List.reverse_cons, List.reverse_cons]; exact paired_snoc r (paired_rev t)
theorem ds_raise (G : XCls X k c C fI fd fns) (hc : X.calm = true) (tk : Takes X W) (hr : Room (k + 1) X.A) (hg : Gl X c) (hb : Binds X.K fd ("self" :: fns) []) (hx : Passes (L2.CX X.prog X.w) X (fun _ _ _ => False)) (ha : DA X W (e :: es) fs)
    (hdb : (c == ("__debug__" : Str)) = false := by decide) (he : starEach (e :: es) X.env = (false, eval e X.env) :: starEach es X.env := by rfl) (hpl : (backTo pos (starEach es X.env)).any (·.1) = false := by rfl) :
    DS X W (.Raise (some (.Call (.Name c p) (e :: es) [] pos)) none pos2) (dRaise c fns fs) :=
  ps_imp (ps_raise hc tk (pmk_oex (p := p) (pos := pos) (dvs := []) (ds := []) G.oex G.ini G.tyI G.fn hr hb .nil hx hg G.mg ha hdb he hpl)) fun D σ H h => by
    obtain ⟨ι, ρ, m, e, M, q⟩ := h
    refine ⟨ι, ρ, m, e, M, fin_goes' e q fun ι1 m1 H1 ds S1 M1 e1 q1 vs rv => ?_⟩
    by_cases hl : ds.length = fns.length
    · rw [if_pos hl] at q1
      have hlv : vs.length = fns.length := rv.length.trans hl
      refine ⟨by rw [hlv]; exact Nat.le_trans G.few (by decide), fun a hna => ?_⟩
      refine ⟨a, vs, by rw [List.append_nil], hlv, upd_same, fun dx hdx hne => ?_⟩
      have hd1 : H1 dx = none := by rw [upd_ne hne] at hdx; exact hdx
      refine ⟨rfl, dx, (fns.zip vs).reverse, initH_a, initH_d hne, hd1, ?_⟩
      have eH : upd (del (initH (upd H1 a (exo a C none)) a dx C (fns.zip vs).reverse) a) dx (.xd (fns.zip vs).reverse) = upd H1 dx (.xd (fns.zip vs).reverse) := by
        funext b
        unfold initH upd del
        by_cases h1 : b = dx
        · simp [h1]
        · by_cases h2 : b = a
          · subst h2; simp [h1, hna]
          · simp [h1, h2]
      rw [eH]
      have S2 := Step.tup (ι := ι1) (n := m1.length) (ho := .xd (fns.zip vs).reverse) hd1
      exact q1 ι1 _ σ C dx _ S2 (M1.fresh hd1) (e1.step S2) G.mg upd_same (paired_rev (fld_zip (Reps.step S2 _ _ rv)))
    · rw [if_neg hl] at q1
      exact q1.elim
end

/-! ### try .. except c as n: suite -/
/-- a suite's expression: what it gives by the fields, nothing changes but by what is made new -/
def unset (i : Nat) (o : O) : O := match o with
  | .nx ρ m => .nx (ρ.set i none) m
  | .bk ρ m => .bk (ρ.set i none) m
  | .ct ρ m => .ct (ρ.set i none) m
  | .rt d m => .rt d m
  | _ => .stk
def dTry (g : DSt) (xm : Str → Option Bool) (i : Nat) (h : List (Str × D) → DSt) : DSt := fun ρ m => match g ρ m with
  | .exn c fs ρ1 m1 => match xm c with
    | some true => if i < ρ1.length then unset i (h fs (ρ1.set i none) m1) else .stk
    | some false => .exn c fs ρ1 m1
    | none => .stk
  | o => o
/-- the suite's reading: a the exception, cls its class, d its dict -/
def tSuite (K : PySem.W.Frag) (w : World) (mg : Str → Option Value) (xm : Str → Option Bool) (i : Nat) (h : List (Str × D) → DSt) (a : Addr) (cls : Value) (d : Option Addr) : TS := fun E σ H =>
  ∃ ι ρ m fs gs dx c C, d = some dx ∧ H dx = some (.xd gs) ∧ FldR K ι m.length H fs gs ∧ mg c = some (.ref C) ∧ cls = .ref C ∧ xm c = some true ∧ σ[i]? = some (some (.ref a)) ∧ RelE K ι m.length H ρ σ ∧ RelM K w ι m H ∧ finS K w mg W0 ι m.length H E (h fs ρ m)
theorem RelE.unset {K : PySem.W.Frag} {ι : Nat → Addr} {n : Nat} {H : Hp} {ρ : En} {σ : L2.St} (h : RelE K ι n H ρ σ) (i : Nat) (o : Option V) : RelE K ι n H (ρ.set i none) (σ.set i o) := by
  refine ⟨by rw [List.length_set, List.length_set]; exact h.1, fun j d e => ?_⟩
  by_cases hij : i = j
  · subst hij
    by_cases hl : i < ρ.length
    · rw [List.getElem?_set_self hl] at e; cases e
    · rw [List.getElem?_eq_none (by rw [List.length_set]; omega)] at e; cases e
  · rw [List.getElem?_set_ne hij] at e ⊢
    exact h.2 j d e
section
variable {X : Cx} {W : WX} {x n : Str} {c : Value} {i : Nat} {body suite : List Stmt} {b₀ : Stmt} {np pos pos' : Pos} {g : DSt} {xm : Str → Option Bool} {h : List (Str × D) → DSt}
theorem ds_try (hs : X.stack = X.env :: X.outer) (hf : X.env.frame = some X.env.locals) (hN : X.N.Nodup) (hi : X.N[i]? = some n) (hln : X.env.kindOf n = some .local) (hc : Names X x c) (tk : Takes X W)
    (hxm : ∀ c' b C', xm c' = some b → X.mg c' = some (.ref C') → PySem.W.exmOne X.K (.ref C') c = some b)
    (hb : ∀ (W' : WX) (pn : List (Addr × Obj)) (xe : Value → Shared → Prop), Takes (X.tr pn xe) W' → PassesOwn (model X.prog X.w) X.A X.env xe → DSs (X.tr pn xe) W' body g)
    (hsu : ∀ (a : Addr) (oe : Obj) (cls : Value) (d : Option Addr) (pn : List (Addr × Obj)), (∃ c' C', xm c' = some true ∧ X.mg c' = some (.ref C') ∧ cls = .ref C') → Zc cls d oe → (∃ vs, oe.data = .fields vs) → PSs (X.suite a ((a, oe) :: pn)) (b₀ :: suite) (tSuite X.K X.w X.mg xm i h a cls d)) :
    DS X W (.Try body [.ExceptHandler (some (.Name x np)) (some n) (b₀ :: suite) pos'] [] [] pos) (dTry g xm i h) :=
  ps_imp (ps_try_as (i := i) (ts := tSuite X.K X.w X.mg xm i h) (tb := fun W' => rdS X.K X.w X.mg W' g) hs hf hN hi hln hc tk hb fun a oe cls d pn hz hf => (Classical.em (∃ c' C', xm c' = some true ∧ X.mg c' = some (.ref C') ∧ cls = .ref C')).elim (fun h => hsu a oe cls d pn h hz hf) fun h => ⟨fun pins s σ H D I q => absurd (let ⟨_, _, _, _, _, _, c', C', _, _, _, hm, ec, hxc, _⟩ := q; ⟨c', C', hxc, hm, ec⟩) h⟩) fun E σ H q => by
    obtain ⟨ι, ρ, m, e, M, q⟩ := q
    refine ⟨ι, ρ, m, e, M, ?_⟩
    unfold dTry at q
    cases hg : g ρ m with
    | exn c' fs ρ1 m1 =>
      rw [hg] at q
      dsimp only at q
      intro ι1 H1 σ1 C dx gs S1 M1 e1 hm hx hF
      cases hxc : xm c' with
      | none => rw [hxc] at q; exact q.elim
      | some b =>
        rw [hxc] at q
        refine ⟨b, hxm c' b C hxc hm, fun hbt a ha => ?_, fun hbf => ?_⟩
        · subst hbt
          dsimp only at q
          by_cases hl : i < ρ1.length
          · rw [if_pos hl] at q
            have q2 := finS_step q S1
            refine ⟨ι1, ρ1.set i none, m1, fs, gs, dx, c', C, rfl, hx, hF, hm, rfl, hxc, List.getElem?_set_self (by rw [← e1.1]; exact hl), e1.unset i _, M1, ?_⟩
            cases hh : h fs (ρ1.set i none) m1 with
            | nx ρ2 m2 => rw [hh] at q2; exact fun ι2 H2 σ2 S2 M2 e2 => q2 ι2 H2 _ S2 M2 (e2.unset i none)
            | bk ρ2 m2 => rw [hh] at q2; exact fun ι2 H2 σ2 S2 M2 e2 => q2 ι2 H2 _ S2 M2 (e2.unset i none)
            | ct ρ2 m2 => rw [hh] at q2; exact fun ι2 H2 σ2 S2 M2 e2 => q2 ι2 H2 _ S2 M2 (e2.unset i none)
            | rt d m2 => rw [hh] at q2; exact q2
            | exn c2 fs2 ρ2 m2 => rw [hh] at q2; exact q2.elim
            | stk => rw [hh] at q2; exact q2.elim
          · rw [if_neg hl] at q
            exact q.elim
        · subst hbf
          exact q ι1 H1 σ1 C dx gs S1 M1 e1 hm hx hF
    | nx ρ1 m1 => rw [hg] at q; exact q
    | bk ρ1 m1 => rw [hg] at q; exact q
    | ct ρ1 m1 => rw [hg] at q; exact q
    | rt d m1 => rw [hg] at q; exact q
    | stk => rw [hg] at q; exact q

/-! ### what a suite says of the exception -/
def rdX (K : PySem.W.Frag) (w : World) (mg : Str → Option Value) (i : Nat) (a : Addr) (cls : Value) (d : Option Addr) (fe : List (Str × D) → DF) : TE := fun σ H Q =>
  ∃ ι ρ m fs gs dx, d = some dx ∧ H dx = some (.xd gs) ∧ FldR K ι m.length H fs gs ∧ σ[i]? = some (some (.ref a)) ∧ RelE K ι m.length H ρ σ ∧ RelM K w ι m H ∧ fin K w mg W0 σ ι m.length H (pV K Q) (fe fs ρ m)
def rdXA (K : PySem.W.Frag) (w : World) (mg : Str → Option Value) (i : Nat) (a : Addr) (cls : Value) (d : Option Addr) (fe : List (Str × D) → DFs) : TA := fun σ H Q =>
  ∃ ι ρ m fs gs dx, d = some dx ∧ H dx = some (.xd gs) ∧ FldR K ι m.length H fs gs ∧ σ[i]? = some (some (.ref a)) ∧ RelE K ι m.length H ρ σ ∧ RelM K w ι m H ∧ fin K w mg W0 σ ι m.length H (pVs K Q) (fe fs ρ m)
theorem fld_step {K : PySem.W.Frag} {ι ι' : Nat → Addr} {n n' : Nat} {H H' : Hp} {fs : List (Str × D)} {gs : List (Str × V)} (h : FldR K ι n H fs gs) (S : Step ι n H ι' n' H') : FldR K ι' n' H' fs gs := Paired.mp (fun p q z => ⟨z.1, z.2.step S⟩) h
theorem fld_look {K : PySem.W.Frag} {ι : Nat → Addr} {n : Nat} {H : Hp} {f : Str} {d : D} : ∀ {fs : List (Str × D)} {gs : List (Str × V)}, FldR K ι n H fs gs → fs.lookup f = some d → ∃ v, gs.lookup f = some v ∧ Rep K ι n H d v
  | _, _, .nil, e => by cases e
  | (g, x) :: fs, (g', y) :: gs, .cons r t, e => by
    obtain ⟨rfl, r2⟩ := r
    by_cases h : (f == g) = true
    · simp only [List.lookup, h] at e ⊢
      cases e
      exact ⟨y, rfl, r2⟩
    · have h' : (f == g) = false := by simpa using h
      simp only [List.lookup, h'] at e ⊢
      exact fld_look t e
variable {a : Addr} {oe : Obj} {cls : Value} {d : Option Addr} {pn : List (Addr × Obj)} {e : Expr} {es : List Expr}
/-- what does not look at the exception -/
theorem sx_de {f : DF} {Y : Cx} (he : DE Y W0 e f) : PE Y e (rdX Y.K Y.w Y.mg i a cls d fun _ => f) := pe_imp he fun σ H Q q => by
  obtain ⟨ι, ρ, m, fs, gs, dx, ed, hx, hF, hi, E, M, q⟩ := q
  exact ⟨ι, ρ, m, E, M, q⟩
def dFld (f : Str) (fs : List (Str × D)) : DF := fun _ m => match fs.lookup f with
  | some v => .ok v m
  | none => .stk
theorem sx_fld {C : Addr} {f : Str} {p pos : Pos} {nm : Str} (T : XfC X.K C) (hno : PySem.W.findIn X.K (.ref C) f = some none) (hz : Zc cls d oe) (hf : ∃ vs, oe.data = .fields vs) (ec : cls = .ref C)
    (he : PE (X.suite a ((a, oe) :: pn)) (.Name nm p) (tVar i)) (hb : attributeBase (.Name nm p) f X.env (eval (.Name nm p) X.env) = eval (.Name nm p) X.env := by rfl) :
    PE (X.suite a ((a, oe) :: pn)) (.Attribute (.Name nm p) f pos) (rdX X.K X.w X.mg i a cls d (dFld f)) := pe_imp (pe_xf T hno hz hf he hb) fun σ H Q q => by
  obtain ⟨ι, ρ, m, fs, gs, dx, ed, hx, hF, hi, E, M, q⟩ := q
  refine ⟨.ref a, hi, rfl, ec, dx, gs, ?_⟩
  unfold dFld at q
  cases h1 : fs.lookup f with
  | none => rw [h1] at q; exact q.elim
  | some v =>
    rw [h1] at q
    obtain ⟨u, h2, h3⟩ := fld_look hF h1
    exact ⟨u, ed, hx, h2, fin_now (α := D) q M u h3⟩
def xNil : List (Str × D) → DFs := fun _ => dNil
def xCons (f : List (Str × D) → DF) (g : List (Str × D) → DFs) : List (Str × D) → DFs := fun fs => dCons (f fs) (g fs)
theorem sxa_nil {Y : Cx} : PA Y [] (rdXA Y.K Y.w Y.mg i a cls d xNil) := pa_imp pa_nil fun σ H Q q => by
  obtain ⟨ι, ρ, m, fs, gs, dx, ed, hx, hF, hi, E, M, q⟩ := q
  exact fin_now q M [] Reps.nil
theorem sxa_cons {Y : Cx} {f : List (Str × D) → DF} {g : List (Str × D) → DFs} (ha : PE Y e (rdX Y.K Y.w Y.mg i a cls d f)) (hr : PA Y es (rdXA Y.K Y.w Y.mg i a cls d g)) (hs : starEach (e :: es) Y.env = (false, eval e Y.env) :: starEach es Y.env := by rfl) : PA Y (e :: es) (rdXA Y.K Y.w Y.mg i a cls d (xCons f g)) :=
  pa_imp (pa_cons ha hr hs) fun σ H Q q => by
  obtain ⟨ι, ρ, m, fs, gs, dx, ed, hx, hF, hi, E, M, q⟩ := q
  refine ⟨ι, ρ, m, fs, gs, dx, ed, hx, hF, hi, E, M, fin_then q fun ι1 m1 H1 d S1 M1 q1 v rv => ?_⟩
  refine ⟨ι1, ρ, m1, fs, gs, dx, ed, S1.xk _ _ hx, fld_step hF S1, hi, E.step S1, M1, fin_then q1 fun ι2 m2 H2 ds S2 M2 q2 vs rvs => ?_⟩
  exact fin_now q2 M2 (v :: vs) (Reps.cons (rv.step S2) rvs)
def xLst (g : List (Str × D) → DFs) : List (Str × D) → DF := fun fs => dLst (g fs)
def xTup (g : List (Str × D) → DFs) : List (Str × D) → DF := fun fs => dTup (g fs)
theorem sx_lst {Y : Cx} {pos : Pos} {g : List (Str × D) → DFs} (h : PA Y es (rdXA Y.K Y.w Y.mg i a cls d g)) : PE Y (.List es pos) (rdX Y.K Y.w Y.mg i a cls d (xLst g)) := pe_imp (pe_lst h) fun σ H Q q => by
  obtain ⟨ι, ρ, m, fs, gs, dx, ed, hx, hF, hi, E, M, q⟩ := q
  refine ⟨ι, ρ, m, fs, gs, dx, ed, hx, hF, hi, E, M, fin_then q fun ι1 m1 H1 ds S1 M1 q1 vs rv => ?_⟩
  by_cases hz : ds.length ≤ sizeLine
  · rw [if_pos hz] at q1
    exact ⟨by rw [rv.length]; exact hz, fin_lst M1 rv q1⟩
  · rw [if_neg hz] at q1
    exact q1.elim
theorem sx_tup {Y : Cx} {pos : Pos} {x1} {g : List (Str × D) → DFs} (h : PA Y es (rdXA Y.K Y.w Y.mg i a cls d g)) : PE Y (.Tuple es x1 pos) (rdX Y.K Y.w Y.mg i a cls d (xTup g)) := pe_imp (pe_tup h) fun σ H Q q => by
  obtain ⟨ι, ρ, m, fs, gs, dx, ed, hx, hF, hi, E, M, q⟩ := q
  refine ⟨ι, ρ, m, fs, gs, dx, ed, hx, hF, hi, E, M, fin_then q fun ι1 m1 H1 ds S1 M1 q1 vs rv => ?_⟩
  by_cases hz : ds.length ≤ sizeLine
  · rw [if_pos hz] at q1
    exact ⟨by rw [rv.length]; exact hz, fin_tup M1 rv q1⟩
  · rw [if_neg hz] at q1
    exact q1.elim
/-- return e -/
theorem ss_ret {Y : Cx} {pos : Pos} {f : List (Str × D) → DF} (he : PE Y e (rdX Y.K Y.w Y.mg i a cls d f)) : PSs Y [.Return (some e) pos] (tSuite Y.K Y.w Y.mg xm i (fun fs => dRet (f fs)) a cls d) := pss_imp (pss_one (ps_ret he)) fun E σ H q => by
  obtain ⟨ι, ρ, m, fs, gs, dx, c, C, ed, hx, hF, hm, ec, hxc, hi, e, M, q⟩ := q
  exact ⟨ι, ρ, m, fs, gs, dx, ed, hx, hF, hi, e, M, fin_goes' e q fun ι1 m1 H1 d S1 M1 e1 q1 v rv => q1 ι1 H1 v (Step.refl _ _ _) M1 rv⟩
/-- a suite that does not look at the exception -/
theorem ss_any {Y : Cx} {sts : List Stmt} {g : DSt} (hg : DSs Y W0 sts g) : PSs Y sts (tSuite Y.K Y.w Y.mg xm i (fun _ => g) a cls d) := pss_imp hg fun E σ H q => by
  obtain ⟨ι, ρ, m, fs, gs, dx, c, C, ed, hx, hF, hm, ec, hxc, hi, e, M, q⟩ := q
  exact ⟨ι, ρ, m, e, M, q⟩
end
end DL
/-! The D layer: the order of data; sorted. -/
namespace DL
open PySem PySem.Spec L2

/-! ### data as words of ints -/
mutual
def D.toks : D → List Int
  | .int i => [0, i]
  | .str x => 1 :: (x.cps.toList.map (fun c : Nat => (c : Int) + 1) ++ [0])
  | .tup xs => 2 :: D.toksAll xs
  | .non => [3]
  | .bl b => [4, if b then 1 else 0]
  | .ref l => [5, l]
def D.toksAll : List D → List Int
  | [] => [0]
  | x :: xs => 1 :: (D.toks x ++ D.toksAll xs)
end
theorem cps_inj {x y : Str} (h : x.cps.toList = y.cps.toList) : x = y := by
  cases x; cases y
  simp at h
  simp [h]
theorem word_inj : ∀ (a b : List Nat) (s t : List Int), a.map (fun c : Nat => (c : Int) + 1) ++ 0 :: s = b.map (fun c : Nat => (c : Int) + 1) ++ 0 :: t → a = b ∧ s = t
  | [], [], _, _, h => ⟨rfl, by simpa using h⟩
  | [], b :: bs, _, _, h => by
    simp at h
    omega
  | a :: as, [], _, _, h => by
    simp at h
    omega
  | a :: as, b :: bs, s, t, h => by
    simp only [List.map_cons, List.cons_append, List.cons.injEq] at h
    obtain ⟨h1, h2⟩ := word_inj as bs s t h.2
    exact ⟨by rw [h1, show a = b by omega], h2⟩
mutual
theorem toks_inj : ∀ (x y : D) (s t : List Int), x.toks ++ s = y.toks ++ t → x = y ∧ s = t
  | .int i, y, s, t, h => by
    cases y <;> simp [D.toks] at h
    exact ⟨by rw [h.1], h.2⟩
  | .str a, y, s, t, h => by
    cases y <;> simp [D.toks] at h
    obtain ⟨h1, h2⟩ := word_inj _ _ s t h
    exact ⟨by rw [cps_inj h1], h2⟩
  | .tup xs, y, s, t, h => by
    cases y with
    | tup ys =>
      simp [D.toks] at h
      obtain ⟨h1, h2⟩ := toksAll_inj xs ys s t h
      exact ⟨by rw [h1], h2⟩
    | _ => simp [D.toks] at h
  | .non, y, s, t, h => by
    cases y <;> simp [D.toks] at h
    exact ⟨rfl, h⟩
  | .bl b, y, s, t, h => by
    cases y with
    | bl c =>
      simp [D.toks] at h
      exact ⟨by cases b <;> cases c <;> simp at h <;> rfl, h.2⟩
    | _ => simp [D.toks] at h
  | .ref l, y, s, t, h => by
    cases y with
    | ref l' =>
      simp [D.toks] at h
      exact ⟨by rw [show l = l' by omega], h.2⟩
    | _ => simp [D.toks] at h
theorem toksAll_inj : ∀ (xs ys : List D) (s t : List Int), D.toksAll xs ++ s = D.toksAll ys ++ t → xs = ys ∧ s = t
  | [], [], s, t, h => ⟨rfl, by simpa [D.toksAll] using h⟩
  | [], y :: ys, s, t, h => by simp [D.toksAll] at h
  | x :: xs, [], s, t, h => by simp [D.toksAll] at h
  | x :: xs, y :: ys, s, t, h => by
    simp only [D.toksAll, List.cons_append, List.cons.injEq, true_and, List.append_assoc] at h
    obtain ⟨h1, h2⟩ := toks_inj x y _ _ h
    obtain ⟨h3, h4⟩ := toksAll_inj xs ys s t h2
    exact ⟨by rw [h1, h3], h4⟩
end
theorem toks_eq {x y : D} (h : x.toks = y.toks) : x = y := (toks_inj x y [] [] (by rw [h])).1
/-- x before y -/
def tlt (x y : D) : Bool := decide (x.toks < y.toks)
theorem tlt_irr (x : D) : tlt x x = false := decide_eq_false (List.lt_irrefl _)
theorem tlt_asym {x y : D} (h : tlt x y = true) : tlt y x = false := decide_eq_false fun g => List.lt_asymm (of_decide_eq_true h) g
theorem tlt_trans {x y z : D} (h : tlt x y = true) (g : tlt y z = true) : tlt x z = true := decide_eq_true (List.lt_trans (of_decide_eq_true h) (of_decide_eq_true g))
theorem tlt_conn {x y : D} (h : tlt x y = false) (g : tlt y x = false) : x = y := toks_eq (List.le_antisymm (List.not_lt.mp (of_decide_eq_false g)) (List.not_lt.mp (of_decide_eq_false h)))
theorem tlt_neg {x y z : D} (h1 : tlt y x = false) (h2 : tlt z y = false) : tlt z x = false := by
  cases h : tlt z x with
  | false => rfl
  | true =>
    cases g : tlt x y with
    | true => rw [tlt_trans h g] at h2; cases h2
    | false =>
      have := tlt_conn g h1
      subst this
      rw [h] at h2
      cases h2
/-! ### as Python compares -/
mutual
def dlt : D → D → Option Bool
  | .int a, .int b => some (decide (a < b))
  | .str a, .str b => some (decide (a.cps.toList < b.cps.toList))
  | .tup xs, .tup ys => dlts xs ys
  | _, _ => none
def dlts : List D → List D → Option Bool
  | [], [] => some false
  | [], _ :: _ => some true
  | _ :: _, [] => some false
  | x :: xs, y :: ys => if x = y then dlts xs ys else dlt x y
end
theorem app_lt (p : List Int) {s t : List Int} : p ++ s < p ++ t ↔ s < t := by
  induction p with
  | nil => exact Iff.rfl
  | cons a p ih => rw [List.cons_append, List.cons_append, List.cons_lt_cons_iff]; simp only [Int.lt_irrefl, false_or, true_and]; exact ih
theorem word_lt : ∀ (a b : List Nat) (s t : List Int), a ≠ b → decide (a.map (fun c : Nat => (c : Int) + 1) ++ 0 :: s < b.map (fun c : Nat => (c : Int) + 1) ++ 0 :: t) = decide (a < b)
  | [], [], _, _, h => absurd rfl h
  | [], b :: bs, s, t, h => by
    simp only [List.map_nil, List.nil_append, List.map_cons, List.cons_append, List.cons_lt_cons_iff]
    have : (0 : Int) < (b : Int) + 1 := by omega
    simp [this]
  | a :: as, [], s, t, h => by
    simp only [List.map_nil, List.nil_append, List.map_cons, List.cons_append, List.cons_lt_cons_iff]
    have h1 : ¬ (a : Int) + 1 < 0 := by omega
    have h2 : ¬ (a : Int) + 1 = 0 := by omega
    simp [h1, h2]
  | a :: as, b :: bs, s, t, h => by
    by_cases e : a = b
    · subst e
      have ih := word_lt as bs s t fun z => h (by rw [z])
      simp only [List.map_cons, List.cons_append, List.cons_lt_cons_iff, Int.lt_irrefl, false_or, true_and, Nat.lt_irrefl] at ih ⊢
      exact ih
    · have e' : ¬ (a : Int) + 1 = (b : Int) + 1 := by omega
      simp only [List.map_cons, List.cons_append, List.cons_lt_cons_iff, e, e', false_and, or_false]
      have : (a : Int) + 1 < (b : Int) + 1 ↔ a < b := by omega
      simp [this]
mutual
theorem dlt_toks : ∀ (x y : D) (k : Bool), x ≠ y → dlt x y = some k → ∀ s t, decide (x.toks ++ s < y.toks ++ t) = k
  | .int i, .int j, k, hne, h, s, t => by
    have : ¬ i = j := fun z => hne (by rw [z])
    simp only [dlt, Option.some.injEq] at h
    subst h
    simp [D.toks, List.cons_lt_cons_iff, this]
  | .str a, .str b, k, hne, h, s, t => by
    simp only [dlt, Option.some.injEq] at h
    subst h
    have := word_lt a.cps.toList b.cps.toList s t fun z => hne (by rw [cps_inj z])
    simp only [D.toks, List.cons_append, List.append_assoc, List.nil_append, List.cons_lt_cons_iff, Int.lt_irrefl, false_or, true_and]
    exact this
  | .tup xs, .tup ys, k, hne, h, s, t => by
    have := dlts_toks xs ys k (fun z => hne (by rw [z])) (by simpa only [dlt] using h) s t
    simp only [D.toks, List.cons_append, List.cons_lt_cons_iff, Int.lt_irrefl, false_or, true_and]
    exact this
  | .int _, .str _, _, _, h, _, _ | .int _, .tup _, _, _, h, _, _ | .int _, .non, _, _, h, _, _ | .int _, .bl _, _, _, h, _, _ | .int _, .ref _, _, _, h, _, _ => by simp [dlt] at h
  | .str _, .int _, _, _, h, _, _ | .str _, .tup _, _, _, h, _, _ | .str _, .non, _, _, h, _, _ | .str _, .bl _, _, _, h, _, _ | .str _, .ref _, _, _, h, _, _ => by simp [dlt] at h
  | .tup _, .int _, _, _, h, _, _ | .tup _, .str _, _, _, h, _, _ | .tup _, .non, _, _, h, _, _ | .tup _, .bl _, _, _, h, _, _ | .tup _, .ref _, _, _, h, _, _ => by simp [dlt] at h
  | .non, _, _, _, h, _, _ => by simp [dlt] at h
  | .bl _, _, _, _, h, _, _ => by simp [dlt] at h
  | .ref _, _, _, _, h, _, _ => by simp [dlt] at h
theorem dlts_toks : ∀ (xs ys : List D) (k : Bool), xs ≠ ys → dlts xs ys = some k → ∀ s t, decide (D.toksAll xs ++ s < D.toksAll ys ++ t) = k
  | [], [], _, hne, _, _, _ => absurd rfl hne
  | [], y :: ys, k, _, h, s, t => by
    simp only [dlts, Option.some.injEq] at h
    subst h
    simp [D.toksAll, List.cons_lt_cons_iff]
  | x :: xs, [], k, _, h, s, t => by
    simp only [dlts, Option.some.injEq] at h
    subst h
    simp [D.toksAll, List.cons_lt_cons_iff]
  | x :: xs, y :: ys, k, hne, h, s, t => by
    simp only [D.toksAll, List.cons_append, List.append_assoc, List.cons_lt_cons_iff, Int.lt_irrefl, false_or, true_and]
    unfold dlts at h
    by_cases e : x = y
    · subst e
      rw [if_pos rfl] at h
      have := dlts_toks xs ys k (fun z => hne (by rw [z])) h s t
      rw [← this]
      apply decide_eq_decide.mpr
      exact app_lt _
    · rw [if_neg e] at h
      exact dlt_toks x y k e h _ _
end
theorem dlt_tlt {x y : D} {k : Bool} (hne : x ≠ y) (h : dlt x y = some k) : tlt x y = k := by
  have := dlt_toks x y k hne h [] []
  simpa [tlt] using this
end DL
/-! The D layer: sorted of data. -/
namespace DL
open PySem PySem.Spec L2 PyProof.Rows PySem.SeqAt

/-! ### data that may be compared -/
mutual
def D.okS : D → Bool
  | .non => true
  | .int _ => true
  | .str x => PyData.strOk x
  | .tup xs => D.okSs xs
  | .bl _ => false
  | .ref _ => false
def D.okSs : List D → Bool
  | [] => true
  | d :: ds => D.okS d && D.okSs ds
end
mutual
def D.dep : D → Nat
  | .tup xs => D.deps xs + 1
  | _ => 0
def D.deps : List D → Nat
  | [] => 0
  | d :: ds => max (D.dep d) (D.deps ds)
end
mutual
def RdV (h : Heap) : D → Value → Prop
  | .non, u => u = .none
  | .int i, u => ∃ t, u = .int i t
  | .str x, u => ∃ t, u = .str x t
  | .tup xs, u => ∃ a o vs n, u = .ref a ∧ h.get? a = some o ∧ o.cls = .type "tuple" ∧ o.data = .seq vs n ∧ RdVs h xs vs.toList
  | .bl _, _ => False
  | .ref _, _ => False
def RdVs (h : Heap) : List D → List Value → Prop
  | [], us => us = []
  | d :: ds, us => ∃ u r, us = u :: r ∧ RdV h d u ∧ RdVs h ds r
end
theorem okSs_cons {d : D} {ds : List D} (h : D.okSs (d :: ds) = true) : d.okS = true ∧ D.okSs ds = true := by
  simpa [D.okSs] using h
mutual
theorem rd_reads {h : Heap} : ∀ (d : D) (u : Value), d.okS = true → RdV h d u → ∃ p as, d.py = some p ∧ Reads h u p as ∧ p.canLay0 = true ∧ p.depth = d.dep
  | .non, _, _, r => by obtain rfl := r; exact ⟨_, _, rfl, .none, rfl, rfl⟩
  | .int i, _, _, r => by obtain ⟨t, rfl⟩ := r; exact ⟨_, _, rfl, .int _ _, rfl, rfl⟩
  | .str x, _, o, r => by obtain ⟨t, rfl⟩ := r; exact ⟨_, _, rfl, .str _ _, o, rfl⟩
  | .tup xs, _, o, r => by
    obtain ⟨a, ob, vs, n, rfl, h1, h2, h3, h4⟩ := r
    obtain ⟨ps, as, e, rr, c, dd⟩ := rds_reads xs vs.toList o h4
    exact ⟨.tuple ps, as, by simp only [D.py, e, Option.map_some], .tuple h1 h2 h3 rr, c, by simp only [PyData.depth, D.dep, dd]⟩
  | .bl _, _, _, r => r.elim
  | .ref _, _, _, r => r.elim
theorem rds_reads {h : Heap} : ∀ (ds : List D) (us : List Value), D.okSs ds = true → RdVs h ds us → ∃ ps as, D.pys ds = some ps ∧ ReadsAll h us ps as ∧ PyData.canLayAll0 ps = true ∧ PyData.depthAll ps = D.deps ds
  | [], _, _, r => by obtain rfl := r; exact ⟨[], _, rfl, .nil, rfl, rfl⟩
  | d :: ds, _, o, r => by
    obtain ⟨u, us, rfl, r1, r2⟩ := r
    obtain ⟨o1, o2⟩ := okSs_cons o
    obtain ⟨p, as, e, rr, c, dd⟩ := rd_reads d u o1 r1
    obtain ⟨ps, bs, e2, rr2, c2, dd2⟩ := rds_reads ds us o2 r2
    exact ⟨p :: ps, _, by simp only [D.pys, e, e2], .cons rr rr2, by simp only [PyData.canLayAll0, c, c2, Bool.and_self], by simp only [PyData.depthAll, D.deps, dd, dd2]⟩
end
mutual
theorem py_eqv : ∀ (x y : D) (p q : PyData), x.okS = true → y.okS = true → x.py = some p → y.py = some q → PyData.eqv p q = decide (x = y)
  | .non, y, p, q, _, oy, hp, hq => by
    cases hp
    cases y <;> first | (cases oy; done) | (cases hq; simp [PyData.eqv]; done) | (cases hq; rw [Bool.eq_iff_iff]; simp [PyData.eqv]; done) | (simp only [D.py] at hq; obtain ⟨ps, _, rfl⟩ := Option.map_eq_some_iff.mp hq; simp [PyData.eqv])
  | .int i, y, p, q, _, oy, hp, hq => by
    cases hp
    cases y <;> first | (cases oy; done) | (cases hq; simp [PyData.eqv]; done) | (cases hq; rw [Bool.eq_iff_iff]; simp [PyData.eqv]; done) | (simp only [D.py] at hq; obtain ⟨ps, _, rfl⟩ := Option.map_eq_some_iff.mp hq; simp [PyData.eqv])
  | .str i, y, p, q, _, oy, hp, hq => by
    cases hp
    cases y <;> first | (cases oy; done) | (cases hq; simp [PyData.eqv]; done) | (cases hq; rw [Bool.eq_iff_iff]; simp [PyData.eqv]; done) | (simp only [D.py] at hq; obtain ⟨ps, _, rfl⟩ := Option.map_eq_some_iff.mp hq; simp [PyData.eqv])
  | .tup xs, y, p, q, ox, oy, hp, hq => by
    simp only [D.py] at hp
    obtain ⟨ps, hps, rfl⟩ := Option.map_eq_some_iff.mp hp
    cases y with
    | tup ys =>
      simp only [D.py] at hq
      obtain ⟨qs, hqs, rfl⟩ := Option.map_eq_some_iff.mp hq
      have := pys_eqv xs ys ps qs ox oy hps hqs
      simp only [PyData.eqv, this, D.tup.injEq]
    | bl _ => cases oy
    | ref _ => cases oy
    | _ => cases hq; simp [PyData.eqv]
  | .bl _, _, _, _, ox, _, _, _ => by cases ox
  | .ref _, _, _, _, ox, _, _, _ => by cases ox
theorem pys_eqv : ∀ (xs ys : List D) (ps qs : List PyData), D.okSs xs = true → D.okSs ys = true → D.pys xs = some ps → D.pys ys = some qs → PyData.eqvAll ps qs = decide (xs = ys)
  | [], ys, ps, qs, _, oy, hp, hq => by
    cases hp
    cases ys with
    | nil => cases hq; simp [PyData.eqvAll]
    | cons y ys =>
      unfold D.pys at hq
      cases e : y.py with
      | none => simp only [e] at hq; cases hq
      | some k =>
        cases e2 : D.pys ys with
        | none => simp only [e, e2] at hq; cases hq
        | some ks => simp only [e, e2] at hq; cases hq; simp [PyData.eqvAll]
  | x :: xs, ys, ps, qs, ox, oy, hp, hq => by
    obtain ⟨o1, o2⟩ := okSs_cons ox
    unfold D.pys at hp
    cases e : x.py with
    | none => simp only [e] at hp; cases hp
    | some k =>
      cases e2 : D.pys xs with
      | none => simp only [e, e2] at hp; cases hp
      | some ks =>
        simp only [e, e2] at hp; cases hp
        cases ys with
        | nil => cases hq; simp [PyData.eqvAll]
        | cons y ys =>
          obtain ⟨o3, o4⟩ := okSs_cons oy
          unfold D.pys at hq
          cases e3 : y.py with
          | none => simp only [e3] at hq; cases hq
          | some k' =>
            cases e4 : D.pys ys with
            | none => simp only [e3, e4] at hq; cases hq
            | some ks' =>
              simp only [e3, e4] at hq; cases hq
              simp only [PyData.eqvAll, py_eqv x y k k' o1 o3 e e3, pys_eqv xs ys ks ks' o2 o4 e2 e4, List.cons.injEq]
              by_cases h1 : x = y <;> by_cases h2 : xs = ys <;> simp [h1, h2]
end
theorem eqAt_d {A : Around} {s : Shared} {x y : D} {u v : Value} (ox : x.okS = true) (oy : y.okS = true) (rx : RdV s.heap x u) (ry : RdV s.heap y v) (hu : A.units + min x.dep y.dep < cLine) : EqAt A s u v (decide (x = y)) := by
  obtain ⟨p, as, e1, r1, c1, d1⟩ := rd_reads x u ox rx
  obtain ⟨q, bs, e2, r2, c2, d2⟩ := rd_reads y v oy ry
  rw [← py_eqv x y p q ox oy e1 e2]
  exact eqAt_reads p q A s u v as bs r1 r2 c1 c2 (by rw [d1, d2]; exact hu)

/-! ### < of tuples: what lies behind the first difference is not compared -/
theorem tup_ltAt (l b : Addr) (items items2 : Array Value) (n n2 : Nat) (dd dd2 : Option Addr) (sl sl2 : Array (Option Value)) (e r : Nat → Bool) :
    Meets (Builtin.«tuple.__lt__» ⟨[.ref l, .ref b], []⟩)
      (fun A R s => s.heap.get? l = some { cls := .type "tuple", dict := dd, data := .seq items n, slots := sl } ∧ s.heap.get? b = some { cls := .type "tuple", dict := dd2, data := .seq items2 n2, slots := sl2 } ∧
        (∀ j (h1 : j < items.size) (h2 : j < items2.size), EqAt A.in1 s items[j] items2[j] (e j)) ∧ (∀ j (h1 : j < items.size) (h2 : j < items2.size), (∀ i, i < j → e i = true) → e j = false → RcLt A.in1 s items[j] items2[j] (r j)) ∧
        R (.ok (.ret (.bool (firstLt e r (decide (items.size < items2.size)) (List.range (min items.size items2.size)))))) s) :=
  .of_wp fun prog w A R s h => by
    obtain ⟨hp, g, d, tk, os⟩ := s; obtain ⟨hl, hb, he, hr, h⟩ := h
    have f2 := AutoSeq1.sub_tuple_tuple
    have hZ : (items.toList.zip items2.toList).length = min items.size items2.size := by simp
    wp_walk using AutoSeq1.wpAny_loadPart' hl, AutoSeq1.wpAny_loadPart' hb, wpAny_forIn_list _ (fun rest b s' => b.1 = none ∧ s' = ⟨hp, g, d, tk, os⟩ ∧ ∃ i, (∀ j, j < i → e j = true) ∧ rest = (items.toList.zip items2.toList).drop i ∧
      R (.ok (.ret (.bool (firstLt e r (decide (items.size < items2.size)) ((List.range (min items.size items2.size)).drop i))))) ⟨hp, g, d, tk, os⟩) _
    case turn =>
      rintro ⟨y, x⟩ rest b s' ⟨hb', rfl, i, hpre, hz, hR⟩
      have hlt : i < (items.toList.zip items2.toList).length := by
        rcases Nat.lt_or_ge i (items.toList.zip items2.toList).length with h' | h'
        · exact h'
        · rw [List.drop_of_length_le h'] at hz; cases hz
      have hm : i < min items.size items2.size := hZ ▸ hlt
      have h1 : i < items.size := Nat.lt_of_lt_of_le hm (Nat.min_le_left _ _)
      have h2 : i < items2.size := Nat.lt_of_lt_of_le hm (Nat.min_le_right _ _)
      rw [List.drop_eq_getElem_cons hlt] at hz
      injection hz with hyx hrest
      have hy : y = items[i] := by have := congrArg Prod.fst hyx; simpa using this
      have hx : x = items2[i] := by have := congrArg Prod.snd hyx; simpa using this
      subst hy hx
      have hd : (List.range (min items.size items2.size)).drop i = i :: (List.range (min items.size items2.size)).drop (i + 1) := by simp [List.drop_eq_getElem_cons, hm]
      rw [hd] at hR
      refine wpAny_bind (he i h1 h2 prog w _ _ ?_)
      cases hy : e i with
      | true =>
        rw [firstLt_yes hy] at hR
        wp_walk
        refine ⟨rfl, rfl, i + 1, fun j hj => ?_, hrest, hR⟩
        rcases Nat.lt_succ_iff_lt_or_eq.mp hj with q | q
        · exact hpre j q
        · rw [q]; exact hy
      | false =>
        rw [firstLt_no hy] at hR
        have hrc : ∀ {E : Value → Shared → Prop} {Q : Value → Shared → Prop}, Q (.bool (r i)) ⟨hp, g, d, tk, os⟩ → wpAny (model prog w) A.in1 (richCompare .Lt items[i] items2[i]) Q E ⟨hp, g, d, tk, os⟩ := fun q => hr i h1 h2 hpre hy prog w _ _ q
        wp_walk using hrc
        exact ⟨_, rfl, hR⟩
    case fin =>
      rintro ⟨b1, b2⟩ s' ⟨hb', rfl, i, hpre, hz, hR⟩
      simp only at hb'
      subst hb'
      have hge : min items.size items2.size ≤ i := by
        rcases Nat.lt_or_ge i (items.toList.zip items2.toList).length with h' | h'
        · rw [List.drop_eq_getElem_cons h'] at hz; cases hz
        · exact hZ ▸ h'
      rw [List.drop_of_length_le (by simpa using hge)] at hR
      wp_walk
      exact ⟨_, rfl, by simpa [Builtin.Tuple.tupleCompareSizes, firstLt] using hR⟩
    case h =>
      exact ⟨rfl, rfl, 0, fun j hj => absurd hj (Nat.not_lt_zero _), rfl, by simpa using h⟩
section
variable {A : Around} {s : Shared}
theorem rc_tup {l b : Addr} {items items2 : Array Value} {e r : Nat → Bool} (hl : s.heap.IsTuple l items) (hb : s.heap.IsTuple b items2) (hu : A.units < cLine)
    (he : ∀ j (h1 : j < items.size) (h2 : j < items2.size), EqAt A.in1 s items[j] items2[j] (e j)) (hr : ∀ j (h1 : j < items.size) (h2 : j < items2.size), (∀ i, i < j → e i = true) → e j = false → RcLt A.in1 s items[j] items2[j] (r j)) :
    RcLt A s (.ref l) (.ref b) (firstLt e r (decide (items.size < items2.size)) (List.range (min items.size items2.size))) := fun prog w E Q h => by
  obtain ⟨⟨cls, dd, data, sl⟩, ho, hc, n, hd⟩ := id hl
  obtain ⟨⟨cls2, dd2, data2, sl2⟩, ho2, hc2, n2, hd2⟩ := id hb
  simp only at hc hd hc2 hd2
  subst hc hd hc2 hd2
  exact richCompare_meets_room (op := .Lt) ⟨_, ho, rfl⟩ ⟨_, ho2, rfl⟩ F.slot_tuple_lt F.entry_tuple_lt (F.args_tuple_lt_2 _ _) (tup_ltAt l b items items2 n n2 dd dd2 sl sl2 e r)
    ⟨ho, ho2, he, hr, show Value.bool (firstLt e r (decide (items.size < items2.size)) (List.range (min items.size items2.size))) ≠ Value.notImplemented ∧ Q (.bool (firstLt e r (decide (items.size < items2.size)) (List.range (min items.size items2.size)))) s from ⟨(fun x => nomatch x), h⟩⟩ hu
theorem call_tup_lt {prog : Program} {w : World} {E : Value → Shared → Prop} {Q : Value → Shared → Prop} {l b : Addr} {items items2 : Array Value} {e r : Nat → Bool} (hl : s.heap.IsTuple l items) (hb : s.heap.IsTuple b items2)
    (he : ∀ j (h1 : j < items.size) (h2 : j < items2.size), EqAt A.in1 s items[j] items2[j] (e j)) (hr : ∀ j (h1 : j < items.size) (h2 : j < items2.size), (∀ i, i < j → e i = true) → e j = false → RcLt A.in1 s items[j] items2[j] (r j))
    (h : Q (.bool (firstLt e r (decide (items.size < items2.size)) (List.range (min items.size items2.size)))) s) : wpAny (model prog w) A (call (.builtin "tuple.__lt__") [.ref l, .ref b]) Q E s := by
  obtain ⟨⟨cls, dd, data, sl⟩, ho, hc, n, hd⟩ := id hl
  obtain ⟨⟨cls2, dd2, data2, sl2⟩, ho2, hc2, n2, hd2⟩ := id hb
  simp only at hc hd hc2 hd2
  subst hc hd hc2 hd2
  exact call_meets F.slot_tuple_lt ⟨_, ho, rfl⟩ F.entry_tuple_lt (F.args_tuple_lt_2 _ _) (tup_ltAt l b items items2 n n2 dd dd2 sl sl2 e r) ⟨ho, ho2, he, hr, h⟩
end

/-! ### of data -/
theorem rdVs_get {h : Heap} : ∀ {ds : List D} {us : List Value} {i : Nat} {d : D}, RdVs h ds us → ds[i]? = some d → ∃ u, us[i]? = some u ∧ RdV h d u
  | [], _, _, _, _, e => by simp at e
  | d :: ds, _, 0, _, r, e => by
    obtain ⟨u, us, rfl, r1, _⟩ := r
    simp at e; subst e
    exact ⟨u, rfl, r1⟩
  | d :: ds, _, i + 1, x, r, e => by
    obtain ⟨u, us, rfl, _, r2⟩ := r
    obtain ⟨v, h1, h2⟩ := rdVs_get (i := i) (d := x) r2 (by simpa using e)
    exact ⟨v, by simpa using h1, h2⟩
theorem rdVs_len {h : Heap} : ∀ {ds : List D} {us : List Value}, RdVs h ds us → us.length = ds.length
  | [], _, r => by rw [show _ = [] from r]; rfl
  | d :: ds, _, r => by
    obtain ⟨u, us, rfl, _, r2⟩ := r
    rw [List.length_cons, List.length_cons, rdVs_len r2]
theorem okSs_get : ∀ {ds : List D} {i : Nat} {d : D}, D.okSs ds = true → ds[i]? = some d → d.okS = true
  | [], _, _, _, e => by simp at e
  | d :: ds, 0, _, o, e => by
    simp at e; subst e
    exact (okSs_cons o).1
  | d :: ds, i + 1, x, o, e => okSs_get (i := i) (okSs_cons o).2 (by simpa using e)
theorem deps_get : ∀ {ds : List D} {i : Nat} {d : D}, ds[i]? = some d → d.dep ≤ D.deps ds
  | [], _, _, e => by simp at e
  | d :: ds, 0, _, e => by
    simp at e; subst e
    simp only [D.deps]; exact Nat.le_max_left _ _
  | d :: ds, i + 1, x, e => by
    simp only [D.deps]
    exact Nat.le_trans (deps_get (i := i) (by simpa using e)) (Nat.le_max_right _ _)
def eAt (xs ys : List D) (j : Nat) : Bool := decide (xs.getD j .non = ys.getD j .non)
def rAt (xs ys : List D) (j : Nat) : Bool := (dlt (xs.getD j .non) (ys.getD j .non)).getD false
theorem firstLt_shift (e r : Nat → Bool) (fin : Bool) : ∀ l : List Nat, firstLt e r fin (l.map (· + 1)) = firstLt (fun j => e (j + 1)) (fun j => r (j + 1)) fin l
  | [] => rfl
  | j :: t => by
    rw [List.map_cons]
    cases h : e (j + 1) with
    | true => rw [firstLt_yes h, firstLt_yes (e := fun j => e (j + 1)) h, firstLt_shift]
    | false => rw [firstLt_no h, firstLt_no (e := fun j => e (j + 1)) h]
theorem dlts_first : ∀ (xs ys : List D) (k : Bool), dlts xs ys = some k → firstLt (eAt xs ys) (rAt xs ys) (decide (xs.length < ys.length)) (List.range (min xs.length ys.length)) = k
  | [], [], k, h => by cases h; rfl
  | [], _ :: _, k, h => by cases h; simp [firstLt]
  | _ :: _, [], k, h => by cases h; simp [firstLt]
  | x :: xs, y :: ys, k, h => by
    have em : min (x :: xs).length (y :: ys).length = min xs.length ys.length + 1 := by simp
    rw [em, List.range_succ_eq_map]
    unfold dlts at h
    by_cases e : x = y
    · rw [if_pos e] at h
      have : eAt (x :: xs) (y :: ys) 0 = true := by simp [eAt, e]
      rw [firstLt_yes this, show Nat.succ = (· + 1) from rfl, firstLt_shift, ← dlts_first xs ys k h]
      simp [eAt, rAt]
      rfl
    · rw [if_neg e] at h
      have : eAt (x :: xs) (y :: ys) 0 = false := by simp [eAt, e]
      rw [firstLt_no this]
      simp [rAt, h]
theorem dlts_at : ∀ (xs ys : List D) (k : Bool) (j : Nat), dlts xs ys = some k → j < xs.length → j < ys.length → (∀ i, i < j → eAt xs ys i = true) → eAt xs ys j = false → dlt (xs.getD j .non) (ys.getD j .non) = some (rAt xs ys j)
  | [], _, _, _, _, h, _, _, _ => absurd h (Nat.not_lt_zero _)
  | _ :: _, [], _, _, _, _, h, _, _ => absurd h (Nat.not_lt_zero _)
  | x :: xs, y :: ys, k, 0, h, _, _, _, he => by
    unfold dlts at h
    have : ¬ x = y := by simpa [eAt] using he
    rw [if_neg this] at h
    simp [rAt, h]
  | x :: xs, y :: ys, k, j + 1, h, h1, h2, hp, he => by
    have h0 := hp 0 (Nat.succ_pos _)
    have : x = y := by simpa [eAt] using h0
    unfold dlts at h
    rw [if_pos this] at h
    have := dlts_at xs ys k j h (by simpa using h1) (by simpa using h2) (fun i hi => by simpa [eAt] using hp (i + 1) (by omega)) (by simpa [eAt] using he)
    simpa [rAt] using this
theorem min_le2 {a b c d u : Nat} (h : u + min a b < cLine) (h1 : c ≤ a) (h2 : d ≤ b) : u + min c d < cLine := Nat.lt_of_le_of_lt (Nat.add_le_add_left (by omega) _) h
theorem get_of {vs : Array Value} {j : Nat} (hj : j < vs.size) {u : Value} (h : vs.toList[j]? = some u) : vs[j] = u := by
  rw [Array.getElem?_toList, Array.getElem?_eq_getElem hj] at h
  exact Option.some.inj h
theorem getD_of {ds : List D} {j : Nat} (hj : j < ds.length) : ds[j]? = some (ds.getD j .non) := by
  rw [List.getD_eq_getElem?_getD, List.getElem?_eq_getElem hj]; rfl
/-- x < y -/
theorem rc_d : ∀ (N : Nat) (x y : D) (k : Bool) (A : Around) (s : Shared) (u v : Value), x.dep ≤ N → x.okS = true → y.okS = true → RdV s.heap x u → RdV s.heap y v → dlt x y = some k → A.units + min x.dep y.dep < cLine → RcLt A s u v k := by
  intro N
  induction N with
  | zero =>
    intro x y k A s u v hN ox oy rx ry h hu
    cases x with
    | int i =>
      cases y with
      | int j =>
        obtain ⟨t, rfl⟩ := rx
        obtain ⟨t', rfl⟩ := ry
        cases h
        intro prog w E Q hq
        exact P.lt_int hq
      | _ => cases h
    | str i =>
      cases y with
      | str j =>
        obtain ⟨t, rfl⟩ := rx
        obtain ⟨t', rfl⟩ := ry
        cases h
        intro prog w E Q hq
        exact P.lt_str hq
      | _ => cases h
    | tup xs => simp [D.dep] at hN
    | _ => cases h
  | succ N ih =>
    intro x y k A s u v hN ox oy rx ry h hu
    cases x with
    | int i =>
      cases y with
      | int j =>
        obtain ⟨t, rfl⟩ := rx
        obtain ⟨t', rfl⟩ := ry
        cases h
        intro prog w E Q hq
        exact P.lt_int hq
      | _ => cases h
    | str i =>
      cases y with
      | str j =>
        obtain ⟨t, rfl⟩ := rx
        obtain ⟨t', rfl⟩ := ry
        cases h
        intro prog w E Q hq
        exact P.lt_str hq
      | _ => cases h
    | tup xs =>
      cases y with
      | tup ys =>
        obtain ⟨a, o, vs, n, rfl, h1, h2, h3, h4⟩ := rx
        obtain ⟨a', o', vs', n', rfl, k1, k2, k3, k4⟩ := ry
        have hd : dlts xs ys = some k := h
        have n1 : vs.size = xs.length := by simpa using rdVs_len h4
        have n2 : vs'.size = ys.length := by simpa using rdVs_len k4
        rw [← dlts_first xs ys k hd, ← n1, ← n2]
        have item : ∀ j, j < xs.length → j < ys.length → ∃ p q, vs.toList[j]? = some p ∧ vs'.toList[j]? = some q ∧ RdV s.heap (xs.getD j .non) p ∧ RdV s.heap (ys.getD j .non) q ∧ (xs.getD j .non).okS = true ∧ (ys.getD j .non).okS = true ∧ (xs.getD j .non).dep ≤ D.deps xs ∧ (ys.getD j .non).dep ≤ D.deps ys := fun j j1 j2 => by
          obtain ⟨p, e1, r1⟩ := rdVs_get h4 (getD_of j1)
          obtain ⟨q, e2, r2⟩ := rdVs_get k4 (getD_of j2)
          exact ⟨p, q, e1, e2, r1, r2, okSs_get ox (getD_of j1), okSs_get oy (getD_of j2), deps_get (getD_of j1), deps_get (getD_of j2)⟩
        have hu2 : A.in1.units + min (D.deps xs) (D.deps ys) < cLine := room_in hu
        refine rc_tup ⟨_, h1, h2, _, h3⟩ ⟨_, k1, k2, _, k3⟩ (room_here hu) (fun j j1 j2 => ?_) fun j j1 j2 hpre hj => ?_
        · obtain ⟨p, q, e1, e2, r1, r2, o1, o2, d1, d2⟩ := item j (n1 ▸ j1) (n2 ▸ j2)
          rw [get_of j1 e1, get_of j2 e2]
          exact eqAt_d o1 o2 r1 r2 (min_le2 hu2 d1 d2)
        · obtain ⟨p, q, e1, e2, r1, r2, o1, o2, d1, d2⟩ := item j (n1 ▸ j1) (n2 ▸ j2)
          rw [get_of j1 e1, get_of j2 e2]
          have hN2 : D.deps xs ≤ N := by simp only [D.dep] at hN; omega
          exact ih _ _ _ _ s p q (Nat.le_trans d1 hN2) o1 o2 r1 r2 (dlts_at xs ys k j hd (n1 ▸ j1) (n2 ▸ j2) hpre hj) (min_le2 hu2 d1 d2)
      | _ => cases h
    | _ => cases h
end DL
/-! The D layer: sorted of data, the rule. -/
namespace DL
open PySem PySem.Spec L2 PyProof.Rows PySem.SeqAt PySem.W SrtO

/-! ### the sorted list -/
def insD (x : D) : List D → List D
  | [] => [x]
  | y :: ys => if tlt y x = true then y :: insD x ys else x :: y :: ys
def isort (xs : List D) : List D := xs.foldr insD []
theorem insD_perm (x : D) : ∀ ys : List D, (insD x ys).Perm (x :: ys)
  | [] => List.Perm.refl _
  | y :: ys => by
    unfold insD
    split
    · exact ((insD_perm x ys).cons y).trans (List.Perm.swap x y ys)
    · exact List.Perm.refl _
theorem isort_perm : ∀ xs : List D, (isort xs).Perm xs
  | [] => List.Perm.refl _
  | x :: xs => (insD_perm x (isort xs)).trans ((isort_perm xs).cons x)
abbrev UpD (xs : List D) : Prop := xs.Pairwise fun x y => tlt y x = false
theorem insD_up {x : D} : ∀ {ys : List D}, UpD ys → UpD (insD x ys)
  | [], _ => List.pairwise_singleton _ _
  | y :: ys, h => by
    obtain ⟨h1, h2⟩ := List.pairwise_cons.mp h
    unfold insD
    split
    · rename_i hy
      refine List.pairwise_cons.mpr ⟨fun z hz => ?_, insD_up h2⟩
      rcases List.mem_cons.mp ((insD_perm x ys).mem_iff.mp hz) with e | hz
      · rw [e]; exact tlt_asym hy
      · exact h1 z hz
    · rename_i hy
      have hy' : tlt y x = false := by simpa using hy
      refine List.pairwise_cons.mpr ⟨fun z hz => ?_, h⟩
      rcases List.mem_cons.mp hz with e | hz
      · rw [e]; exact hy'
      · exact tlt_neg hy' (h1 z hz)
theorem isort_up : ∀ xs : List D, UpD (isort xs)
  | [] => List.Pairwise.nil
  | x :: xs => insD_up (isort_up xs)
theorem up_uniq : ∀ {l m : List D}, UpD l → UpD m → l.Perm m → l = m
  | [], m, _, _, h => h.nil_eq
  | x :: l, [], _, _, h => absurd h.length_eq (by simp)
  | x :: l, y :: m, hl, hm, h => by
    obtain ⟨a1, a2⟩ := List.pairwise_cons.mp hl
    obtain ⟨b1, b2⟩ := List.pairwise_cons.mp hm
    have h1 : tlt x y = false := by
      rcases List.mem_cons.mp (h.mem_iff.mp List.mem_cons_self) with e | e
      · rw [e]; exact tlt_irr _
      · exact b1 x e
    have h2 : tlt y x = false := by
      rcases List.mem_cons.mp (h.mem_iff.mpr List.mem_cons_self) with e | e
      · rw [e]; exact tlt_irr _
      · exact a1 y e
    have e := tlt_conn h1 h2
    subst e
    rw [up_uniq a2 b2 h.cons_inv]
mutual
theorem dlt_self : ∀ (x : D) (k : Bool), dlt x x = some k → k = false
  | .int i, k, h => by simpa [dlt] using h.symm
  | .str i, k, h => by
    simp only [dlt, Option.some.injEq] at h
    rw [← h]
    exact decide_eq_false (List.lt_irrefl _)
  | .tup xs, k, h => dlts_self xs k h
  | .non, _, h => by cases h
  | .bl _, _, h => by cases h
  | .ref _, _, h => by cases h
theorem dlts_self : ∀ (xs : List D) (k : Bool), dlts xs xs = some k → k = false
  | [], k, h => by cases h; rfl
  | x :: xs, k, h => by
    unfold dlts at h
    rw [if_pos rfl] at h
    exact dlts_self xs k h
end
theorem dlt_tlt' {x y : D} {k : Bool} (h : dlt x y = some k) : tlt x y = k := by
  by_cases e : x = y
  · subst e
    rw [dlt_self x k h, tlt_irr]
  · exact dlt_tlt e h

/-! ### what a value is as data -/
mutual
theorem rd_uniq {h : Heap} : ∀ (d e : D) (u : Value), RdV h d u → RdV h e u → d = e
  | .non, e, u, r, r' => by
    obtain rfl := r
    cases e with
    | int j => obtain ⟨t', z⟩ := r'; cases z
    | str j => obtain ⟨t', z⟩ := r'; cases z
    | tup xs => obtain ⟨_, _, _, _, z, _⟩ := r'; cases z
    | non => rfl
    | _ => exact r'.elim
  | .int i, e, u, r, r' => by
    obtain ⟨t, rfl⟩ := r
    cases e with
    | int j => obtain ⟨t', z⟩ := r'; cases z; rfl
    | str j => obtain ⟨t', z⟩ := r'; cases z
    | tup xs => obtain ⟨_, _, _, _, z, _⟩ := r'; cases z
    | non => cases r'
    | _ => exact r'.elim
  | .str i, e, u, r, r' => by
    obtain ⟨t, rfl⟩ := r
    cases e with
    | int j => obtain ⟨t', z⟩ := r'; cases z
    | str j => obtain ⟨t', z⟩ := r'; cases z; rfl
    | tup xs => obtain ⟨_, _, _, _, z, _⟩ := r'; cases z
    | non => cases r'
    | _ => exact r'.elim
  | .tup xs, e, u, r, r' => by
    obtain ⟨a, o, vs, n, rfl, h1, h2, h3, h4⟩ := r
    cases e with
    | int j => obtain ⟨t', z⟩ := r'; cases z
    | str j => obtain ⟨t', z⟩ := r'; cases z
    | tup ys =>
      obtain ⟨a', o', vs', n', z, k1, k2, k3, k4⟩ := r'
      cases z
      rw [h1] at k1
      cases k1
      rw [h3] at k3
      cases k3
      rw [rds_uniq xs ys _ h4 k4]
    | non => cases r'
    | _ => exact r'.elim
  | .bl _, _, _, r, _ => r.elim
  | .ref _, _, _, r, _ => r.elim
theorem rds_uniq {h : Heap} : ∀ (ds es : List D) (us : List Value), RdVs h ds us → RdVs h es us → ds = es
  | [], es, us, r, r' => by
    obtain rfl := r
    cases es with
    | nil => rfl
    | cons e es => obtain ⟨_, _, z, _⟩ := r'; cases z
  | d :: ds, es, us, r, r' => by
    obtain ⟨u, us, rfl, r1, r2⟩ := r
    cases es with
    | nil => cases r'
    | cons e es =>
      obtain ⟨u', us', z, k1, k2⟩ := r'
      cases z
      rw [rd_uniq d e _ r1 k1, rds_uniq ds es _ r2 k2]
end
mutual
theorem rd_keep {h h' : Heap} (k : ∀ b o, h.get? b = some o → h'.get? b = some o) : ∀ (d : D) (u : Value), RdV h d u → RdV h' d u
  | .non, _, r => r
  | .int _, _, r => r
  | .str _, _, r => r
  | .tup xs, _, r => by
    obtain ⟨a, o, vs, n, rfl, h1, h2, h3, h4⟩ := r
    exact ⟨a, o, vs, n, rfl, k _ _ h1, h2, h3, rds_keep k xs _ h4⟩
  | .bl _, _, r => r
  | .ref _, _, r => r
theorem rds_keep {h h' : Heap} (k : ∀ b o, h.get? b = some o → h'.get? b = some o) : ∀ (ds : List D) (us : List Value), RdVs h ds us → RdVs h' ds us
  | [], _, r => r
  | d :: ds, _, r => by
    obtain ⟨u, us, rfl, r1, r2⟩ := r
    exact ⟨u, us, rfl, rd_keep k d u r1, rds_keep k ds us r2⟩
end
open Classical in
noncomputable def rdD (h : Heap) (u : Value) : D := if e : ∃ d, RdV h d u then Classical.choose e else .non
theorem rdD_eq {h : Heap} {d : D} {u : Value} (r : RdV h d u) : rdD h u = d := by
  have e : ∃ d, RdV h d u := ⟨d, r⟩
  unfold rdD
  rw [dif_pos e]
  exact rd_uniq _ _ u (Classical.choose_spec e) r
section
variable {X : Cx} {pins : List (Addr × Obj)} {σ : L2.St} {H : Hp} {s : Shared} {ι : Nat → Addr} {n : Nat}
mutual
theorem rep_rd (I : Inv X pins σ H s) : ∀ (d : D) (v : V) (u : Value), d.okS = true → Rep X.K ι n H d v → RelV v u → RdV s.heap d u
  | .non, v, u, _, r, ru => by obtain rfl := r; exact ru
  | .int i, v, u, _, r, ru => by obtain rfl := r; exact ru
  | .str x, v, u, _, r, ru => by obtain rfl := r; exact ru
  | .tup ds, v, u, o, r, ru => by
    obtain ⟨a, vs, rfl, h1, h2⟩ := r
    obtain rfl : u = Value.ref a := ru
    obtain ⟨its, rv, p, _⟩ := I.tuple h1.sq
    obtain ⟨ob, ho, hc, k, hd⟩ := (show s.heap.IsTuple a its.toArray from p)
    exact ⟨a, ob, its.toArray, k, rfl, ho, hc, hd, by simpa using reps_rd I ds vs its o h2 rv⟩
  | .bl _, _, _, o, _, _ => by cases o
  | .ref _, _, _, o, _, _ => by cases o
theorem reps_rd (I : Inv X pins σ H s) : ∀ (ds : List D) (vs : List V) (us : List Value), D.okSs ds = true → Reps X.K ι n H ds vs → Vals vs us → RdVs s.heap ds us
  | [], vs, us, _, r, rv => by
    obtain rfl : vs = [] := r
    cases rv
    exact rfl
  | d :: ds, vs, us, o, r, rv => by
    obtain ⟨v, w, rfl, r1, r2⟩ := r
    obtain ⟨o1, o2⟩ := okSs_cons o
    cases rv with
    | cons a b => exact ⟨_, _, rfl, rep_rd I d v _ o1 r1 a, reps_rd I ds w _ o2 r2 b⟩
end
end

/-! ### kinds of keys -/
section
variable {prog : Program} {w : World} {A : Around} {E : Value → Shared → Prop} {s : Shared}
theorem wp_mapM {α β : Type} {M : Model} {f : α → Sem β} : ∀ (vs : List α) (rs : List β) {Q : List β → Shared → Prop}, Paired (fun v r => ∀ Q' : β → Shared → Prop, Q' r s → wpAny M A (f v) Q' E s) vs rs → Q rs s → wpAny M A (vs.mapM f) Q E s
  | [], _, _, h, q => by cases h; rw [List.mapM_nil]; exact wpAny_pure q
  | v :: vs, _, Q, h, q => by
    cases h with
    | @cons _ r _ rs h t =>
      rw [List.mapM_cons]
      exact wpAny_bind (h _ (wpAny_bind (wp_mapM vs rs (Q := fun bs s' => wpAny M A (pure (r :: bs)) Q E s') t (wpAny_pure q))))
def D.isT : D → Bool
  | .tup _ => true
  | _ => false
def tyS : D → String
  | .int _ => "int"
  | .str _ => "str"
  | .tup _ => "tuple"
  | _ => "NoneType"
theorem ty_rd {d : D} {u : Value} (r : RdV s.heap d u) {M : Model} {Q : Value → Shared → Prop} (q : Q (.type (tyS d)) s) : wpAny M A (typeOf u) Q E s := by
  cases d with
  | non => obtain rfl := r; exact wpAny_typeOf rfl q
  | int i => obtain ⟨t, rfl⟩ := r; exact wpAny_typeOf (typeIs_int s i t) q
  | str i => obtain ⟨t, rfl⟩ := r; exact wpAny_typeOf (typeIs_str s i t) q
  | tup xs => obtain ⟨a, o, vs, n, rfl, h1, h2, _⟩ := r; exact wpAny_typeOf ⟨o, h1, h2⟩ q
  | bl _ => exact r.elim
  | ref _ => exact r.elim
/-- the first item of a tuple -/
def FstR (h : Heap) (d : D) (u : Value) (f : Option Value) : Prop := match d with
  | .tup (y :: _) => ∃ a o vs n u0 rest, u = .ref a ∧ h.get? a = some o ∧ o.data = .seq vs n ∧ vs.toList = u0 :: rest ∧ f = some u0 ∧ RdV h y u0
  | _ => f = none
inductive Fsts (h : Heap) : List D → List Value → List (Option Value) → Prop where
  | nil : Fsts h [] [] []
  | cons {d ds u us f fs} : RdV h d u → FstR h d u f → Fsts h ds us fs → Fsts h (d :: ds) (u :: us) (f :: fs)
theorem fst_ex {h : Heap} : ∀ {ds : List D} {us : List Value}, RdVs h ds us → ∃ fs : List (Option Value), Fsts h ds us fs
  | [], _, r => by obtain rfl := r; exact ⟨[], .nil⟩
  | d :: ds, _, r => by
    obtain ⟨u, us, rfl, r1, r2⟩ := r
    obtain ⟨fs, h⟩ := fst_ex r2
    cases d with
    | tup xs =>
      cases xs with
      | nil => exact ⟨none :: fs, .cons r1 rfl h⟩
      | cons y ys =>
        obtain ⟨a, o, vs, n, rfl, h1, h2, h3, u0, us0, e0, r0, z⟩ := id r1
        exact ⟨some u0 :: fs, .cons r1 ⟨a, o, vs, n, u0, us0, rfl, h1, h3, e0, rfl, r0⟩ h⟩
    | _ => exact ⟨none :: fs, .cons r1 rfl h⟩
theorem ty_ne {d : D} (h : d.isT = false) : (Value.type (tyS d) != Value.type "tuple") = true := by
  cases d <;> first | (simp [tyS]; done) | cases h
theorem ty_no (xs : List D) : ¬ (Value.type (tyS (.tup xs)) != Value.type "tuple") = true := by simp [tyS]
theorem fst_wp {M : Model} {d : D} {u : Value} {f : Option Value} (r : RdV s.heap d u) (hf : FstR s.heap d u f) {Q : Option Value → Shared → Prop} (q : Q f s) : wpAny M A (firstOfTuple' u) Q E s := by
  rw [kas_first_eq]
  refine wpAny_bind (ty_rd r ?_)
  cases d with
  | tup xs =>
    obtain ⟨a, o, vs, n, rfl, h1, h2, h3, h4⟩ := r
    rw [if_neg (ty_no xs)]
    refine wpAny_bind (listItems_at h1 h3 (wpAny_pure ?_))
    cases xs with
    | nil =>
      obtain rfl : f = none := hf
      have : vs.toList = [] := h4
      have e : vs[0]? = none := by rw [← Array.getElem?_toList, this]; rfl
      rw [e]; exact q
    | cons y ys =>
      obtain ⟨a', o', vs', n', u0, rest, e1, e2, e3, e4, rfl, r0⟩ := hf
      cases e1
      rw [h1] at e2
      cases e2
      rw [h3] at e3
      cases e3
      have e : vs[0]? = some u0 := by rw [← Array.getElem?_toList, e4]; rfl
      rw [e]; exact q
  | int i => obtain rfl : f = none := hf; rw [if_pos (ty_ne rfl)]; exact wpAny_pure q
  | str i => obtain rfl : f = none := hf; rw [if_pos (ty_ne rfl)]; exact wpAny_pure q
  | non => obtain rfl : f = none := hf; rw [if_pos (ty_ne rfl)]; exact wpAny_pure q
  | bl _ => exact r.elim
  | ref _ => exact r.elim
theorem fsts_paired {M : Model} {ds : List D} {us : List Value} {fs : List (Option Value)} (h : Fsts s.heap ds us fs) : Paired (fun (v : Value) r => ∀ Q' : Option Value → Shared → Prop, Q' r s → wpAny M A (firstOfTuple' v) Q' E s) us fs := by
  induction h with
  | nil => exact .nil
  | cons r f _ ih => exact .cons (fun Q' q => fst_wp r f q) ih
def fstT : D → Bool
  | .tup (y :: _) => y.isT
  | _ => false
def isNe : D → Bool
  | .tup (_ :: _) => true
  | _ => false
theorem fsts_all {h : Heap} {ds : List D} {us : List Value} {fs : List (Option Value)} (k : Fsts h ds us fs) : fs.all (fun x => x.isSome) = ds.all isNe := by
  induction k with
  | nil => rfl
  | @cons d ds u us f fs r hf _ ih =>
    rw [List.all_cons, List.all_cons, ih]
    congr 1
    cases d with
    | tup xs =>
      cases xs with
      | nil => obtain rfl : f = none := hf; rfl
      | cons y ys => obtain ⟨_, _, _, _, u0, _, _, _, _, _, rfl, _⟩ := hf; rfl
    | _ => obtain rfl : f = none := hf; rfl
def fstTy : D → String
  | .tup (y :: _) => tyS y
  | _ => ""
/-- the types of the firsts -/
theorem fsts_ty {M : Model} {ds : List D} {us : List Value} {fs : List (Option Value)} (k : Fsts s.heap ds us fs) (h : ds.all isNe = true) :
    ∃ ts : List String, Paired (fun (v : Value) r => ∀ Q' : Value → Shared → Prop, Q' r s → wpAny M A (typeOf v) Q' E s) (fs.filterMap id) (ts.map Value.type) ∧ ts = ds.map fstTy := by
  induction k with
  | nil => exact ⟨[], .nil, rfl⟩
  | @cons d ds u us f fs r hf _ ih =>
    rw [List.all_cons, Bool.and_eq_true] at h
    obtain ⟨ts, h1, h2⟩ := ih h.2
    cases d with
    | tup xs =>
      cases xs with
      | nil => cases h.1
      | cons y ys =>
        obtain ⟨_, _, _, _, u0, _, _, _, _, _, rfl, r0⟩ := hf
        exact ⟨tyS y :: ts, .cons (fun Q' q => ty_rd r0 q) h1, by rw [h2]; rfl⟩
    | _ => cases h.1
theorem tys_paired {M : Model} : ∀ {ds : List D} {us : List Value}, RdVs s.heap ds us → Paired (fun (v : Value) r => ∀ Q' : Value → Shared → Prop, Q' r s → wpAny M A (typeOf v) Q' E s) us (ds.map fun d => Value.type (tyS d))
  | [], _, r => by obtain rfl := r; exact .nil
  | d :: ds, _, r => by
    obtain ⟨u, us, rfl, r1, r2⟩ := r
    exact .cons (fun Q' q => ty_rd r1 q) (tys_paired r2)
inductive KindOk (xs : List D) : SortKind → Prop where
  | gen : KindOk xs general'
  | one : KindOk xs oneType'
  | tup {b : Bool} : (xs.all isNe = true) → (b = true → ∀ d ∈ xs, fstT d = false) → KindOk xs (tuples' b)
theorem kind_ok {M : Model} {xs : List D} {vs : List Value} (r : RdVs s.heap xs vs) (h2 : 2 ≤ xs.length) : ∃ κ, KindOk xs κ ∧ ∀ Q : SortKind → Shared → Prop, Q κ s → wpAny M A (keyKind' vs.toArray) Q E s := by
  obtain ⟨fs, hf⟩ := fst_ex r
  have go : ∀ {R : SortKind → Shared → Prop}, wpAny M A (if fs.toArray.all (fun x => x.isSome) = true then (do
        rule "list.sort.keys-are-tuples"
        return tuples' ((← oneTypeOnly' (fs.toArray.filterMap id)).any (· != .type "tuple")))
      else (do
        if ((fs.toArray)[0]?.bind id).isSome = true then return general'
        return if (← oneTypeOnly' vs.toArray).isSome then oneType' else general')) R E s → wpAny M A (keyKind' vs.toArray) R E s := fun {R} q => by
    rw [kat_kind_eq, List.mapM_toArray, map_eq_pure_bind]
    refine wpAny_bind (wpAny_bind (wp_mapM vs fs (fsts_paired hf) (wpAny_pure ?_)))
    by_cases hc : fs.toArray.all (fun x => x.isSome) = true
    · rw [if_pos hc] at q ⊢; exact q
    · rw [if_neg hc] at q ⊢; exact q
  by_cases hall : xs.all isNe = true
  · have hc : fs.toArray.all (fun x => x.isSome) = true := by rw [List.all_toArray, fsts_all hf]; exact hall
    obtain ⟨ts, t1, t2⟩ := fsts_ty (M := M) (A := A) (E := E) hf hall
    cases ts with
    | nil =>
      have : xs.map fstTy = [] := t2.symm
      rw [List.map_eq_nil_iff] at this
      rw [this] at h2
      simp at h2
    | cons t0 ts =>
      refine ⟨tuples' ((if (((t0 :: ts).map Value.type).toArray.all fun x => x == Value.type t0) = true then some (Value.type t0) else none).any (· != .type "tuple")), .tup hall fun hb d hd => ?_, fun Q q => go ?_⟩
      · by_cases hs : (((t0 :: ts).map Value.type).toArray.all fun x => x == Value.type t0) = true
        · rw [if_pos hs] at hb
          have h0 : (Value.type t0 != Value.type "tuple") = true := hb
          have hm : fstTy d ∈ t0 :: ts := by rw [t2]; exact List.mem_map.mpr ⟨d, hd, rfl⟩
          rw [List.all_toArray, List.all_eq_true] at hs
          have he := hs _ (List.mem_map.mpr ⟨_, hm, rfl⟩)
          cases d with
          | tup ys =>
            cases ys with
            | nil => rfl
            | cons y ys =>
              cases y with
              | tup zs =>
                have e' : Value.type "tuple" = Value.type t0 := by simpa [fstTy, tyS] using he
                rw [← e'] at h0
                simp at h0
              | _ => rfl
          | _ => rfl
        · rw [if_neg hs] at hb
          cases hb
      · rw [if_pos hc]
        refine wpAny_bind (wpAny_rule ?_)
        rw [oneTypeOnly'_eq, List.filterMap_toArray, List.mapM_toArray, map_eq_pure_bind]
        refine wpAny_bind (wpAny_bind (wpAny_bind (wp_mapM _ _ t1 (wpAny_pure ?_))))
        have e0 : ((t0 :: ts).map Value.type).toArray[0]? = some (Value.type t0) := by simp
        rw [e0]
        exact wpAny_pure (wpAny_pure q)
  · have hc : ¬ fs.toArray.all (fun x => x.isSome) = true := by rw [List.all_toArray, fsts_all hf]; exact hall
    by_cases h0 : ((fs.toArray)[0]?.bind id).isSome = true
    · exact ⟨_, .gen, fun Q q => go (by rw [if_neg hc, if_pos h0]; exact wpAny_pure q)⟩
    · cases xs with
      | nil => simp at h2
      | cons d ds =>
        refine ⟨if (if (((d :: ds).map fun d => Value.type (tyS d)).toArray.all fun x => x == Value.type (tyS d)) = true then some (Value.type (tyS d)) else none).isSome = true then oneType' else general', ?_, fun Q q => go ?_⟩
        · split
          · exact .one
          · exact .gen
        · rw [if_neg hc, if_neg h0, oneTypeOnly'_eq, List.mapM_toArray, map_eq_pure_bind]
          refine wpAny_bind (wpAny_bind (wpAny_bind (wp_mapM _ _ (tys_paired r) (wpAny_pure ?_))))
          have e0 : ((d :: ds).map fun d => Value.type (tyS d)).toArray[0]? = some (Value.type (tyS d)) := by simp
          rw [e0]
          exact wpAny_pure (wpAny_pure q)
end
end DL
/-! The D layer: sorted of data, the rule (end). -/
namespace DL
open PySem PySem.Spec L2 PyProof.Rows PySem.SeqAt PySem.W SrtO
section
variable {prog : Program} {w : World} {A : Around} {E : Value → Shared → Prop} {s : Shared}
theorem one_false {x y : D} {k : Bool} {u v : Value} {Q : Bool → Shared → Prop} (ox : x.okS = true) (oy : y.okS = true) (rx : RdV s.heap x u) (ry : RdV s.heap y v) (h : dlt x y = some k) (hu : A.units + min x.dep y.dep < cLine) (q : Q k s) :
    wpAny (model prog w) A (oneLt' false u v) Q E s := kat_one u v (by
  show wpAny _ _ (richCompare .Lt u v) _ _ _
  exact rc_d x.dep x y k A s u v (Nat.le_refl _) ox oy rx ry h hu prog w E _ q)
theorem one_true {x y : D} {k : Bool} {u v : Value} {Q : Bool → Shared → Prop} (hT : x.isT = false) (rx : RdV s.heap x u) (ry : RdV s.heap y v) (h : dlt x y = some k) (q : Q k s) :
    wpAny (model prog w) A (oneLt' true u v) Q E s := by
  cases x with
  | int i =>
    cases y with
    | int j =>
      obtain ⟨t, rfl⟩ := rx
      obtain ⟨t', rfl⟩ := ry
      cases h
      exact oneLt_int q
    | _ => cases h
  | str i =>
    cases y with
    | str j =>
      obtain ⟨t, rfl⟩ := rx
      obtain ⟨t', rfl⟩ := ry
      cases h
      exact oneLt_str q
    | _ => cases h
  | tup xs => cases hT
  | _ => cases h
theorem one_tup {xs ys : List D} {k : Bool} {u v : Value} {Q : Bool → Shared → Prop} (ox : D.okSs xs = true) (oy : D.okSs ys = true) (rx : RdV s.heap (.tup xs) u) (ry : RdV s.heap (.tup ys) v) (h : dlts xs ys = some k) (hu : A.units + min (D.dep (.tup xs)) (D.dep (.tup ys)) < cLine) (q : Q k s) :
    wpAny (model prog w) A (oneLt' true u v) Q E s := by
  obtain ⟨a, o, vs, n, rfl, h1, h2, h3, h4⟩ := rx
  obtain ⟨a', o', vs', n', rfl, k1, k2, k3, k4⟩ := ry
  have n1 : vs.size = xs.length := by simpa using rdVs_len h4
  have n2 : vs'.size = ys.length := by simpa using rdVs_len k4
  have item : ∀ j, j < xs.length → j < ys.length → ∃ p q, vs.toList[j]? = some p ∧ vs'.toList[j]? = some q ∧ RdV s.heap (xs.getD j .non) p ∧ RdV s.heap (ys.getD j .non) q ∧ (xs.getD j .non).okS = true ∧ (ys.getD j .non).okS = true ∧ (xs.getD j .non).dep ≤ D.deps xs ∧ (ys.getD j .non).dep ≤ D.deps ys := fun j j1 j2 => by
    obtain ⟨p, e1, r1⟩ := rdVs_get h4 (getD_of j1)
    obtain ⟨q, e2, r2⟩ := rdVs_get k4 (getD_of j2)
    exact ⟨p, q, e1, e2, r1, r2, okSs_get ox (getD_of j1), okSs_get oy (getD_of j2), deps_get (getD_of j1), deps_get (getD_of j2)⟩
  have hu2 : A.in1.units + min (D.deps xs) (D.deps ys) < cLine := room_in hu
  rw [oneLt'_eq]
  simp only [if_true]
  refine wpAny_bind (wpAny_cRoomFor (room_here hu) ?_)
  refine wpAny_bind (wpAny_callSpecialIfBound?_slot (T := "tuple") ⟨_, h1, h2⟩ F.slot_tuple_lt (call_tup_lt (e := eAt xs ys) (r := rAt xs ys) ⟨_, h1, h2, _, h3⟩ ⟨_, k1, k2, _, k3⟩ (fun j j1 j2 => ?_) (fun j j1 j2 hpre hj => ?_) ?_))
  · obtain ⟨p, q, e1, e2, r1, r2, o1, o2, d1, d2⟩ := item j (n1 ▸ j1) (n2 ▸ j2)
    rw [get_of j1 e1, get_of j2 e2]
    exact eqAt_d o1 o2 r1 r2 (min_le2 hu2 d1 d2)
  · obtain ⟨p, q, e1, e2, r1, r2, o1, o2, d1, d2⟩ := item j (n1 ▸ j1) (n2 ▸ j2)
    rw [get_of j1 e1, get_of j2 e2]
    exact rc_d _ _ _ _ _ s p q (Nat.le_refl _) o1 o2 r1 r2 (dlts_at xs ys k j h (n1 ▸ j1) (n2 ▸ j2) hpre hj) (min_le2 hu2 d1 d2)
  · rw [n1, n2, dlts_first xs ys k h]
    exact wpAny_truthy_bool q
theorem lex_d {b fin : Bool} {Q : Bool → Shared → Prop} : ∀ (xs ys : List D) (k : Bool) (i : Nat) (vs ws : List Value), D.okSs xs = true → D.okSs ys = true → RdVs s.heap xs vs → RdVs s.heap ys ws → dlts xs ys = some k →
    A.units + min (D.deps xs) (D.deps ys) < cLine → (b = true → i = 0 → ∀ x r, xs = x :: r → x.isT = false) → fin = decide (xs.length < ys.length) → Q k s → KatLex prog w A b fin Q (vs.zip ws) i s
  | [], [], k, i, _, _, _, _, ra, rb, h, _, _, hf, hq => by
    obtain rfl := ra
    obtain rfl := rb
    cases h
    rw [hf]
    exact kat_nil hq
  | [], y :: ys, k, i, _, _, _, _, ra, rb, h, _, _, hf, hq => by
    obtain rfl := ra
    cases h
    rw [List.zip_nil_left, hf]
    exact kat_nil (by simpa using hq)
  | x :: xs, [], k, i, _, _, _, _, ra, rb, h, _, _, hf, hq => by
    obtain rfl := rb
    cases h
    rw [List.zip_nil_right, hf]
    exact kat_nil (by simpa using hq)
  | x :: xs, y :: ys, k, i, _, _, ox, oy, ra, rb, h, hu, hb, hf, hq => by
    obtain ⟨u, us, rfl, r1, r2⟩ := ra
    obtain ⟨v, vs, rfl, k1, k2⟩ := rb
    obtain ⟨o1, o2⟩ := okSs_cons ox
    obtain ⟨o3, o4⟩ := okSs_cons oy
    have hf' : fin = decide (xs.length < ys.length) := by
      rw [hf]
      simp only [List.length_cons, Nat.add_lt_add_iff_right]
    have hu1 : A.units + min x.dep y.dep < cLine := room_head hu
    have hu2 : A.units + min (D.deps xs) (D.deps ys) < cLine := room_tail hu
    unfold dlts at h
    rw [List.zip_cons_cons]
    refine kat_cons (eqAt_d o1 o3 r1 k1 hu1 prog w _ _ ?_)
    by_cases e : x = y
    · rw [if_pos e] at h
      rw [decide_eq_true e]
      exact kat_yes (lex_d xs ys k (i + 1) us vs o2 o4 r2 k2 h hu2 (fun _ hi => absurd hi (Nat.succ_ne_zero i)) hf' hq)
    · rw [if_neg e] at h
      rw [decide_eq_false e]
      refine kat_no ?_
      cases hbi : (b && i == 0) with
      | false => exact one_false o1 o3 r1 k1 h hu1 hq
      | true =>
        have hbi' := Bool.and_eq_true_iff.mp hbi
        exact one_true (hb hbi'.1 (beq_iff_eq.mp hbi'.2) x xs rfl) r1 k1 h hq
theorem cmp_d {xs : List D} {κ : SortKind} (hk : KindOk xs κ) {x y : D} {k : Bool} {u v : Value} {Q : Bool → Shared → Prop} (hx : x ∈ xs) (hy : y ∈ xs) (ox : x.okS = true) (oy : y.okS = true) (rx : RdV s.heap x u) (ry : RdV s.heap y v) (h : dlt x y = some k)
    (hu : A.units + min x.dep y.dep < cLine) (q : Q k s) : wpAny (model prog w) A (keyLt' κ u v) Q E s := by
  cases hk with
  | gen => exact one_false ox oy rx ry h hu q
  | one =>
    rw [keyLt'_oneType]
    cases hT : x.isT with
    | false => exact one_true hT rx ry h q
    | true =>
      cases x with
      | tup xs =>
        cases y with
        | tup ys => exact one_tup ox oy rx ry h hu q
        | _ => cases h
      | _ => cases hT
  | @tup b ha hb =>
    rw [List.all_eq_true] at ha
    have h1 := ha x hx
    have h2 := ha y hy
    cases x with
    | tup xs =>
      cases y with
      | tup ys =>
        obtain ⟨a, o, vs, n, rfl, h1', h2', h3', h4'⟩ := rx
        obtain ⟨a', o', vs', n', rfl, k1, k2, k3, k4⟩ := ry
        refine kat_lt h1' h3' k1 k3 ?_
        have n1 : vs.size = xs.length := by simpa using rdVs_len h4'
        have n2 : vs'.size = ys.length := by simpa using rdVs_len k4
        refine lex_d xs ys k 0 _ _ ox oy h4' k4 h ?_ (fun hbt _ x r e => ?_) (by rw [n1, n2]) q
        · have := room_in hu
          have h5 : A.units + 1 + min (D.deps xs) (D.deps ys) < cLine := this
          omega
        · subst e
          have := hb hbt _ hx
          exact this
      | _ => cases h
    | _ => cases h1
def allCmp (xs : List D) : Bool := xs.all fun x => xs.all fun y => (dlt x y).isSome
theorem rd_mem {h : Heap} : ∀ {ds : List D} {us : List Value}, RdVs h ds us → ∀ u ∈ us, ∃ d, d ∈ ds ∧ RdV h d u
  | [], _, r, u, hu => by obtain rfl := r; cases hu
  | d :: ds, _, r, u, hu => by
    obtain ⟨v, us, rfl, r1, r2⟩ := r
    rcases List.mem_cons.mp hu with rfl | hu
    · exact ⟨d, List.mem_cons_self, r1⟩
    · obtain ⟨e, h1, h2⟩ := rd_mem r2 u hu
      exact ⟨e, List.mem_cons_of_mem _ h1, h2⟩
theorem okSs_mem {ds : List D} {d : D} (o : D.okSs ds = true) (h : d ∈ ds) : d.okS = true := by
  obtain ⟨i, e⟩ := List.getElem?_of_mem h
  exact okSs_get o e
theorem deps_mem {ds : List D} {d : D} (h : d ∈ ds) : d.dep ≤ D.deps ds := by
  obtain ⟨i, e⟩ := List.getElem?_of_mem h
  exact deps_get e
theorem swo_rd (h : Heap) : Swo fun u v => tlt (rdD h u) (rdD h v) := ⟨fun _ _ q => tlt_asym q, fun _ _ _ p q => tlt_neg p q⟩
theorem rds_map {h : Heap} : ∀ {ds : List D} {us : List Value}, RdVs h ds us → us.map (rdD h) = ds
  | [], _, r => by obtain rfl := r; rfl
  | d :: ds, _, r => by
    obtain ⟨v, us, rfl, r1, r2⟩ := r
    rw [List.map_cons, rdD_eq r1, rds_map r2]
theorem sort_data {l : Addr} {xs : List D} {vs : List Value} {Q : Value → Shared → Prop} (hl : s.heap.IsList l vs.toArray) (r : RdVs s.heap xs vs) (hz : vs.length ≤ sizeLine) (ok : D.okSs xs = true) (hc : allCmp xs = true) (hu : A.units + 2 + D.deps xs < cLine)
    (h : ∀ (h' : Heap) (d : Addr) (out : List Value), out.Perm vs → out.map (rdD s.heap) = isort xs → (∀ b o, s.heap.get? b = some o → h'.get? b = some o) → s.heap.objs.size ≤ d → (∃ n, h'.get? d = some (seqObj "list" out.toArray n)) → Q (.ref d) { s with heap := h' }) :
    wpAny (model prog w) A (call (.builtin "sorted") [.ref l]) Q E s := by
  refine sorted_ord (swo_rd s.heap) hl hz (fun h2 h₁ a ha kk => ?_) fun out hs hb => ?_
  · intro h' keep
    have k' : ∀ b o, s.heap.get? b = some o → h'.get? b = some o := fun b o e => keep b o (kk b o e).1 (kk b o e).2
    have r' : RdVs h' xs vs := rds_keep k' xs vs r
    obtain ⟨κ, hk, hkind⟩ := kind_ok (s := { s with heap := h' }) (A := A.in1.in1) (E := fun _ _ => False) (M := model prog w) r' (by rw [← rdVs_len r]; exact h2)
    obtain ⟨κ', hk', hkind'⟩ := kind_ok (s := { s with heap := h' }) (A := A.in1.in1) (E := E) (M := model prog w) r' (by rw [← rdVs_len r]; exact h2)
    refine ⟨κ, fun Q E' q => ?_, fun p q hp hq => ?_⟩
    · exact wpAny_mono (hkind Q q) (fun _ _ z => z) fun _ _ z => z.elim
    · obtain ⟨d, d1, d2⟩ := rd_mem r' p.1 hp
      obtain ⟨e, e1, e2⟩ := rd_mem r' q.1 hq
      obtain ⟨d', d1', d2'⟩ := rd_mem r p.1 hp
      obtain ⟨e', e1', e2'⟩ := rd_mem r q.1 hq
      have ed : d' = d := rd_uniq d' d p.1 (rd_keep k' _ _ d2') d2
      have ee : e' = e := rd_uniq e' e q.1 (rd_keep k' _ _ e2') e2
      subst ed ee
      unfold allCmp at hc
      rw [List.all_eq_true] at hc
      have hc1 := hc d' d1
      rw [List.all_eq_true] at hc1
      obtain ⟨k, hk1⟩ := Option.isSome_iff_exists.mp (hc1 e' e1)
      refine cmp_d (s := { s with heap := h' }) hk d1 e1 (okSs_mem ok d1) (okSs_mem ok e1) d2 e2 hk1 ?_ ⟨rfl, ?_⟩
      · have h1 := deps_mem d1
        have h2 : min d'.dep e'.dep ≤ d'.dep := Nat.min_le_left _ _
        show A.units + 1 + 1 + min d'.dep e'.dep < cLine
        omega
      · show k = tlt (rdD s.heap p.1) (rdD s.heap q.1)
        rw [rdD_eq d2', rdD_eq e2']
        exact (dlt_tlt' hk1).symm
  · refine h _ _ out hb.perm ?_ (fun b o e => sortedAll_old e) (Nat.le_succ _) (sortedAll_at s.heap vs out.toArray)
    refine up_uniq ?_ (isort_up xs) ?_
    · exact List.pairwise_map.mpr hs
    · have := hb.perm.map (rdD s.heap)
      rw [rds_map r] at this
      exact this.trans (isort_perm xs).symm
end

/-! ### at D -/
section
variable {X : Cx} {K : PySem.W.Frag} {w : World} {mg : Str → Option Value} {W : WX}
def opSorted : O1 := fun d m => match d with
  | .ref l => match seqOf m (.ref l) with
    | some xs => if D.okSs xs = true ∧ allCmp xs = true ∧ D.deps xs ≤ 20 then .ok (.ref m.length) (m ++ [.lst (isort xs)]) else .stk
    | none => .stk
  | _ => .stk
def rSrt (K : PySem.W.Frag) : List V → Hp → VK → Prop := fun xs H Q => ∃ (a : Addr) (vs : List V) (ds : List D) (ι : Nat → Addr) (n : Nat), xs = [V.ref a] ∧ SqL K H a vs ∧ Reps K ι n H ds vs ∧ D.okSs ds = true ∧ allCmp ds = true ∧ D.deps ds ≤ 20 ∧
  ∀ p us, H p = none → Reps K ι n H (isort ds) us → Q (.ref p) (upd H p (.lst us))
theorem pick_reps {ι : Nat → Addr} {n : Nat} {H : Hp} {h : Heap} : ∀ {ds : List D} {vs : List V} {us : List Value}, Reps K ι n H ds vs → RdVs h ds us → Vals vs us → ∀ u ∈ us, ∃ v, RelV v u ∧ Rep K ι n H (rdD h u) v
  | [], _, _, _, r, _, u, hu => by obtain rfl := r; cases hu
  | d :: ds, _, _, r, rr, rv, u, hu => by
    obtain ⟨v, vs, rfl, r1, r2⟩ := r
    obtain ⟨x, us, rfl, q1, q2⟩ := rr
    cases rv with
    | cons a b =>
      rcases List.mem_cons.mp hu with rfl | hu
      · exact ⟨v, a, by rw [rdD_eq q1]; exact r1⟩
      · exact pick_reps r2 q2 b u hu
theorem all_reps {ι : Nat → Addr} {n : Nat} {H : Hp} {h : Heap} : ∀ {us : List Value}, (∀ u ∈ us, ∃ v, RelV v u ∧ Rep K ι n H (rdD h u) v) → ∃ vs, Vals vs us ∧ Reps K ι n H (us.map (rdD h)) vs
  | [], _ => ⟨[], .nil, rfl⟩
  | u :: us, hp => by
    obtain ⟨v, h1, h2⟩ := hp u List.mem_cons_self
    obtain ⟨vs, h3, h4⟩ := all_reps fun u hu => hp u (List.mem_cons_of_mem _ hu)
    exact ⟨v :: vs, .cons h1 h3, v, vs, rfl, h2, h4⟩
theorem cr_srt (hu : X.A.units + 64 < cLine) : CallR X (.builtin "sorted") (rSrt X.K) := by
  intro pins s σ H xs us Q I r h
  obtain ⟨a, vs, ds, ι, n, rfl, hs, hr, ok, hc, hd, q⟩ := h
  obtain ⟨its, rv, hl, hz⟩ := I.list hs
  obtain rfl : us = [Value.ref a] := Vals.ref1 r
  have rr := reps_rd I ds vs its ok hr rv
  refine sort_data hl.isList rr (by rw [← rv.length]; exact hz) ok hc (by omega) fun h' d out hp ho hk hsz hn => ?_
  obtain ⟨vs', rv', rs'⟩ := all_reps fun u hu => pick_reps hr rr rv u (hp.mem_iff.mp hu)
  rw [ho] at rs'
  obtain ⟨k, hk'⟩ := hn
  refine ⟨.ref d, upd H d (.lst vs'), I.laid (t' := s.toks) hk hsz ⟨?_, out, k, rv', hk'⟩, rfl, q d vs' (I.hok.fresh hsz) rs'⟩
  rw [rv'.length, hp.length_eq, ← rv.length]
  exact hz
theorem dca_sorted : DCa K w mg W (rSrt K) (fn1 opSorted) := dca1 fun σ ι m H x d Q M rx q => by
  cases d with
  | ref l =>
    cases e1 : seqOf m (.ref l) with
    | none => simp only [opSorted, e1] at q; exact q.elim
    | some xs =>
      by_cases hc : D.okSs xs = true ∧ allCmp xs = true ∧ D.deps xs ≤ 20
      · simp only [opSorted, e1] at q
        rw [if_pos hc] at q
        obtain ⟨a, vs, rfl, h1, h2⟩ := seqOf_sq M e1 rx
        exact ⟨a, vs, xs, ι, m.length, rfl, h1, h2, hc.1, hc.2.1, hc.2.2, fun p us hp r => fin_lst M r q p hp⟩
      · simp only [opSorted, e1] at q
        rw [if_neg hc] at q
        exact q.elim
  | _ => exact q.elim
end
end DL
/-! The D layer: short words for printed derivations. -/
namespace DL
open PySem PySem.Spec L2

theorem bt_len : bootBuiltins "len" = some (.builtin "len") := by decide +kernel
theorem bt_abs : bootBuiltins "abs" = some (.builtin "abs") := by decide +kernel
theorem bt_int : bootBuiltins "int" = some (.type "int") := by decide +kernel
theorem bt_str : bootBuiltins "str" = some (.type "str") := by decide +kernel
theorem bt_list : bootBuiltins "list" = some (.type "list") := by decide +kernel
theorem bt_tuple : bootBuiltins "tuple" = some (.type "tuple") := by decide +kernel
theorem bt_max : bootBuiltins "max" = some (.builtin "max") := by decide +kernel
theorem bt_min : bootBuiltins "min" = some (.builtin "min") := by decide +kernel
theorem bt_sorted : bootBuiltins "sorted" = some (.builtin "sorted") := by decide +kernel
theorem bt_bool : bootBuiltins "bool" = some (.type "bool") := by decide +kernel
theorem bt_dict : bootBuiltins "dict" = some (.type "dict") := by decide +kernel
theorem bt_any : bootBuiltins "any" = some (.builtin "any") := by decide +kernel
theorem bt_all : bootBuiltins "all" = some (.builtin "all") := by decide +kernel
/-- names that are built in and not written -/
structure Bi (mg : Str → Option Value) : Prop where
  len : mg "len" = none
  abs : mg "abs" = none
  int : mg "int" = none
  str : mg "str" = none
  list : mg "list" = none
  tuple : mg "tuple" = none
  max : mg "max" = none
  min : mg "min" = none
  sorted : mg "sorted" = none
  bool : mg "bool" = none
  dict : mg "dict" = none
  range : mg "range" = none
  reversed : mg "reversed" = none
  enumerate : mg "enumerate" = none
  isinstance : mg "isinstance" = none
  any : mg "any" = none
  all : mg "all" = none
structure Ok (X : Cx) (k : Nat) : Prop where
  room : Room k X.A
  calm : X.calm = true
  nd : X.N.Nodup
theorem Ok.u64 {X : Cx} {k : Nat} (o : Ok X k) : X.A.units + 64 < cLine := o.room.units
theorem Ok.u65 {X : Cx} {k : Nat} (o : Ok X k) : X.A.units + 65 < cLine := by have := o.room.un; omega
theorem Ok.u9 {X : Cx} {k : Nat} (o : Ok X k) : X.A.units + 9 < cLine := by have := o.room.un; omega
theorem Ok.blk {X : Cx} {k : Nat} (o : Ok X k) {s : Shared} {H : Hp} {scope : Scope} {e : Env} {fp : List Addr} : Ok (X.blk s H scope e fp) k := ⟨o.room, o.calm, o.nd⟩
theorem Ok.tr {X : Cx} {k : Nat} (o : Ok X k) {pn : List (Addr × Obj)} {xe : Value → Shared → Prop} : Ok (X.tr pn xe) k := ⟨o.room, o.calm, o.nd⟩
/-- a def that is known -/
structure Cal (P : Program) (w : World) (K : PySem.W.Frag) (mg : Str → Option Value) (base : Heap) (k : Nat) (x : Str) (st : Stmt) (ps : List Str) (F : List D → Mem → R D) : Prop where
  ex : ∃ f fd, mg x = some (.ref f) ∧ Fun K x x st f fd ∧ Binds K fd ps [] ∧ FnOk P w K mg base (L2.CX P w) k f fd ps (spD K w mg ps.length F) ∧ ∀ ds m, ds.length ≠ ps.length → F ds m = .stk
section
variable {X : Cx} {K : PySem.W.Frag} {w : World} {mg : Str → Option Value} {W : WX}
variable {k : Nat} {x : Str} {st : Stmt} {ps ks : List Str} {F : List D → Mem → R D} {p pos : Pos} {e a b : Expr} {es : List Expr} {fs : DFs} {f fa fb : DF} {kws : List Keyword}
theorem e_call (C : Cal X.prog X.w X.K X.mg X.base k x st ps F) (hr : Room k X.A) (hx : Pass X W) (ha : DA X W (e :: es) fs) (hg : Gl X x := by rfl) (hdb : (x == ("__debug__" : Str)) = false := by decide)
    (he : starEach (e :: es) X.env = (false, eval e X.env) :: starEach es X.env := by rfl) (hpl : (backTo pos (starEach es X.env)).any (·.1) = false := by rfl) : DE X W (.Call (.Name x p) (e :: es) [] pos) (dApp F [] fs) := by
  obtain ⟨f, fd, hm, Fu, hb, G, hl⟩ := C.ex
  exact de_call (dds := []) (dvs := []) (ds := []) ⟨G, hl⟩ hr hg hm Fu.kp hb .nil (fun _ _ _ => rfl) hx ha hdb he hpl
theorem e_kw (C : Cal X.prog X.w X.K X.mg X.base k x st ps F) (hr : Room k X.A) (hx : Pass X W) (ix : List Nat) (ks : List Str) (hkw : DK X W kws fs)
    (hb : ∀ (kV doc pm : Value) (an : Option Addr) (cdv ct : Value) (ws : List Value), ws.length = ix.length → bindArgs (PySem.W.fnOf x x (defArgs st) (defBody st) (defScope st) .none kV doc pm an cdv ct) ⟨[], ks.zip ws⟩ = pure (ps.zip (permL ix ws)))
    (hg : Gl X x := by rfl) (hdb : (x == ("__debug__" : Str)) = false := by decide) (hall : (backToKw pos (keywordEach kws X.env)).all (·.1.isSome) = true := by rfl) (hks : (backToKw pos (keywordEach kws X.env)).filterMap (·.1) = ks := by rfl)
    (hpl : ((backTo pos (starEach [] X.env)).any (·.1) || (backToKw pos (keywordEach kws X.env)).any (·.1.isNone)) = false := by rfl) : DE X W (.Call (.Name x p) [] kws pos) (dAppK F ix fs) := by
  obtain ⟨f, fd, hm, Fu, _, G, hl⟩ := C.ex
  refine de_callK ⟨G, hl⟩ hr hg hm Fu.kp (ks := ks) (ix := ix) ⟨fun s ws _ hw _ => ?_⟩ hx hkw hdb hall hks hpl
  obtain ⟨oc, od, kV, doc, pm, an, cdv, ct, osl, rfl, lk, hcd⟩ := Fu.ex
  exact .of_eq (hb kV doc pm an cdv ct ws hw)
theorem e_len (B : Bi X.mg) (h : DE X W e f) (hg : Gl X "len" := by rfl) (h0 : starEach [e] X.env = (false, eval e X.env) :: starEach [] X.env := by rfl) (hp : (backTo pos (starEach [] X.env)).any (·.1) = false := by rfl) : DE X W (.Call (.Name "len" p) [e] [] pos) (dCall (fn1 opLen) (dCons f dNil)) := de_callB call_len dca_len hg B.len bt_len (da_cons h da_nil h0) (by decide) (by decide) h0 hp
theorem e_abs (B : Bi X.mg) (h : DE X W e f) (hg : Gl X "abs" := by rfl) (h0 : starEach [e] X.env = (false, eval e X.env) :: starEach [] X.env := by rfl) (hp : (backTo pos (starEach [] X.env)).any (·.1) = false := by rfl) : DE X W (.Call (.Name "abs" p) [e] [] pos) (dCall (fn1 opAbs) (dCons f dNil)) := de_callB call_abs dca_abs hg B.abs bt_abs (da_cons h da_nil h0) (by decide) (by decide) h0 hp
theorem e_max (o : Ok X k) (B : Bi X.mg) (h : DE X W e f) (hg : Gl X "max" := by rfl) (h0 : starEach [e] X.env = (false, eval e X.env) :: starEach [] X.env := by rfl) (hp : (backTo pos (starEach [] X.env)).any (·.1) = false := by rfl) : DE X W (.Call (.Name "max" p) [e] [] pos) (dCall (fn1 opMax) (dCons f dNil)) := de_callB (cr_max o.calm) dca_max hg B.max bt_max (da_cons h da_nil h0) (by decide) (by decide) h0 hp
theorem e_min (o : Ok X k) (B : Bi X.mg) (h : DE X W e f) (hg : Gl X "min" := by rfl) (h0 : starEach [e] X.env = (false, eval e X.env) :: starEach [] X.env := by rfl) (hp : (backTo pos (starEach [] X.env)).any (·.1) = false := by rfl) : DE X W (.Call (.Name "min" p) [e] [] pos) (dCall (fn1 opMin) (dCons f dNil)) := de_callB (cr_min o.calm) dca_min hg B.min bt_min (da_cons h da_nil h0) (by decide) (by decide) h0 hp
theorem e_sorted (o : Ok X k) (B : Bi X.mg) (h : DE X W e f) (hg : Gl X "sorted" := by rfl) (h0 : starEach [e] X.env = (false, eval e X.env) :: starEach [] X.env := by rfl) (hp : (backTo pos (starEach [] X.env)).any (·.1) = false := by rfl) : DE X W (.Call (.Name "sorted" p) [e] [] pos) (dCall (fn1 opSorted) (dCons f dNil)) := de_callB (cr_srt o.u64) dca_sorted hg B.sorted bt_sorted (da_cons h da_nil h0) (by decide) (by decide) h0 hp
theorem e_intOf (B : Bi X.mg) (h : DE X W e f) (hg : Gl X "int" := by rfl) (h0 : starEach [e] X.env = (false, eval e X.env) :: starEach [] X.env := by rfl) (hp : (backTo pos (starEach [] X.env)).any (·.1) = false := by rfl) : DE X W (.Call (.Name "int" p) [e] [] pos) (dCall (fn1 opIntOf) (dCons f dNil)) := de_callTy call_int1 dca_int hg B.int bt_int (da_cons h da_nil h0) (by decide) (by decide) h0 hp
theorem e_strOf (B : Bi X.mg) (h : DE X W e f) (hg : Gl X "str" := by rfl) (h0 : starEach [e] X.env = (false, eval e X.env) :: starEach [] X.env := by rfl) (hp : (backTo pos (starEach [] X.env)).any (·.1) = false := by rfl) : DE X W (.Call (.Name "str" p) [e] [] pos) (dCall (fn1 opStr) (dCons f dNil)) := de_callTy call_str_int dca_str hg B.str bt_str (da_cons h da_nil h0) (by decide) (by decide) h0 hp
theorem e_list (B : Bi X.mg) (h : DE X W e f) (hg : Gl X "list" := by rfl) (h0 : starEach [e] X.env = (false, eval e X.env) :: starEach [] X.env := by rfl) (hp : (backTo pos (starEach [] X.env)).any (·.1) = false := by rfl) : DE X W (.Call (.Name "list" p) [e] [] pos) (dCall (fn1 opList) (dCons f dNil)) := de_callTy call_list_of dca_list hg B.list bt_list (da_cons h da_nil h0) (by decide) (by decide) h0 hp
theorem e_tuple (B : Bi X.mg) (h : DE X W e f) (hg : Gl X "tuple" := by rfl) (h0 : starEach [e] X.env = (false, eval e X.env) :: starEach [] X.env := by rfl) (hp : (backTo pos (starEach [] X.env)).any (·.1) = false := by rfl) : DE X W (.Call (.Name "tuple" p) [e] [] pos) (dCall (fn1 opTuple) (dCons f dNil)) := de_callTy call_tuple_of dca_tuple hg B.tuple bt_tuple (da_cons h da_nil h0) (by decide) (by decide) h0 hp
theorem e_isi (B : Bi X.mg) {T : String} {xT : Str} {p2 : Pos} (hv2 : bootBuiltins xT = some (.type T)) (hm2 : X.mg xT = none) (he : DE X W e f) (hg : Gl X "isinstance" := by rfl) (hg2 : Gl X xT := by rfl) (hn : xT ≠ "__name__" := by decide) (hdb : (xT == ("__debug__" : Str)) = false := by decide)
    (hs1 : starEach [(Expr.Name xT p2)] X.env = (false, eval (.Name xT p2) X.env) :: starEach [] X.env := by rfl) (hs2 : starEach [e, (Expr.Name xT p2)] X.env = (false, eval e X.env) :: starEach [(Expr.Name xT p2)] X.env := by rfl)
    (hpl : (backTo pos (starEach [(Expr.Name xT p2)] X.env)).any (·.1) = false := by rfl) : DE X W (.Call (.Name "isinstance" p) [e, .Name xT p2] [] pos) (dUn (opIsi T) f) := de_isi hg B.isinstance hg2 hm2 hv2 he hn hdb hs1 hs2 hpl
/-! comparisons: values, tests -/
theorem e_eq (o : Ok X k) (ha : DE X W a fa) (hb : DE X W b fb) : DE X W (.Compare a [.Eq] [b] pos) (dBin opEq fa fb) := de_cmp (op_eqD o.u64) dop_eq ha hb (nomark b)
theorem e_ne (o : Ok X k) (ha : DE X W a fa) (hb : DE X W b fb) : DE X W (.Compare a [.NotEq] [b] pos) (dBin opNe fa fb) := de_cmp (op_neD o.u64) dop_ne ha hb (nomark b)
theorem e_lt (ha : DE X W a fa) (hb : DE X W b fb) : DE X W (.Compare a [.Lt] [b] pos) (dBin opLt fa fb) := de_cmp op_ltA dop_lt ha hb (nomark b)
theorem e_le (ha : DE X W a fa) (hb : DE X W b fb) : DE X W (.Compare a [.LtE] [b] pos) (dBin opLe fa fb) := de_cmp op_le (dop_cmpI _) ha hb (nomark b)
theorem e_gt (ha : DE X W a fa) (hb : DE X W b fb) : DE X W (.Compare a [.Gt] [b] pos) (dBin opGt fa fb) := de_cmp op_gt (dop_cmpI _) ha hb (nomark b)
theorem e_ge (ha : DE X W a fa) (hb : DE X W b fb) : DE X W (.Compare a [.GtE] [b] pos) (dBin opGe fa fb) := de_cmp op_ge (dop_cmpI _) ha hb (nomark b)
theorem e_isN (ha : DE X W a fa) (hb : DE X W b fb) : DE X W (.Compare a [.Is] [b] pos) (dBin opIsN fa fb) := de_cmp op_isN dop_isN ha hb (nomark b)
theorem e_notN (ha : DE X W a fa) (hb : DE X W b fb) : DE X W (.Compare a [.IsNot] [b] pos) (dBin opNotN fa fb) := de_cmp op_notN dop_notN ha hb (nomark b)
theorem e_in (o : Ok X k) (ha : DE X W a fa) (hb : DE X W b fb) (hm : behindInMarks .In b = false := by rfl) : DE X W (.Compare a [.In] [b] pos) (dBin opIn fa fb) := de_cmp (op_inAll o.u65) dop_in ha hb hm
theorem e_notIn (o : Ok X k) (ha : DE X W a fa) (hb : DE X W b fb) (hm : behindInMarks .NotIn b = false := by rfl) : DE X W (.Compare a [.NotIn] [b] pos) (dBin opNotIn fa fb) := de_cmp (op_notInAll o.u65) dop_in ha hb hm
theorem t_eq (o : Ok X k) (ha : DE X W a fa) (hb : DE X W b fb) : DT X W (.Compare a [.Eq] [b] pos) (dTest (dBin opEq fa fb)) := dt_cmp (op_eqD o.u64) dop_eq ha hb (nomark b)
theorem t_ne (o : Ok X k) (ha : DE X W a fa) (hb : DE X W b fb) : DT X W (.Compare a [.NotEq] [b] pos) (dTest (dBin opNe fa fb)) := dt_cmp (op_neD o.u64) dop_ne ha hb (nomark b)
theorem t_lt (ha : DE X W a fa) (hb : DE X W b fb) : DT X W (.Compare a [.Lt] [b] pos) (dTest (dBin opLt fa fb)) := dt_cmp op_ltA dop_lt ha hb (nomark b)
theorem t_le (ha : DE X W a fa) (hb : DE X W b fb) : DT X W (.Compare a [.LtE] [b] pos) (dTest (dBin opLe fa fb)) := dt_cmp op_le (dop_cmpI _) ha hb (nomark b)
theorem t_gt (ha : DE X W a fa) (hb : DE X W b fb) : DT X W (.Compare a [.Gt] [b] pos) (dTest (dBin opGt fa fb)) := dt_cmp op_gt (dop_cmpI _) ha hb (nomark b)
theorem t_ge (ha : DE X W a fa) (hb : DE X W b fb) : DT X W (.Compare a [.GtE] [b] pos) (dTest (dBin opGe fa fb)) := dt_cmp op_ge (dop_cmpI _) ha hb (nomark b)
theorem t_isN (ha : DE X W a fa) (hb : DE X W b fb) : DT X W (.Compare a [.Is] [b] pos) (dTest (dBin opIsN fa fb)) := dt_cmp op_isN dop_isN ha hb (nomark b)
theorem t_notN (ha : DE X W a fa) (hb : DE X W b fb) : DT X W (.Compare a [.IsNot] [b] pos) (dTest (dBin opNotN fa fb)) := dt_cmp op_notN dop_notN ha hb (nomark b)
theorem t_in (o : Ok X k) (ha : DE X W a fa) (hb : DE X W b fb) (hm : behindInMarks .In b = false := by rfl) : DT X W (.Compare a [.In] [b] pos) (dTest (dBin opIn fa fb)) := dt_cmp (op_inAll o.u65) dop_in ha hb hm
theorem t_notIn (o : Ok X k) (ha : DE X W a fa) (hb : DE X W b fb) (hm : behindInMarks .NotIn b = false := by rfl) : DT X W (.Compare a [.NotIn] [b] pos) (dTest (dBin opNotIn fa fb)) := dt_cmp (op_notInAll o.u65) dop_in ha hb hm
/-! subscripts, methods -/
theorem e_ix (o : Ok X k) (ha : DE X W a fa) (hb : DE X W b fb) (hs : PlainIx b := by exact fun _ _ => rfl) : DE X W (.Subscript a b pos) (dBin opIxM fa fb) := de_ixM o.u9 ha hb hs
section
variable {apos : Pos} {r : Expr} {fr : DF}
theorem e_append (hr : DE X W r fr) (ha : DE X W a fa) (hbase : attributeBase r "append" X.env (eval r X.env) = eval r X.env := by rfl)
    (hfew : ((backTo pos (starEach [a] X.env)).all (fun x => !x.1) && (backToKw pos (keywordEach [] X.env)).all (fun x => x.1.isSome) && decide (([a] : List Expr).length + ([] : List Keyword).length + (if ([] : List Keyword).isEmpty then 0 else 1) < 30)) = true := by rfl)
    (hline : (apos.endLine == pos.line) = true := by rfl) (hs : starEach [a] X.env = (false, eval a X.env) :: starEach [] X.env := by rfl) (hplain : (backTo pos (starEach [] X.env)).any (·.1) = false := by rfl) :
    DE X W (.Call (.Attribute r "append" apos) [a] [] pos) (dMt isLst mAppend fr (dCons fa dNil)) := de_bm PySem.F.plainAttrs_list PySem.F.slot_list_append PySem.F.type_list_append mt_append ty_lst dmt_append hr (da_cons ha da_nil hs) hbase hfew hline hs hplain
theorem e_extend (hr : DE X W r fr) (ha : DE X W a fa) (hbase : attributeBase r "extend" X.env (eval r X.env) = eval r X.env := by rfl)
    (hfew : ((backTo pos (starEach [a] X.env)).all (fun x => !x.1) && (backToKw pos (keywordEach [] X.env)).all (fun x => x.1.isSome) && decide (([a] : List Expr).length + ([] : List Keyword).length + (if ([] : List Keyword).isEmpty then 0 else 1) < 30)) = true := by rfl)
    (hline : (apos.endLine == pos.line) = true := by rfl) (hs : starEach [a] X.env = (false, eval a X.env) :: starEach [] X.env := by rfl) (hplain : (backTo pos (starEach [] X.env)).any (·.1) = false := by rfl) :
    DE X W (.Call (.Attribute r "extend" apos) [a] [] pos) (dMt isLst mExtend fr (dCons fa dNil)) := de_bm PySem.F.plainAttrs_list PySem.F.slot_list_extend PySem.F.type_list_extend mt_extend ty_lst dmt_extend hr (da_cons ha da_nil hs) hbase hfew hline hs hplain
theorem e_pop (hr : DE X W r fr) (hbase : attributeBase r "pop" X.env (eval r X.env) = eval r X.env := by rfl) (hline : (apos.endLine == pos.line) = true := by rfl) :
    DE X W (.Call (.Attribute r "pop" apos) [] [] pos) (dMt0 isLst mPop fr) := de_bm0 PySem.F.plainAttrs_list PySem.F.slot_list_pop PySem.F.type_list_pop mt_pop ty_lst dmt_pop hr hbase hline
end
/-! a target of several names: a tuple's or a list's items -/
def γTL (n : Nat) (δ : γs) : D → En → Mem → R En := fun d ρ m => match d with
  | .tup ds => γTup n δ (.tup ds) ρ m
  | d => γLst n δ d ρ m
def gTL (K : PySem.W.Frag) (n : Nat) (t : TGs) : TG := fun v σ H Q => gTup K n t v σ H Q ∨ gLst K n t v σ H Q
theorem pg_TL {es : List Expr} {kk : Nat} {t : TGs} {n : Nat} (hc : X.calm = true) (h : PGs X es t)
    (hn : (assignEach es X.env).length = n := by rfl) (hst : (assignEach es X.env).findIdx? (·.1) = none := by rfl) : PG X (.Tuple es kk pos) (gTL X.K n t) :=
  ⟨fun pins s σ H v u Q I r hw => hw.elim (fun q => (pg_tup (n := n) hc h hn hst).run pins s σ H v u Q I r q) fun q => (pg_lst (n := n) hc h hn hst).run pins s σ H v u Q I r q⟩
theorem gok_TL {gs : TGs} {δ : γs} {sl : List Nat} (n : Nat) (hs : GsOk K w mg W gs δ sl) : GOk K w mg W (gTL K n gs) (γTL n δ) sl := fun σ ι ρ m H d v Q e M r q => by
  cases d with
  | tup ds => exact .inl (gok_tup n hs σ ι ρ m H (.tup ds) v Q e M r q)
  | _ => exact .inr (gok_lst n hs σ ι ρ m H _ v Q e M r q)
/-- a, b, c = x, y, z -/
def dPar3 (i j l : Nat) (fs : DFs) : DSt := fun ρ m => (fs ρ m).goes ρ fun ds m1 => match ds with
  | [d, e, f] => .nx (((ρ.set i (some d)).set j (some e)).set l (some f)) m1
  | _ => .stk
theorem ds_par3 {i j l : Nat} {x y z : Str} {a b c : Expr} {fs : DFs} {px py pz pt : Pos} {kt k2 pt2} (hc : X.calm = true) (hN : X.N.Nodup) (hi : X.N[i]? = some x) (hj : X.N[j]? = some y) (hl : X.N[l]? = some z) (hij : i ≠ j) (hil : i ≠ l) (hjl : j ≠ l)
    (hx : X.env.scope.names.lookup x = some .local) (hy : X.env.scope.names.lookup y = some .local) (hz : X.env.scope.names.lookup z = some .local) (ha : DA X W [a, b, c] fs)
    (hw : swappedStores [.Tuple [.Name x px, .Name y py, .Name z pz] kt pt] (.Tuple [a, b, c] k2 pt2) X.env = pure (some [x, y, z]) := by rfl)
    (hs : swapsWithSole [.Tuple [.Name x px, .Name y py, .Name z pz] kt pt] (.Tuple [a, b, c] k2 pt2) pos.line X.env = pure false := by rfl) :
    DS X W (.Assign [.Tuple [.Name x px, .Name y py, .Name z pz] kt pt] (.Tuple [a, b, c] k2 pt2) pos) (dPar3 i j l fs) := ps_imp (ps_par3 hc hN hi hj hl hij hil hjl hx hy hz ha hw hs) fun E σ H h => by
  obtain ⟨ι, ρ, m, e, M, q⟩ := h
  refine ⟨ι, ρ, m, e, M, fin_goes' e q fun ι1 m1 H1 ds S1 M1 e1 q1 vs rv => ?_⟩
  match ds, rv, q1 with
  | [], _, q1 => exact q1.elim
  | [_], _, q1 => exact q1.elim
  | [_, _], _, q1 => exact q1.elim
  | _ :: _ :: _ :: _ :: _, _, q1 => exact q1.elim
  | [d, e, f], rv, q1 =>
    obtain ⟨v, r1, rfl, h1, v2, r2, rfl, h2, v3, r3, rfl, h3, h4⟩ := rv
    obtain rfl : r3 = [] := h4
    exact ⟨v, v2, v3, rfl, finS_nx q1 M1 (((e1.set h1 i).set h2 j).set h3 l)⟩
end
end DL
/-! The D layer: own exception classes, packed. -/
namespace DL
open PySem PySem.Spec L2 PyProof.Rows
def clsS (st : Stmt) (j : Nat) : Stmt := match st with
  | .ClassDef _ _ _ b _ _ _ _ _ _ _ => b.getD j (.Pass ⟨0, 0, 0, 0⟩)
  | _ => .Pass ⟨0, 0, 0, 0⟩
structure Exc1 (P : Program) (w : World) (K : PySem.W.Frag) (mg : Str → Option Value) (base : Heap) (k : Nat) (c : Str) (fns : List Str) (C fI : Addr) (fd : FuncData) : Prop where
  oex : OexC K C
  ini : PySem.W.findIn K (.ref C) "__init__" = some (some (.ref fI))
  tyI : PySem.W.typeIn K (.ref fI) = some (.type "function")
  fn : FnOk P w K mg base (L2.CX P w) k fI fd ("self" :: fns) (spIn K C fns)
  mgc : mg c = some (.ref C)
  few : fns.length ≤ 900
  xf : XfC K C
  no : ∀ f ∈ fns, PySem.W.findIn K (.ref C) f = some none
  te : PySem.W.exmOne K (.ref C) (.ref C) = some true
  bi : Binds K fd ("self" :: fns) []
section
variable {X : Cx} {k : Nat} {c : Str} {fns : List Str} {C fI : Addr} {fd : FuncData} {W : WX}
theorem Exc1.cls (T : Exc1 X.prog X.w X.K X.mg X.base k c fns C fI fd) : XCls X k c C fI fd fns := ⟨T.oex, T.ini, T.tyI, T.fn, T.mgc, T.few⟩
/-- «except c», c's own instances alone -/
def xm1 (c : Str) : Str → Option Bool := fun c' => if c' = c then some true else none
theorem xm1_ok (T : Exc1 X.prog X.w X.K X.mg X.base k c fns C fI fd) : ∀ c' b C', xm1 c c' = some b → X.mg c' = some (.ref C') → PySem.W.exmOne X.K (.ref C') (.ref C) = some b := fun c' b C' h hm => by
  unfold xm1 at h
  by_cases e : c' = c
  · rw [if_pos e] at h
    cases h
    rw [e, T.mgc] at hm
    cases hm
    exact T.te
  · rw [if_neg e] at h
    cases h
theorem xm1_cls (T : Exc1 X.prog X.w X.K X.mg X.base k c fns C fI fd) {cls : Value} (h : ∃ c' C', xm1 c c' = some true ∧ X.mg c' = some (.ref C') ∧ cls = .ref C') : cls = .ref C := by
  obtain ⟨c', C', h1, h2, h3⟩ := h
  unfold xm1 at h1
  by_cases e : c' = c
  · rw [e, T.mgc] at h2
    cases h2
    exact h3
  · rw [if_neg e] at h1
    cases h1
theorem e_raise {e : Expr} {es : List Expr} {fs : DFs} {p pos pos2 : Pos} {n : Nat} (T : Exc1 X.prog X.w X.K X.mg X.base k c fns C fI fd) (o : Ok X n) (tk : Takes X W) (hr : Room (k + 1) X.A) (ha : DA X W (e :: es) fs) (hg : Gl X c := by rfl)
    (hdb : (c == ("__debug__" : Str)) = false := by decide) (he : starEach (e :: es) X.env = (false, eval e X.env) :: starEach es X.env := by rfl) (hpl : (backTo pos (starEach es X.env)).any (·.1) = false := by rfl) :
    DS X W (.Raise (some (.Call (.Name c p) (e :: es) [] pos)) none pos2) (dRaise c fns fs) := ds_raise T.cls o.calm tk hr hg T.bi (L2.passes_call takes0 fun _ _ _ _ z => z) ha hdb he hpl
end
/-- a class's facts, as they are read off -/
theorem exc1_mk {P : Program} {w : World} {K : PySem.W.Frag} {mg : Str → Option Value} {base : Heap} {c : Str} {fns : List Str} {C fI : Addr} {qual : Str} {st : Stmt} {N : List Str}
    {nm q : Str} {NN : Addr} {bs bm : List Value} {sn : List Str} {sub : List Value} {ab : Bool} {col : Option Bool} {dd : Option Addr} {m0 m1 m2 m3 m5 : Option Value} {fd : FuncData}
    (mgc : mg c = some (.ref C)) (xL : K.lookup C = some (excClassObj nm q C NN bs bm true sn sub ab col dd m0 m1 m2 m3 m5 "ValueError.__new__")) (hbm : PySem.HandSPX.refsVE bm = true)
    (sa : PySem.W.findIn K (.ref C) "__setattr__" = some (some (.builtin "object.__setattr__"))) (ga : PySem.W.findIn K (.ref C) "__getattribute__" = some (some (.builtin "BaseException.__getattribute__"))) (gg : PySem.W.findIn K (.ref C) "__getattr__" = some none)
    (no : ∀ f ∈ fns, PySem.W.findIn K (.ref C) f = some none) (ini : PySem.W.findIn K (.ref C) "__init__" = some (some (.ref fI))) (tyI : PySem.W.typeIn K (.ref fI) = some (.type "function"))
    (kC : PySem.W.keepIn K (.ref C) = true) (eC : PySem.W.subIn K (.ref C) (.type "BaseException") = some true) (tC : PySem.W.typeIn K (.ref C) = some (.type "type")) (hC : PySem.W.hasDictIn K C = true) (te : PySem.W.exmOne K (.ref C) (.ref C) = some true)
    (Fu : Fun K "__init__" qual st fI fd) (S : FnScope N ("self" :: fns) (defScope st)) (bi : Binds K fd ("self" :: fns) []) (hn : fns ≠ []) (few : fns.length ≤ 900)
    (hb : ∀ (cdv : Value) (A : Around) (outer : List Env) (s : Shared) (H : Hp) (E : XK), PSs (cxOf (L2.CX P w) P w K mg base N qual (defScope st) fI cdv A outer s H E) (defBody st) (gIn K (slotsIn fns))) :
    Exc1 P w K mg base 1 c fns C fI fd :=
  have T : OexC K C := ⟨⟨nm, q, NN, bs, bm, sn, sub, ab, col, dd, m0, m1, m2, m3, m5, xL, hbm⟩, sa, eC, tC, kC⟩
  ⟨T, ini, tyI, init_fn Fu S T hn no few hb, mgc, few, ⟨ga, gg, eC, hC⟩, no, te, bi⟩
def blkB (N : List Str) (sc scope : Scope) (own : List (Str × Nat)) : Bool := decide (scope.kind = .function) && (scope.names.all fun y => decide (scope.names.lookup y.1 = some y.2)) && (own.all fun p => decide (N[p.2]? = some p.1)) &&
  (scope.names.all fun y => !decide (y.2 = .free) || (decide (sc.names.lookup y.1 = some .cell) || decide (sc.names.lookup y.1 = some .free))) &&
  (scope.names.all fun y => !(decide (y.2 = .local) || decide (y.2 = .cell)) || (decide (y.1 ∈ own.map (·.1)) || !decide (y.1 ∈ N)))
theorem blk_ok (N : List Str) (sc : Scope) {scope : Scope} {own : List (Str × Nat)} (h : blkB N sc scope own = true) : BlkOk N sc scope own := by
  unfold blkB at h
  simp only [Bool.and_eq_true, decide_eq_true_eq, List.all_eq_true] at h
  obtain ⟨⟨⟨⟨h1, h2⟩, h3⟩, h4⟩, h5⟩ := h
  refine ⟨h1, h2, h3, fun y hy e => ?_, fun y hy e => ?_⟩
  · have := h4 y hy
    simpa [e] using this
  · have := h5 y hy
    rcases e with e | e <;> simpa [e] using this
/-! ### the law's own start -/
theorem reps_ints {K : PySem.W.Frag} {ι : Nat → Addr} {n : Nat} {H : Hp} : ∀ ns : List Int, Reps K ι n H (ns.map .int) (ns.map V.int)
  | [] => rfl
  | i :: ns => ⟨_, _, rfl, rfl, reps_ints ns⟩
theorem law_start {K : PySem.W.Frag} {w : World} {mg : Str → Option Value} {F : List D → Mem → R D} {a : Addr} {ns : List Int} {H : Hp} {Q : VK} {E : XK} (pure_ : ∀ o : MO, (o = .lst (ns.map .int) ∨ o = .frl (ns.map .int)) → ∃ m', F [.ref 0] [o] = .ok (.bl true) m')
    (hS : SqL K H a (ns.map V.int)) (q : ∀ H', Q (.bl true) H') : spD K w mg 1 F [.ref a] H Q E := by
  have go : ∀ o : MO, (o = .lst (ns.map .int) ∨ o = .frl (ns.map .int)) → ObjR K w (fun _ => a) 1 H a o → spD K w mg 1 F [.ref a] H Q E := fun o ho ob => by
    obtain ⟨m', e⟩ := pure_ o ho
    refine ⟨rfl, fun _ => a, [.ref 0], [o], Reps.cons ⟨Nat.zero_lt_one, rfl⟩ Reps.nil, ⟨fun l x e => ?_, fun l l' x x' e e' _ _ _ => ?_⟩, ?_⟩
    · cases l with
      | zero => simp at e; subst e; exact ob
      | succ l => simp at e
    · cases l with
      | zero =>
        cases l' with
        | zero => rfl
        | succ l => simp at e'
      | succ l => simp at e
    · rw [e]
      exact fun ι' H' _ _ v hv => by rw [show v = .bl true from hv]; exact q H'
  rcases hS with (hS | ⟨ob, hS⟩) | hS
  · exact go _ (.inl rfl) ⟨_, hS, reps_ints ns⟩
  · exact go _ (.inr rfl) ⟨_, reps_ints ns, .inl ⟨ob, hS⟩⟩
  · exact go _ (.inr rfl) ⟨_, reps_ints ns, .inr hS⟩
theorem cal_at {P : Program} {w : World} {K : PySem.W.Frag} {mg : Str → Option Value} {base : Heap} {k : Nat} {x : Str} {st : Stmt} {ps : List Str} {F : List D → Mem → R D} {f : Addr} {fd : FuncData} (c : Cal P w K mg base k x st ps F) (hm : mg x = some (.ref f)) (Fu : Fun K x x st f fd) :
    FnOk P w K mg base (L2.CX P w) k f fd ps (spD K w mg ps.length F) := by
  obtain ⟨g, gd, hm2, Gu, _, G, _⟩ := c.ex
  rw [hm] at hm2
  cases hm2
  obtain ⟨oc, od, kV, doc, pm, an, cdv, ct, osl, e1, lk, _⟩ := Fu.ex
  obtain ⟨oc', od', kV', doc', pm', an', cdv', ct', osl', e2, lk', _⟩ := Gu.ex
  rw [lk] at lk'
  cases lk'
  exact G
end DL
/-! Denotations evaluated: rewriting rules. -/
namespace DL
open PySem PySem.Spec L2
section
variable {ρ : En} {m m' : Mem} {f g h fa fb : DF} {fs : DFs} {d e x y : D} {α β : Type}
/-! answers -/
@[simp] theorem ev_bind (a : α) (k : α → Mem → R β) : (R.ok a m).bind k = k a m := rfl
@[simp] theorem ev_bindX (c : Str) (fl : List (Str × D)) (k : α → Mem → R β) : (R.exn c fl m).bind k = .exn c fl m := rfl
@[simp] theorem ev_bnd (a : α) (k : α → Mem → R β) : (R.ok a m).bnd k = k a m := rfl
@[simp] theorem ev_goes (a : α) (k : α → Mem → O) : (R.ok a m).goes ρ k = k a m := rfl
@[simp] theorem ev_goesX (c : Str) (fl : List (Str × D)) (k : α → Mem → O) : (R.exn c fl m).goes ρ k = .exn c fl ρ m := rfl
@[simp] theorem ev_only (a : α) (k : α → Mem → O) : (R.ok a m).only k = k a m := rfl
@[simp] theorem ev_thn_nx (k : DSt) : (O.nx ρ m).thn k = k ρ m := rfl
@[simp] theorem ev_thn_rt (k : DSt) : (O.rt d m).thn k = .rt d m := rfl
@[simp] theorem ev_thn_bk (k : DSt) : (O.bk ρ m).thn k = .bk ρ m := rfl
@[simp] theorem ev_thn_ct (k : DSt) : (O.ct ρ m).thn k = .ct ρ m := rfl
@[simp] theorem ev_thn_ex (c : Str) (fl : List (Str × D)) (k : DSt) : (O.exn c fl ρ m).thn k = .exn c fl ρ m := rfl
@[simp] theorem ev_turn_nx (k : DSt) : (O.nx ρ m).turn k = k ρ m := rfl
@[simp] theorem ev_turn_ct (k : DSt) : (O.ct ρ m).turn k = k ρ m := rfl
@[simp] theorem ev_turn_bk (k : DSt) : (O.bk ρ m).turn k = .nx ρ m := rfl
@[simp] theorem ev_turn_rt (k : DSt) : (O.rt d m).turn k = .rt d m := rfl
@[simp] theorem ev_turn_ex (c : Str) (fl : List (Str × D)) (k : DSt) : (O.exn c fl ρ m).turn k = .exn c fl ρ m := rfl
@[simp] theorem ev_val_nx : (O.nx ρ m).val = .ok .non m := rfl
@[simp] theorem ev_val_rt : (O.rt d m).val = .ok d m := rfl
@[simp] theorem ev_val_ex (c : Str) (fl : List (Str × D)) : (O.exn c fl ρ m).val = .exn c fl m := rfl
/-! expressions -/
@[simp] theorem ev_C : dC d ρ m = .ok d m := rfl
@[simp] theorem ev_var (i : Nat) : dVar i ρ m = (match ρ[i]? with | some (some d) => .ok d m | _ => .stk) := rfl
@[simp] theorem ev_bin (o : O2) : dBin o fa fb ρ m = (fa ρ m).bind fun x m1 => (fb ρ m1).bind fun y m2 => o x y m2 := rfl
@[simp] theorem ev_un (o : O1) : dUn o fa ρ m = (fa ρ m).bind fun x m1 => o x m1 := rfl
@[simp] theorem ev_call (o : ON) : dCall o fs ρ m = (fs ρ m).bind fun xs m1 => o xs m1 := rfl
@[simp] theorem ev_app (F : List D → Mem → R D) : dApp F [] fs ρ m = (fs ρ m).bind fun ds m1 => F (ds ++ []) m1 := rfl
@[simp] theorem ev_appK (F : List D → Mem → R D) (ix : List Nat) : dAppK F ix fs ρ m = (fs ρ m).bind fun ds m1 => if ds.length = ix.length then F (permL ix ds) m1 else .stk := rfl
@[simp] theorem ev_nil : dNil ρ m = .ok [] m := rfl
@[simp] theorem ev_cons : dCons f fs ρ m = (f ρ m).bind fun d m1 => (fs ρ m1).bind fun ds m2 => .ok (d :: ds) m2 := rfl
@[simp] theorem ev_tup : dTup fs ρ m = (fs ρ m).bind fun ds m1 => if ds.length ≤ sizeLine then .ok (.tup ds) m1 else .stk := rfl
@[simp] theorem ev_lst : dLst fs ρ m = (fs ρ m).bind fun ds m1 => if ds.length ≤ sizeLine then .ok (.ref m1.length) (m1 ++ [.lst ds]) else .stk := rfl
@[simp] theorem ev_newD : dNewD ρ m = .ok (.ref m.length) (m ++ [.dct []]) := rfl
@[simp] theorem ev_if (t : DFb) : dIf t f g ρ m = (t ρ m).bind fun b m1 => if b = true then f ρ m1 else g ρ m1 := rfl
@[simp] theorem ev_andV : dAndV f g ρ m = (f ρ m).bind fun d m1 => match d with | .bl true => g ρ m1 | .bl false => .ok (.bl false) m1 | _ => .stk := rfl
@[simp] theorem ev_orV : dOrV f g ρ m = (f ρ m).bind fun d m1 => match d with | .bl false => g ρ m1 | .bl true => .ok (.bl true) m1 | _ => .stk := rfl
@[simp] theorem ev_notV : dNotV f ρ m = (f ρ m).bind fun d m1 => match d with | .bl b => .ok (.bl (!b)) m1 | _ => .stk := rfl
@[simp] theorem ev_test : dTest f ρ m = (f ρ m).bind fun d m1 => match d with | .bl b => .ok b m1 | _ => .stk := rfl
@[simp] theorem ev_and (t u : DFb) : dAnd t u ρ m = (t ρ m).bind fun b m1 => if b = true then u ρ m1 else .ok false m1 := rfl
@[simp] theorem ev_or (t u : DFb) : dOr t u ρ m = (t ρ m).bind fun b m1 => if b = true then .ok true m1 else u ρ m1 := rfl
@[simp] theorem ev_not (t : DFb) : dNot t ρ m = (t ρ m).bind fun b m1 => .ok (!b) m1 := rfl
@[simp] theorem ev_tru : dTru f ρ m = (f ρ m).bind fun d m1 => match truD d m1 with | some b => .ok b m1 | none => .stk := rfl
@[simp] theorem ev_noPt : dNoPt ρ m = .ok none m := rfl
@[simp] theorem ev_pt : dPt f ρ m = (f ρ m).bind fun d m1 => match d with | .int i => .ok (some i) m1 | _ => .stk := rfl
@[simp] theorem ev_sl (o : OSl) (l u : DPt) : dSl o f l u ρ m = (f ρ m).bind fun d m1 => (l ρ m1).bind fun lo m2 => (u ρ m2).bind fun hi m3 => o d lo hi m3 := rfl
@[simp] theorem ev_mt (c : D → Mem → Bool) (o : D → List D → Mem → R D) : dMt c o f fs ρ m = (f ρ m).bind fun d m1 => if c d m1 = true then (fs ρ m1).bind fun ds m2 => o d ds m2 else .stk := rfl
@[simp] theorem ev_mt0 (c : D → Mem → Bool) (o : D → List D → Mem → R D) : dMt0 c o f ρ m = (f ρ m).bind fun d m1 => if c d m1 = true then o d [] m1 else .stk := rfl
@[simp] theorem ev_yes : dYes ρ m = .ok true m := rfl
@[simp] theorem ev_lc (φ : DFi) (γ : D → En → Mem → R En) (t : DFb) (vs : List Nat) : dLc φ γ t f vs ρ m = (φ ρ m).bind fun s m1 => (lcF m1.length s γ t f (wipeD ρ vs) s.items (m1 ++ [.lst []])).bnd fun _ m2 => .ok (.ref m1.length) m2 := rfl
/-! statements -/
@[simp] theorem ev_seq (a b : DSt) : dSeq a b ρ m = (a ρ m).thn b := rfl
@[simp] theorem ev_next : dNext ρ m = .nx ρ m := rfl
@[simp] theorem ev_break : dBreak ρ m = .bk ρ m := rfl
@[simp] theorem ev_cont : dCont ρ m = .ct ρ m := rfl
@[simp] theorem ev_drop : dDrop f ρ m = (f ρ m).goes ρ fun _ m1 => .nx ρ m1 := rfl
@[simp] theorem ev_ret : dRet f ρ m = (f ρ m).goes ρ fun d m1 => .rt d m1 := rfl
@[simp] theorem ev_retN : dRetN ρ m = .rt .non m := rfl
@[simp] theorem ev_ifS (t : DFb) (a b : DSt) : dIfS t a b ρ m = (t ρ m).goes ρ fun c m1 => if c = true then a ρ m1 else b ρ m1 := rfl
@[simp] theorem ev_set (i : Nat) : dSet i f ρ m = (f ρ m).goes ρ fun d m1 => .nx (ρ.set i (some d)) m1 := rfl
@[simp] theorem ev_asg (γ : D → En → Mem → R En) : dAsg f γ ρ m = (f ρ m).goes ρ fun d m1 => (γ d ρ m1).only fun ρ1 m2 => .nx ρ1 m2 := rfl
@[simp] theorem ev_sub (o : O3) : dSub f fa fb o ρ m = (f ρ m).goes ρ fun d m1 => (fa ρ m1).goes ρ fun c m2 => (fb ρ m2).goes ρ fun i m3 => (o c i d m3).goes ρ fun _ m4 => .nx ρ m4 := rfl
@[simp] theorem ev_while (c : DFb) (b : DSt) : dWhile c b ρ m = whileF c b FUEL ρ m := rfl
@[simp] theorem ev_for (φ : DFi) (γ : D → En → Mem → R En) (b : DSt) : dFor φ γ b ρ m = (φ ρ m).goes ρ fun s m1 => forF s γ b s.items ρ m1 := rfl
@[simp] theorem ev_it : dIt f ρ m = (f ρ m).bind srcOf := rfl
@[simp] theorem ev_range1 : dRange1 f ρ m = (f ρ m).bind fun d m1 => match d.intOf with | some j => if smallI j = true then .ok ⟨rngD 0 1 j.toNat, none⟩ m1 else .stk | none => .stk := rfl
@[simp] theorem ev_par3 (i j l : Nat) : dPar3 i j l fs ρ m = (fs ρ m).goes ρ fun ds m1 => match ds with | [d, e, f] => .nx (((ρ.set i (some d)).set j (some e)).set l (some f)) m1 | _ => .stk := rfl
@[simp] theorem ev_par (i j : Nat) : dPar i j fs ρ m = (fs ρ m).goes ρ fun ds m1 => match ds with | [d, e] => .nx ((ρ.set i (some d)).set j (some e)) m1 | _ => .stk := rfl
@[simp] theorem ev_raise (c : Str) (fns : List Str) : dRaise c fns fs ρ m = (fs ρ m).goes ρ fun ds m1 => if ds.length = fns.length then .exn c (fns.zip ds).reverse ρ m1 else .stk := rfl
@[simp] theorem ev_intOf (i : Int) : (D.int i).intOf = some i := rfl
/-! targets -/
@[simp] theorem ev_γName (i : Nat) : γName i d ρ m = .ok (ρ.set i (some d)) m := rfl
@[simp] theorem ev_γNil : γNil [] ρ m = .ok ρ m := rfl
@[simp] theorem ev_γCons (γ : D → En → Mem → R En) (δ : γs) (ds : List D) : γCons γ δ (d :: ds) ρ m = (γ d ρ m).bind fun ρ1 m1 => δ ds ρ1 m1 := rfl
@[simp] theorem ev_γTLt (n : Nat) (δ : γs) (ds : List D) : γTL n δ (.tup ds) ρ m = if ds.length = n then δ ds ρ m else .stk := rfl
@[simp] theorem ev_γTLr (n : Nat) (δ : γs) (l : Nat) : γTL n δ (.ref l) ρ m = (match seqOf m (.ref l) with | some ds => if ds.length = n then δ ds ρ m else .stk | none => .stk) := rfl
/-! operations -/
@[simp] theorem ev_sub_i (i j : Int) : opSub (.int i) (.int j) m = .ok (.int (i - j)) m := rfl
@[simp] theorem ev_add_i (i j : Int) : opAdd (.int i) (.int j) m = .ok (.int (i + j)) m := rfl
@[simp] theorem ev_mul_i (i j : Int) : opMul (.int i) (.int j) m = if cMul i j = true then .ok (.int (i * j)) m else .stk := rfl
@[simp] theorem ev_div_i (i j : Int) : opDiv (.int i) (.int j) m = if cDiv i j = true then .ok (.int (i / j)) m else .stk := rfl
@[simp] theorem ev_mod_i (i j : Int) : opMod (.int i) (.int j) m = if cMod i j = true then .ok (.int (i % j)) m else .stk := rfl
@[simp] theorem ev_pow_i (i j : Int) : opPow (.int i) (.int j) m = if cPow i j = true then .ok (.int (i ^ j.toNat)) m else .stk := rfl
@[simp] theorem ev_neg_i (i : Int) : opNeg (.int i) m = .ok (.int (-i)) m := rfl
@[simp] theorem ev_add_t (xs ys : List D) : opAdd (.tup xs) (.tup ys) m = if xs.length + ys.length ≤ sizeLine then .ok (.tup (xs ++ ys)) m else .stk := rfl
@[simp] theorem ev_add_s (a b : Str) : opAdd (.str a) (.str b) m = if a.length + b.length ≤ sizeLine then .ok (.str (a ++ b)) m else .stk := rfl
@[simp] theorem ev_add_r (l k : Nat) : opAdd (.ref l) (.ref k) m = (match m[l]?, m[k]? with | some (.lst xs), some (.lst ys) => if xs.length + ys.length ≤ sizeLine then .ok (.ref m.length) (m ++ [.lst (xs ++ ys)]) else .stk | _, _ => .stk) := rfl
@[simp] theorem ev_lt_i (i j : Int) : opLt (.int i) (.int j) m = .ok (.bl (decide (i < j))) m := rfl
@[simp] theorem ev_le_i (i j : Int) : opLe (.int i) (.int j) m = .ok (.bl (decide (i ≤ j))) m := rfl
@[simp] theorem ev_gt_i (i j : Int) : opGt (.int i) (.int j) m = .ok (.bl (decide (j < i))) m := rfl
@[simp] theorem ev_ge_i (i j : Int) : opGe (.int i) (.int j) m = .ok (.bl (decide (j ≤ i))) m := rfl
@[simp] theorem ev_isN : opIsN d .non m = .ok (.bl (decide (d = .non))) m := rfl
@[simp] theorem ev_notN : opNotN d .non m = .ok (.bl (!decide (d = .non))) m := rfl
@[simp] theorem ev_fn1 (o : O1) : fn1 o [d] m = o d m := rfl
@[simp] theorem ev_len_t (xs : List D) : opLen (.tup xs) m = .ok (.int xs.length) m := rfl
@[simp] theorem ev_len_r (l : Nat) : opLen (.ref l) m = (match seqOf m (.ref l) with | some xs => .ok (.int xs.length) m | none => .stk) := rfl
@[simp] theorem ev_abs_i (i : Int) : opAbs (.int i) m = .ok (.int (if i < 0 then -i else i)) m := rfl
@[simp] theorem ev_int_i (i : Int) : opIntOf (.int i) m = .ok (.int i) m := rfl
@[simp] theorem ev_str_i (i : Int) : opStr (.int i) m = if i.natAbs.log2 < 1920 then .ok (.str (toString i)) m else .stk := rfl
@[simp] theorem ev_list_t (xs : List D) : opList (.tup xs) m = .ok (.ref m.length) (m ++ [.lst xs]) := rfl
@[simp] theorem ev_list_r (l : Nat) : opList (.ref l) m = (match seqOf m (.ref l) with | some xs => .ok (.ref m.length) (m ++ [.lst xs]) | none => .stk) := rfl
@[simp] theorem ev_tuple_r (l : Nat) : opTuple (.ref l) m = (match seqOf m (.ref l) with | some xs => .ok (.tup xs) m | none => .stk) := rfl
@[simp] theorem ev_ix_t (xs : List D) (i : Int) : opIxM (.tup xs) (.int i) m = (match atI xs i with | some x => .ok x m | none => .stk) := rfl
@[simp] theorem ev_seq_r (l : Nat) : seqOf m (.ref l) = (match m[l]? with | some (.lst xs) => some xs | some (.frl xs) => some xs | _ => none) := by
  cases h : m[l]? with
  | none => simp [seqOf, h]
  | some o => cases o <;> simp [seqOf, h]
theorem ev_ix_r (l : Nat) (i : Int) : opIxM (.ref l) (.int i) m = (match m[l]? with
    | some (.dct kvs) => (match lookD kvs (.int i) with | some x => .ok x m | none => .stk)
    | some (.lst xs) => (match atI xs i with | some x => .ok x m | none => .stk)
    | some (.frl xs) => (match atI xs i with | some x => .ok x m | none => .stk)
    | _ => .stk) := by
  unfold opIxM
  cases h : m[l]? with
  | none => simp [opIx, seqOf, h]
  | some o =>
    cases o with
    | lst xs => cases h2 : atI xs i <;> simp [opIx, seqOf, h, h2]
    | frl xs => cases h2 : atI xs i <;> simp [opIx, seqOf, h, h2]
    | dct xs => cases h2 : lookD xs (.int i) <;> simp [opIx, seqOf, h, h2]
    | stt xs => simp [opIx, seqOf, h]
@[simp] theorem ev_ix_l {l : Nat} {xs : List D} {i : Int} (h : m[l]? = some (.lst xs)) : opIxM (.ref l) (.int i) m = (match atI xs i with | some x => .ok x m | none => .stk) := by rw [ev_ix_r, h]
@[simp] theorem ev_append (l : Nat) : mAppend (.ref l) [d] m = (match m[l]? with | some (.lst xs) => if xs.length < sizeLine then .ok .non (m.set l (.lst (xs ++ [d]))) else .stk | _ => .stk) := rfl
@[simp] theorem ev_isLst (l : Nat) : isLst (.ref l) m = (match m[l]? with | some (.lst _) => true | _ => false) := rfl
theorem at_nat {xs : List α} {i : Nat} {x : α} (h : xs[i]? = some x) : atI xs (i : Int) = some x := by
  have hl := lt_of_get h
  unfold atI ixN
  rw [if_pos (Int.natCast_nonneg _), if_pos (by exact_mod_cast hl)]
  simp [h]
@[simp] theorem at_0 (x : α) (xs : List α) : atI (x :: xs) 0 = some x := at_nat (i := 0) rfl
@[simp] theorem at_1 (x y : α) (xs : List α) : atI (x :: y :: xs) 1 = some y := at_nat (i := 1) rfl
@[simp] theorem at_2 (x y z : α) (xs : List α) : atI (x :: y :: z :: xs) 2 = some z := at_nat (i := 2) rfl
theorem at_int {xs : List α} {i : Int} {x : α} (h0 : 0 ≤ i) (h : xs[i.toNat]? = some x) : atI xs i = some x := by
  have := at_nat h
  rwa [Int.toNat_of_nonneg h0] at this
end
end DL
/-! Loops of denotations; what stays as it was; the laws' own draws. -/
namespace DL
open PySem PySem.Spec L2
/-! ### loops -/
theorem forF_inv {s : Src} {γ : D → En → Mem → R En} {b : DSt} (Inv : List D → En → Mem → Prop) (Post : O → Prop)
    (step : ∀ d ds ρ m, Inv (d :: ds) ρ m → s.ok m = true ∧ ∃ ρ1 m1, γ d ρ m = .ok ρ1 m1 ∧ (match b ρ1 m1 with
      | .nx ρ2 m2 => Inv ds ρ2 m2
      | .ct ρ2 m2 => Inv ds ρ2 m2
      | .bk ρ2 m2 => Post (.nx ρ2 m2)
      | .rt e m2 => Post (.rt e m2)
      | .exn c fs ρ2 m2 => Post (.exn c fs ρ2 m2)
      | .stk => False))
    (fin : ∀ ρ m, Inv [] ρ m → s.ok m = true ∧ Post (.nx ρ m)) : ∀ (ds : List D) (ρ : En) (m : Mem), Inv ds ρ m → Post (forF s γ b ds ρ m)
  | [], ρ, m, h => by
    obtain ⟨h1, h2⟩ := fin ρ m h
    unfold forF
    rw [if_pos h1]; exact h2
  | d :: ds, ρ, m, h => by
    obtain ⟨h1, ρ1, m1, h2, h3⟩ := step d ds ρ m h
    unfold forF
    rw [if_pos h1, h2, ev_only]
    cases hb : b ρ1 m1 with
    | nx ρ2 m2 => rw [hb] at h3; exact forF_inv Inv Post step fin ds ρ2 m2 h3
    | ct ρ2 m2 => rw [hb] at h3; exact forF_inv Inv Post step fin ds ρ2 m2 h3
    | bk ρ2 m2 => rw [hb] at h3; exact h3
    | rt e m2 => rw [hb] at h3; exact h3
    | exn c fs ρ2 m2 => rw [hb] at h3; exact h3
    | stk => rw [hb] at h3; exact h3.elim
theorem whileF_inv {c : DFb} {b : DSt} (Inv : Nat → En → Mem → Prop) (Post : O → Prop)
    (step : ∀ k ρ m, Inv k ρ m → ∃ t m1, c ρ m = .ok t m1 ∧ (t = false → Post (.nx ρ m1)) ∧ (t = true → match b ρ m1 with
      | .nx ρ2 m2 => ∃ j, j < k ∧ Inv j ρ2 m2
      | .ct ρ2 m2 => ∃ j, j < k ∧ Inv j ρ2 m2
      | .bk ρ2 m2 => Post (.nx ρ2 m2)
      | .rt e m2 => Post (.rt e m2)
      | .exn c fs ρ2 m2 => Post (.exn c fs ρ2 m2)
      | .stk => False)) : ∀ (n k : Nat) (ρ : En) (m : Mem), k < n → Inv k ρ m → Post (whileF c b n ρ m)
  | 0, _, _, _, h, _ => absurd h (Nat.not_lt_zero _)
  | n + 1, k, ρ, m, hk, h => by
    obtain ⟨t, m1, h1, h2, h3⟩ := step k ρ m h
    unfold whileF
    rw [h1, ev_goes]
    cases t with
    | false => exact h2 rfl
    | true =>
      have h4 := h3 rfl
      rw [if_pos rfl]
      cases hb : b ρ m1 with
      | nx ρ2 m2 => rw [hb] at h4; obtain ⟨j, hj, hi⟩ := h4; exact whileF_inv Inv Post step n j ρ2 m2 (by omega) hi
      | ct ρ2 m2 => rw [hb] at h4; obtain ⟨j, hj, hi⟩ := h4; exact whileF_inv Inv Post step n j ρ2 m2 (by omega) hi
      | bk ρ2 m2 => rw [hb] at h4; exact h4
      | rt e m2 => rw [hb] at h4; exact h4
      | exn c fs ρ2 m2 => rw [hb] at h4; exact h4
      | stk => rw [hb] at h4; exact h4.elim
theorem lcF_inv {l : Nat} {s : Src} {γ : D → En → Mem → R En} {t : DFb} {f : DF} {ρw : En} (Inv : List D → Mem → Prop) (Post : Mem → Prop)
    (step : ∀ d ds m, Inv (d :: ds) m → s.ok m = true ∧ ∃ ρ1 m1 b m2, γ d ρw m = .ok ρ1 m1 ∧ t ρ1 m1 = .ok b m2 ∧ (b = false → Inv ds m2) ∧ (b = true → ∃ y m3 acc, f ρ1 m2 = .ok y m3 ∧ m3[l]? = some (.lst acc) ∧ acc.length < sizeLine ∧ Inv ds (m3.set l (.lst (acc ++ [y])))))
    (fin : ∀ m, Inv [] m → s.ok m = true ∧ Post m) : ∀ (ds : List D) (m : Mem), Inv ds m → ∃ m', lcF l s γ t f ρw ds m = .ok () m' ∧ Post m'
  | [], m, h => by
    obtain ⟨h1, h2⟩ := fin m h
    refine ⟨m, ?_, h2⟩
    unfold lcF
    rw [if_pos h1]
  | d :: ds, m, h => by
    obtain ⟨h1, ρ1, m1, b, m2, h2, h3, h4, h5⟩ := step d ds m h
    unfold lcF
    rw [if_pos h1, h2, ev_bnd, h3, ev_bnd]
    cases b with
    | false => exact lcF_inv Inv Post step fin ds m2 (h4 rfl)
    | true =>
      obtain ⟨y, m3, acc, e1, e2, e3, e4⟩ := h5 rfl
      rw [if_pos rfl, e1, ev_bnd, e2]
      show ∃ m', (if acc.length < sizeLine then lcF l s γ t f ρw ds (m3.set l (.lst (acc ++ [y]))) else .stk) = .ok () m' ∧ Post m'
      rw [if_pos e3]
      exact lcF_inv Inv Post step fin ds _ e4
/-! ### what stays -/
structure Frm (ls : List Nat) (m m' : Mem) : Prop where
  le : m.length ≤ m'.length
  old : ∀ i, i < m.length → i ∉ ls → m'[i]? = m[i]?
theorem Frm.refl {ls : List Nat} {m : Mem} : Frm ls m m := ⟨Nat.le_refl _, fun _ _ _ => rfl⟩
theorem Frm.trans {ls : List Nat} {m m' m'' : Mem} (a : Frm ls m m') (b : Frm ls m' m'') : Frm ls m m'' := ⟨Nat.le_trans a.le b.le, fun i h n => (b.old i (Nat.lt_of_lt_of_le h a.le) n).trans (a.old i h n)⟩
theorem Frm.mono {ls ks : List Nat} {m m' : Mem} (a : Frm ls m m') (h : ∀ i ∈ ls, i ∈ ks) : Frm ks m m' := ⟨a.le, fun i hi n => a.old i hi fun z => n (h i z)⟩
theorem Frm.app {ls : List Nat} {m t : Mem} : Frm ls m (m ++ t) := ⟨by simp, fun i h _ => List.getElem?_append_left h⟩
theorem Frm.set {ls : List Nat} {m m' : Mem} {l : Nat} {o : MO} (a : Frm ls m m') (h : l ∈ ls ∨ m.length ≤ l) : Frm ls m (m'.set l o) := ⟨by rw [List.length_set]; exact a.le, fun i hi n => by
  rw [List.getElem?_set_ne, a.old i hi n]
  rcases h with h | h
  · exact fun z => n (z ▸ h)
  · omega⟩
theorem Frm.more {ls : List Nat} {m m' : Mem} {t : Mem} (a : Frm ls m m') : Frm ls m (m' ++ t) := a.trans Frm.app
theorem Frm.get {ls : List Nat} {m m' : Mem} (a : Frm ls m m') {i : Nat} {o : MO} (h : m[i]? = some o) (n : i ∉ ls) : m'[i]? = some o := (a.old i (lt_of_get h) n).trans h
theorem Frm.drop {ls : List Nat} {l : Nat} {m m' : Mem} (a : Frm (l :: ls) m m') (h : m.length ≤ l) : Frm ls m m' := ⟨a.le, fun i hi n => a.old i hi fun z => by
  rcases List.mem_cons.mp z with e | e
  · omega
  · exact n e⟩
theorem get_new {m : Mem} {o : MO} : (m ++ [o])[m.length]? = some o := by simp
theorem get_old {m t : Mem} {i : Nat} {o : MO} (h : m[i]? = some o) : (m ++ t)[i]? = some o := by rw [List.getElem?_append_left (lt_of_get h)]; exact h
theorem get_set {m : Mem} {i : Nat} {o o' : MO} (h : m[i]? = some o) : (m.set i o')[i]? = some o' := List.getElem?_set_self (lt_of_get h)
theorem get_set_ne {m : Mem} {i j : Nat} {o o' : MO} (h : m[i]? = some o) (n : j ≠ i) : (m.set j o')[i]? = some o := by rw [List.getElem?_set_ne n]; exact h
/-! ### the draws -/
/-- a state of draws at l, its pool at p -/
def Drw (m : Mem) (l p : Nat) : Prop := ∃ (mix k : Int) (pool : List Int), m[l]? = some (.lst [.ref p, .int mix, .int k]) ∧ 0 ≤ mix ∧ mix < 4294967296 ∧ 0 ≤ k ∧ m[p]? = some (.lst (pool.map .int))
theorem Drw.ne {m : Mem} {l p : Nat} (h : Drw m l p) : l ≠ p := by
  obtain ⟨mix, k, pool, h1, _, _, _, h2⟩ := h
  intro e
  subst e
  rw [h1] at h2
  cases pool with
  | nil => simp at h2
  | cons => simp at h2
theorem Drw.frm {ls : List Nat} {m m' : Mem} {l p : Nat} (h : Drw m l p) (a : Frm ls m m') (n1 : l ∉ ls) (n2 : p ∉ ls) : Drw m' l p := by
  obtain ⟨mix, k, pool, h1, a1, a2, a3, h2⟩ := h
  exact ⟨mix, k, pool, a.get h1 n1, a1, a2, a3, a.get h2 n2⟩
def nextG (a b c d e f g : Int) : DSt := (dSeq (dIfS (dTest (dBin opLt (dBin opIxM (dVar 0) (dC (.int 2))) (dCall (fn1 opLen) (dCons (dBin opIxM (dVar 0) (dC (.int 0))) dNil)))) (dSeq (dSet 2 (dBin opIxM (dBin opIxM (dVar 0) (dC (.int 0))) (dBin opIxM (dVar 0) (dC (.int 2)))))
  (dSeq (dSub (dBin opAdd (dBin opIxM (dVar 0) (dC (.int 2))) (dC (.int 1))) (dVar 0) (dC (.int 2)) opSetM)
  (dRet (dBin opMod (dCall (fn1 opIntOf) (dCons (dVar 2) dNil)) (dVar 1))))) dNext)
  (dSeq (dSub (dBin opMod (dCall (fn1 opIntOf) (dCons (dBin opAdd (dBin opMul (dBin opIxM (dVar 0) (dC (.int 1))) (dC (.int a))) (dC (.int b))) dNil)) (dC (.int c))) (dVar 0) (dC (.int 1)) opSetM)
  (dSeq (dSet 2 (dBin opMod (dCall (fn1 opIntOf) (dCons (dBin opMul (dBin opIxM (dVar 0) (dC (.int 1))) (dBin opAdd (dBin opDiv (dBin opIxM (dVar 0) (dC (.int 1))) (dC (.int d))) (dC (.int e)))) dNil)) (dC (.int f))))
  (dRet (dBin opMod (dCall (fn1 opIntOf) (dCons (dBin opDiv (dVar 2) (dC (.int g))) dNil)) (dVar 1))))))
theorem log_lt {i : Int} {n : Nat} (h0 : 0 ≤ i) (h : i < 2 ^ n) (hn : 0 < n) : i.natAbs.log2 < n := by
  by_cases hz : i.natAbs = 0
  · rw [hz]; simpa using hn
  · rw [Nat.log2_lt hz]
    have : (i.natAbs : Int) < 2 ^ n := by rw [Int.natAbs_of_nonneg h0]; exact h
    exact_mod_cast this
theorem mul_ok {i j : Int} (h0 : 0 ≤ i) (h : i < 2 ^ 100) (g0 : 0 ≤ j) (g : j < 2 ^ 100) : cMul i j = true := by
  unfold cMul
  have := log_lt h0 h (by decide)
  have := log_lt g0 g (by decide)
  exact decide_eq_true (by omega)
theorem div_ok {i j : Int} (g0 : 0 < j) (g : j < 2 ^ 100) : cDiv i j = true := by
  unfold cDiv
  have := log_lt (Int.le_of_lt g0) g (by decide)
  exact decide_eq_true ⟨g0, by omega⟩
theorem mod_ok {i j : Int} (g0 : 0 < j) : cMod i j = true := decide_eq_true g0
@[simp] theorem ev_set_l {m : Mem} {l : Nat} {xs : List D} {i : Int} {v : D} (h : m[l]? = some (.lst xs)) : opSetM (.ref l) (.int i) v m = (match ixN xs.length i with | some j => .ok () (m.set l (.lst (xs.set j v))) | none => .stk) := by
  cases h2 : ixN xs.length i <;> simp [opSetM, opSet, h, h2]
theorem ixN_nat {n i : Nat} (h : i < n) : ixN n (i : Int) = some i := by
  unfold ixN
  rw [if_pos (Int.natCast_nonneg _), if_pos (by exact_mod_cast h), Int.toNat_natCast]
theorem ixN_1 {n : Nat} (h : 1 < n) : ixN n 1 = some 1 := ixN_nat (i := 1) h
theorem ixN_2 {n : Nat} (h : 2 < n) : ixN n 2 = some 2 := ixN_nat (i := 2) h
theorem next_ok {a b c d e f g : Int} (ha : 0 ≤ a ∧ a < 2 ^ 40) (hb : 0 ≤ b ∧ b < 2 ^ 40) (hc : 0 < c ∧ c < 4294967296) (hd : 0 < d ∧ d < 2 ^ 40) (he : 0 ≤ e ∧ e < 2 ^ 40) (hf : 0 < f ∧ f < 2 ^ 40) (hg : 0 < g ∧ g < 2 ^ 40) {m : Mem} {l p : Nat} {many : Int} (h : Drw m l p) (hm : 0 < many) :
    ∃ j m', runB 2 3 (nextG a b c d e f g) [.ref l, .int many] m = .ok (.int j) m' ∧ 0 ≤ j ∧ j < many ∧ Frm [l] m m' ∧ Drw m' l p ∧ m'.length = m.length := by
  have hne := h.ne
  obtain ⟨mix, k, pool, h1, a1, a2, a3, h2⟩ := h
  have e1 := fun i => @mod_ok i many hm
  have e2 := fun i => @mod_ok i c hc.1
  have e3 := fun i => @mod_ok i f hf.1
  by_cases hk : k < pool.length
  · obtain ⟨n, rfl⟩ : ∃ n : Nat, k = n := ⟨k.toNat, (Int.toNat_of_nonneg a3).symm⟩
    have hn : n < pool.length := by exact_mod_cast hk
    have ep : atI (pool.map D.int) (n : Int) = some (.int pool[n]) := at_nat (by simp [hn])
    refine ⟨pool[n] % many, m.set l (.lst [.ref p, .int mix, .int (n + 1)]), ?_, Int.emod_nonneg _ (by omega), Int.emod_lt_of_pos _ hm, Frm.refl.set (.inl (by simp)), ⟨mix, n + 1, pool, get_set h1, a1, a2, by omega, get_set_ne h2 hne⟩, by simp⟩
    simp [runB, nextG, envD, h1, h2, hk, hn, ep, ixN_2, e1]
  · have q1 : 0 ≤ (mix * a + b) % c := Int.emod_nonneg _ (by omega)
    have q2 : (mix * a + b) % c < c := Int.emod_lt_of_pos _ hc.1
    have c1 : cMul mix a = true := mul_ok a1 (by omega) ha.1 (by omega)
    have q3 : 0 ≤ (mix * a + b) % c / d := Int.ediv_nonneg q1 (by omega)
    have q4 : (mix * a + b) % c / d ≤ (mix * a + b) % c := Int.ediv_le_self _ q1
    have c2 : cMul ((mix * a + b) % c) ((mix * a + b) % c / d + e) = true := mul_ok q1 (by omega) (by omega) (by omega)
    have c3 := fun i => @div_ok i d hd.1 (by omega)
    have c4 := fun i => @div_ok i g hg.1 (by omega)
    refine ⟨(((mix * a + b) % c * ((mix * a + b) % c / d + e)) % f / g) % many, m.set l (.lst [.ref p, .int ((mix * a + b) % c), .int k]), ?_, Int.emod_nonneg _ (by omega), Int.emod_lt_of_pos _ hm, Frm.refl.set (.inl (by simp)), ⟨(mix * a + b) % c, k, pool, get_set h1, q1, by omega, a3, get_set_ne h2 hne⟩, by simp⟩
    have h3 : (m.set l (.lst [.ref p, .int ((mix * a + b) % c), .int k]))[l]? = some (.lst [.ref p, .int ((mix * a + b) % c), .int k]) := get_set h1
    simp [runB, nextG, envD, h1, h2, hk, ixN_1, e1, e2, e3, c1, c2, c3, c4, h3]
end DL
/-! The laws' own start. -/
namespace DL
open PySem PySem.Spec L2
def startIn (q : Int) : DSt := (dSeq (dIfS (dTest (dBin opEq (dVar 4) (dC (.int 0)))) dBreak dNext)
  (dSeq (dDrop (dMt isLst mAppend (dVar 2) (dCons (dBin opMod (dCall (fn1 opIntOf) (dCons (dVar 4) dNil)) (dC (.int q))) dNil)))
  (dSet 4 (dBin opDiv (dVar 4) (dC (.int q))))))
def startOut (a c d e q : Int) : DSt := (dSeq (dSet 4 (dCall (fn1 opAbs) (dCons (dCall (fn1 opIntOf) (dCons (dVar 3) dNil)) dNil)))
  (dSeq (dSet 1 (dBin opMod (dCall (fn1 opIntOf) (dCons (dBin opAdd (dBin opAdd (dBin opMul (dVar 1) (dC (.int a))) (dBin opMod (dCall (fn1 opIntOf) (dCons (dVar 4) dNil)) (dC (.int c)))) (dC (.int d))) dNil)) (dC (.int e))))
  (dIfS (dTest (dBin opGe (dVar 4) (dBin opPow (dC (.int 10)) (dC (.int 18))))) (dFor (dRange1 (dC (.int 60))) (γName 5) (startIn q)) dNext)))
def startG (x a c d e q : Int) : DSt := (dSeq (dSet 1 (dC (.int x)))
  (dSeq (dSet 2 (dLst dNil))
  (dSeq (dFor (dIt (dSl opSl (dVar 0) dNoPt (dPt (dC (.int 63))))) (γName 3) (startOut a c d e q))
  (dRet (dLst (dCons (dVar 2) (dCons (dVar 1) (dCons (dC (.int 0)) dNil))))))))
/-! equality of data at D -/
mutual
theorem okS_py : ∀ d : D, d.okS = true → ∃ p, d.py = some p ∧ p.canLay0 = true ∧ p.depth = d.dep
  | .non, _ => ⟨_, rfl, rfl, rfl⟩
  | .int i, _ => ⟨_, rfl, rfl, rfl⟩
  | .str x, h => ⟨_, rfl, h, rfl⟩
  | .tup xs, h => by
    obtain ⟨ps, e, c, dd⟩ := okSs_py xs h
    exact ⟨.tuple ps, by simp only [D.py, e, Option.map_some], c, by simp only [PyData.depth, D.dep, dd]⟩
  | .bl _, h => by cases h
  | .ref _, h => by cases h
theorem okSs_py : ∀ ds : List D, D.okSs ds = true → ∃ ps, D.pys ds = some ps ∧ PyData.canLayAll0 ps = true ∧ PyData.depthAll ps = D.deps ds
  | [], _ => ⟨[], rfl, rfl, rfl⟩
  | d :: ds, h => by
    obtain ⟨h1, h2⟩ := okSs_cons h
    obtain ⟨p, e, c, dd⟩ := okS_py d h1
    obtain ⟨ps, e2, c2, dd2⟩ := okSs_py ds h2
    exact ⟨p :: ps, by simp only [D.pys, e, e2], by simp only [PyData.canLayAll0, c, c2, Bool.and_self], by simp only [PyData.depthAll, D.deps, dd, dd2]⟩
end
theorem ok_noref {d : D} (h : d.okS = true) (m : Mem) : seqOf m d = none := by cases d <;> first | rfl | cases h
theorem eqB_ok {neg : Bool} {x y : D} {m : Mem} (hx : x.okS = true) (hy : y.okS = true) (dx : x.dep ≤ 64) (dy : y.dep ≤ 64) : opEqB neg x y m = .ok (.bl (decide (x = y) != neg)) m := by
  obtain ⟨p, e1, c1, d1⟩ := okS_py x hx
  obtain ⟨q, e2, c2, d2⟩ := okS_py y hy
  unfold opEqB pyM
  rw [ok_noref hx, ok_noref hy]
  simp only [e1, e2]
  have s1 : SeqAt.shaped p = true := by simp [SeqAt.shaped, c1, d1, dx]
  have s2 : SeqAt.shaped q = true := by simp [SeqAt.shaped, c2, d2, dy]
  rw [s1, s2, py_eqv x y p q hx hy e1 e2]
  rfl
@[simp] theorem ev_eq_i (i j : Int) (m : Mem) : opEqB false (.int i) (.int j) m = .ok (.bl (decide (i = j))) m := by rw [eqB_ok rfl rfl (Nat.zero_le _) (Nat.zero_le _)]; simp
@[simp] theorem ev_ne_i (i j : Int) (m : Mem) : opEqB true (.int i) (.int j) m = .ok (.bl (!decide (i = j))) m := by rw [eqB_ok rfl rfl (Nat.zero_le _) (Nat.zero_le _)]; simp
theorem sz63 {n : Nat} (h : n < 100000) : n < sizeLine := Nat.lt_of_lt_of_le h (by decide)
theorem sz_le {n : Nat} (h : n ≤ 100000) : n ≤ sizeLine := Nat.le_trans h (by decide)
theorem rngD_len (lo c : Int) (k : Nat) : (rngD lo c k).length = k := by simp [rngD]
@[simp] theorem sz_0 : 0 ≤ sizeLine := Nat.zero_le _
@[simp] theorem sz_1 : 1 ≤ sizeLine := by decide
@[simp] theorem sz_2 : 2 ≤ sizeLine := by decide
@[simp] theorem sz_3 : 3 ≤ sizeLine := by decide
@[simp] theorem sz_4 : 4 ≤ sizeLine := by decide
section
variable {x a c d e q : Int}
/-- the inner loop -/
theorem start_in (hq : 1 < q ∧ q < 2 ^ 40) {mix : Int} {x3 x5 : Option D} {items : List D} : ∀ (ds : List D) (sz : Int) (pool : List Int) (y5 : Option D) (m : Mem), 0 ≤ sz → m[1]? = some (.lst (pool.map .int)) → m[2]? = some (.lst items) → m.length = 3 → pool.length + ds.length ≤ 50000 →
    ∃ (sz' : Int) (pool' : List Int) (z5 : Option D) (m' : Mem), forF ⟨rngD 0 1 60, none⟩ (γName 5) (startIn q) ds [some (.ref 0), some (.int mix), some (.ref 1), x3, some (.int sz), y5] m = .nx [some (.ref 0), some (.int mix), some (.ref 1), x3, some (.int sz'), z5] m' ∧
      m'[1]? = some (.lst (pool'.map .int)) ∧ m'[2]? = some (.lst items) ∧ m'.length = 3 ∧ pool'.length ≤ pool.length + ds.length
  | [], sz, pool, y5, m, h0, h1, h2, h3, h4 => ⟨sz, pool, y5, m, by simp [forF, Src.ok], h1, h2, h3, by simp⟩
  | dd :: ds, sz, pool, y5, m, h0, h1, h2, h3, h4 => by
    have e1 := fun i => @mod_ok i q (by omega)
    have e2 := fun i => @div_ok i q (by omega) (by omega)
    by_cases hz : sz = 0
    · subst hz
      exact ⟨0, pool, some dd, m, by simp [forF, Src.ok, startIn], h1, h2, h3, by omega⟩
    · have hl : (pool.map D.int).length < sizeLine := sz63 (by simp at h4 ⊢; omega)
      have hl' : pool.length < sizeLine := by simpa using hl
      obtain ⟨sz', pool', z5, m', e3, k1, k2, k3, k4⟩ := start_in hq (mix := mix) (x3 := x3) (x5 := x5) (items := items) ds (sz / q) (pool ++ [sz % q]) (some dd) (m.set 1 (.lst (pool.map D.int ++ [.int (sz % q)]))) (Int.ediv_nonneg h0 (by omega)) (by rw [get_set h1]; simp) (get_set_ne h2 (by decide)) (by simpa using h3) (by simp at h4 ⊢; omega)
      refine ⟨sz', pool', z5, m', ?_, k1, k2, k3, by simp at k4 ⊢; omega⟩
      rw [← e3]
      simp [forF, Src.ok, startIn, hz, h1, e1, e2, hl']
theorem start_out (ha : 0 ≤ a ∧ a < 2 ^ 40) (hc : 0 < c ∧ c < 2 ^ 40) (hd : 0 ≤ d ∧ d < 2 ^ 40) (he : 0 < e ∧ e < 4294967296) (hq : 1 < q ∧ q < 2 ^ 40) {items : List D} : ∀ (ds : List D) (mix : Int) (pool : List Int) (y3 y4 y5 : Option D) (m : Mem), (∀ z ∈ ds, ∃ i, z = D.int i) → 0 ≤ mix → mix < 4294967296 →
    m[1]? = some (.lst (pool.map .int)) → m[2]? = some (.lst items) → m.length = 3 → pool.length + 60 * ds.length ≤ 40000 →
    ∃ (mix' : Int) (pool' : List Int) (z3 z4 z5 : Option D) (m' : Mem), forF ⟨items, some (2, .lst items)⟩ (γName 3) (startOut a c d e q) ds [some (.ref 0), some (.int mix), some (.ref 1), y3, y4, y5] m = .nx [some (.ref 0), some (.int mix'), some (.ref 1), z3, z4, z5] m' ∧
      m'[1]? = some (.lst (pool'.map .int)) ∧ m'.length = 3 ∧ 0 ≤ mix' ∧ mix' < 4294967296
  | [], mix, pool, y3, y4, y5, m, hi, h0, h0', h1, h2, h3, h4 => ⟨mix, pool, y3, y4, y5, m, by simp [forF, Src.ok, h2], h1, h3, h0, h0'⟩
  | dd :: ds, mix, pool, y3, y4, y5, m, hi, h0, h0', h1, h2, h3, h4 => by
    obtain ⟨i, rfl⟩ := hi dd List.mem_cons_self
    have e1 := fun i => @mod_ok i c hc.1
    have e2 := fun i => @mod_ok i e he.1
    have c1 : cMul mix a = true := mul_ok h0 (by omega) ha.1 (by omega)
    have c2 : cPow 10 18 = true := by decide
    have abs0 : 0 ≤ (if i < 0 then -i else i) := by split <;> omega
    have s60 : smallI 60 = true := by decide
    have q1 : ∀ z : Int, 0 ≤ z % e := fun z => Int.emod_nonneg _ (by omega)
    have q2 : ∀ z : Int, z % e < e := fun z => Int.emod_lt_of_pos _ he.1
    simp only [List.length_cons] at h4
    by_cases hb : (1000000000000000000 : Int) ≤ (if i < 0 then -i else i)
    · obtain ⟨sz', pool', z5, m', e3, k1, k2, k3, k4⟩ := start_in hq (mix := (mix * a + (if i < 0 then -i else i) % c + d) % e) (x3 := some (D.int i)) (x5 := none) (items := items) (rngD 0 1 60) (if i < 0 then -i else i) pool y5 m abs0 h1 h2 h3 (by rw [rngD_len]; omega)
      rw [rngD_len] at k4
      obtain ⟨mix2, pool2, w3, w4, w5, m2, e4, j1, j2, j3, j4⟩ := start_out ha hc hd he hq (items := items) ds ((mix * a + (if i < 0 then -i else i) % c + d) % e) pool' (some (D.int i)) (some (.int sz')) z5 m' (fun z hz => hi z (List.mem_cons_of_mem _ hz)) (q1 _) (Int.lt_trans (q2 _) he.2) k1 k2 k3 (by omega)
      refine ⟨mix2, pool2, w3, w4, w5, m2, ?_, j1, j2, j3, j4⟩
      rw [← e4]
      simp [forF, Src.ok, h2, startOut, c1, c2, e1, e2, hb, s60, e3]
    · obtain ⟨mix2, pool2, w3, w4, w5, m2, e4, j1, j2, j3, j4⟩ := start_out ha hc hd he hq (items := items) ds ((mix * a + (if i < 0 then -i else i) % c + d) % e) pool (some (D.int i)) (some (.int (if i < 0 then -i else i))) y5 m (fun z hz => hi z (List.mem_cons_of_mem _ hz)) (q1 _) (Int.lt_trans (q2 _) he.2) h1 h2 h3 (by omega)
      refine ⟨mix2, pool2, w3, w4, w5, m2, ?_, j1, j2, j3, j4⟩
      rw [← e4]
      simp [forF, Src.ok, h2, startOut, c1, c2, e1, e2, hb]
theorem start_ok (hx : 0 ≤ x ∧ x < 2 ^ 31) (ha : 0 ≤ a ∧ a < 2 ^ 40) (hc : 0 < c ∧ c < 2 ^ 40) (hd : 0 ≤ d ∧ d < 2 ^ 40) (he : 0 < e ∧ e < 4294967296) (hq : 1 < q ∧ q < 2 ^ 40) {ns : List Int} {o : MO} (ho : o = .lst (ns.map .int) ∨ o = .frl (ns.map .int)) (hl : ns.length ≤ 63) :
    ∃ l p m', runB 1 6 (startG x a c d e q) [.ref 0] [o] = .ok (.ref l) m' ∧ Drw m' l p := by
  have hitems : ∀ z ∈ cutD (ns.map D.int) none (some 63), ∃ i, z = D.int i := fun z hz => by
    have := List.mem_of_mem_take hz
    have := List.mem_of_mem_drop this
    obtain ⟨i, _, rfl⟩ := List.mem_map.mp this
    exact ⟨i, rfl⟩
  have hlen : (cutD (ns.map D.int) none (some 63)).length ≤ 63 := by
    have : (cutD (ns.map D.int) none (some 63)).length ≤ (ns.map D.int).length := by
      unfold cutD
      rw [List.length_take, List.length_drop]
      omega
    rw [List.length_map] at this
    omega
  obtain ⟨mix', pool', z3, z4, z5, m', e1, h1, h2, h3, h4⟩ := start_out ha hc hd he hq (items := cutD (ns.map D.int) none (some 63)) (cutD (ns.map D.int) none (some 63)) x [] none none none [o, .lst [], .lst (cutD (ns.map D.int) none (some 63))] hitems hx.1 (by omega) rfl rfl rfl (by simp; omega)
  have e2 : opSl (.ref 0) none (some 63) [o, .lst []] = .ok (.ref 2) [o, .lst [], .lst (cutD (ns.map D.int) none (some 63))] := by
    rcases ho with rfl | rfl <;> simp [opSl]
  refine ⟨3, 1, m' ++ [.lst [.ref 1, .int mix', .int 0]], ?_, mix', 0, pool', by rw [← h2]; exact get_new, h3, h4, Int.le_refl _, get_old h1⟩
  simp [runB, startG, envD, e2, srcOf, e1, h2]
end
end DL
/-! The laws' own comparing (with a stack), where both sides are the same. -/
namespace DL
open PySem PySem.Spec L2
def pushG : DSt := (dDrop (dMt isLst mAppend (dVar 2) (dCons (dTup (dCons (dBin opIxM (dVar 4) (dVar 6)) (dCons (dBin opIxM (dVar 5) (dVar 6)) dNil))) dNil)))
def sameC : DSt := (dIfS (dTru (dUn (opIsi "tuple") (dVar 5))) (dSeq (dIfS (dOr (dNot (dTru (dUn (opIsi "tuple") (dVar 4)))) (dTest (dBin opNe (dCall (fn1 opLen) (dCons (dVar 4) dNil)) (dCall (fn1 opLen) (dCons (dVar 5) dNil))))) (dRet (dC (.bl false))) dNext)
  (dFor (dRange1 (dCall (fn1 opLen) (dCons (dVar 5) dNil))) (γName 6) pushG)) (dIfS (dTru (dUn (opIsi "list") (dVar 5))) (dSeq (dIfS (dOr (dNot (dTru (dUn (opIsi "list") (dVar 4)))) (dTest (dBin opNe (dCall (fn1 opLen) (dCons (dVar 4) dNil)) (dCall (fn1 opLen) (dCons (dVar 5) dNil))))) (dRet (dC (.bl false))) dNext)
  (dFor (dRange1 (dCall (fn1 opLen) (dCons (dVar 5) dNil))) (γName 6) pushG)) (dIfS (dTest (dBin opIsN (dVar 5) (dC .non))) (dIfS (dTest (dBin opNotN (dVar 4) (dC .non))) (dRet (dC (.bl false))) dNext) (dIfS (dTru (dUn (opIsi "bool") (dVar 5))) (dIfS (dOr (dNot (dTru (dUn (opIsi "bool") (dVar 4)))) (dTest (dBin opNe (dVar 4) (dVar 5)))) (dRet (dC (.bl false))) dNext) (dIfS (dTru (dUn (opIsi "str") (dVar 5))) (dIfS (dOr (dNot (dTru (dUn (opIsi "str") (dVar 4)))) (dTest (dBin opNe (dVar 4) (dVar 5)))) (dRet (dC (.bl false))) dNext) (dIfS (dOr (dTru (dUn (opIsi "bool") (dVar 4))) (dOr (dNot (dTru (dUn (opIsi "int") (dVar 4)))) (dTest (dBin opNe (dVar 4) (dVar 5))))) (dRet (dC (.bl false))) dNext))))))
def sameB : DSt := (dSeq (dIfS (dTest (dBin opEq (dCall (fn1 opLen) (dCons (dVar 2) dNil)) (dC (.int 0)))) (dRet (dC (.bl true))) dNext)
  (dSeq (dAsg (dMt0 isLst mPop (dVar 2)) (γTL 2 (γCons (γName 4) (γCons (γName 5) γNil)))) sameC))
def sameG : DSt := (dSeq (dSet 2 (dLst (dCons (dTup (dCons (dVar 0) (dCons (dVar 1) dNil))) dNil)))
  (dSeq (dFor (dRange1 (dC (.int 200000))) (γName 3) sameB)
  (dRet (dC (.bl false)))))
/-- pairs that are the same, the top one first; how many turns they take -/
inductive SameP (m : Mem) : List (D × D) → Nat → Prop where
  | nil : SameP m [] 0
  | one {d ps n} : d.isT = false → d.okS = true → SameP m ps n → SameP m ((d, d) :: ps) (n + 1)
  | bl {b ps n} : SameP m ps n → SameP m ((.bl b, .bl b) :: ps) (n + 1)
  | tup {xs ys ps n} : xs.length = ys.length → SameP m ((xs.zip ys).reverse ++ ps) n → SameP m ((.tup xs, .tup ys) :: ps) (n + 1)
  | lst {l k xs ys ps n} : m[l]? = some (.lst xs) → m[k]? = some (.lst ys) → xs.length = ys.length → SameP m ((xs.zip ys).reverse ++ ps) n → SameP m ((.ref l, .ref k) :: ps) (n + 1)
mutual
def D.nodes : D → Nat
  | .tup xs => D.nodesAll xs + 1
  | _ => 1
def D.nodesAll : List D → Nat
  | [] => 0
  | d :: ds => D.nodes d + D.nodesAll ds
end
theorem okS_dep0 {d : D} (h : d.isT = false) : d.dep ≤ 64 := by cases d <;> first | exact Nat.zero_le _ | cases h
theorem zip_self {xs : List D} : xs.zip xs = xs.map fun d => (d, d) := by
  induction xs with
  | nil => rfl
  | cons x xs ih => simp [ih]
mutual
theorem same_d {m : Mem} : ∀ (d : D) (ps : List (D × D)) (n : Nat), d.okS = true → SameP m ps n → SameP m ((d, d) :: ps) (n + d.nodes)
  | .non, ps, n, o, h => .one rfl o h
  | .int i, ps, n, o, h => .one rfl o h
  | .str x, ps, n, o, h => .one rfl o h
  | .tup xs, ps, n, o, h => by
    have := same_ds xs ps n o h
    refine .tup rfl ?_
    rw [zip_self, ← List.map_reverse]
    exact this
  | .bl _, _, _, o, _ => by cases o
  | .ref _, _, _, o, _ => by cases o
theorem same_ds {m : Mem} : ∀ (ds : List D) (ps : List (D × D)) (n : Nat), D.okSs ds = true → SameP m ps n → SameP m ((ds.reverse.map fun d => (d, d)) ++ ps) (n + D.nodesAll ds)
  | [], ps, n, o, h => h
  | d :: ds, ps, n, o, h => by
    obtain ⟨o1, o2⟩ := okSs_cons o
    have h1 := same_d d ps n o1 h
    have h2 := same_ds ds _ _ o2 h1
    rw [List.reverse_cons, List.map_append, List.append_assoc]
    simp only [D.nodesAll]
    rw [← Nat.add_assoc]
    exact h2
end
def prD (p : D × D) : D := .tup [p.1, p.2]
@[simp] theorem ev_tru_b (b : Bool) (m : Mem) : truD (.bl b) m = some b := rfl
@[simp] theorem ev_pop (l : Nat) (m : Mem) : mPop (.ref l) [] m = (match m[l]? with | some (.lst xs) => (match xs[xs.length - 1]? with | some y => .ok y (m.set l (.lst xs.dropLast)) | none => .stk) | _ => .stk) := rfl
/-- the pairs of two rows put on the stack -/
theorem push_ok {l : Nat} {ρ4 ρ5 : D} {xs ys : List D} {m0 : Mem} (get4 : ∀ (m : Mem) (i : Nat) (x : D), Frm [l] m0 m → xs[i]? = some x → opIxM ρ4 (.int (i : Nat)) m = .ok x m) (get5 : ∀ (m : Mem) (i : Nat) (x : D), Frm [l] m0 m → ys[i]? = some x → opIxM ρ5 (.int (i : Nat)) m = .ok x m) (hl : xs.length = ys.length) {x0 x1 x3 : Option D} {s : Src} (hs : s.lk = none) :
    ∀ (k i : Nat) (y6 : Option D) (st : List D) (m : Mem), i + k = ys.length → Frm [l] m0 m → m[l]? = some (.lst st) → st.length + k < sizeLine →
      ∃ z6 m', forF s (γName 6) pushG ((List.range' i k).map fun j => .int (j : Nat)) [x0, x1, some (.ref l), x3, some ρ4, some ρ5, y6] m = .nx [x0, x1, some (.ref l), x3, some ρ4, some ρ5, z6] m' ∧ Frm [l] m0 m' ∧ m'[l]? = some (.lst (st ++ ((xs.zip ys).drop i).map prD))
  | 0, i, y6, st, m, h, hf, hm, hz => by
    refine ⟨y6, m, by simp [forF, Src.ok, hs], hf, ?_⟩
    rw [List.drop_of_length_le (by simp; omega)]
    simpa using hm
  | k + 1, i, y6, st, m, h, hf, hm, hz => by
    have hi : i < ys.length := by omega
    have hi' : i < xs.length := by omega
    have e4 := get4 m i xs[i] hf (List.getElem?_eq_getElem hi')
    have e5 := get5 m i ys[i] hf (List.getElem?_eq_getElem hi)
    have hzz : st.length < sizeLine := by omega
    obtain ⟨z6, m', e1, h1, h2⟩ := push_ok get4 get5 hl (x0 := x0) (x1 := x1) (x3 := x3) hs k (i + 1) (some (.int i)) (st ++ [.tup [xs[i], ys[i]]]) (m.set l (.lst (st ++ [.tup [xs[i], ys[i]]]))) (by omega) (hf.set (.inl (by simp))) (get_set hm) (by simp; omega)
    refine ⟨z6, m', ?_, h1, ?_⟩
    · rw [← e1, List.range'_succ, List.map_cons]
      simp [forF, Src.ok, hs, pushG, e4, e5, hm, hzz]
    · have hzl : i < (xs.zip ys).length := by rw [List.length_zip, hl, Nat.min_self]; exact hi
      rw [h2, List.drop_eq_getElem_cons hzl, List.map_cons, List.append_assoc, List.singleton_append]
      simp only [prD, List.getElem_zip]
theorem Frm.put {M m m2 : Mem} {o : MO} (a : Frm [] M m) (b : Frm [M.length] (m.set M.length o) m2) : Frm [] M m2 :=
  ⟨Nat.le_trans a.le (by have := b.le; rwa [List.length_set] at this), fun i hi _ => by
    have ne : M.length ≠ i := by omega
    rw [b.old i (by rw [List.length_set]; exact Nat.lt_of_lt_of_le hi a.le) (by simp; omega), List.getElem?_set_ne ne]
    exact a.old i hi (by simp)⟩
theorem rngD_range' (k : Nat) : rngD 0 1 k = (List.range' 0 k).map fun j => .int (j : Nat) := by
  unfold rngD
  rw [List.range_eq_range']
  apply List.map_congr_left
  intro i _
  simp
theorem small_len {n : Nat} (h : n < 1000000) : smallI (n : Int) = true := by
  unfold smallI
  exact decide_eq_true ⟨by omega, by omega⟩
theorem sameP_get {m m' : Mem} {ps : List (D × D)} {n : Nat} (h : SameP m ps n) (k : ∀ (i : Nat) (xs : List D), m[i]? = some (MO.lst xs) → m'[i]? = some (MO.lst xs)) : SameP m' ps n := by
  induction h with
  | nil => exact .nil
  | one a b _ ih => exact .one a b ih
  | bl _ ih => exact .bl ih
  | tup a _ ih => exact .tup a ih
  | lst a b c _ ih => exact .lst (k _ _ a) (k _ _ b) c ih
theorem sameP_len {m : Mem} {ps : List (D × D)} {n : Nat} (h : SameP m ps n) : ps.length ≤ n := by
  induction h with
  | nil => exact Nat.le_refl _
  | one _ _ _ ih => simp; omega
  | bl _ ih => simp; omega
  | tup _ _ ih => simp at ih ⊢; omega
  | lst _ _ _ _ ih => simp at ih ⊢; omega
theorem stack_top {ps : List (D × D)} {p : D × D} : (((p :: ps).map prD).reverse)[((p :: ps).map prD).reverse.length - 1]? = some (prD p) := by
  simp
theorem stack_drop {ps : List (D × D)} {p : D × D} : (((p :: ps).map prD).reverse).dropLast = (ps.map prD).reverse := by
  simp
theorem stack_push {ps zs : List (D × D)} : (ps.map prD).reverse ++ zs.map prD = ((zs.reverse ++ ps).map prD).reverse := by
  simp
@[simp] theorem isi_NoneType_bool (m : Mem) : opIsi "bool" .non m = .ok (.bl false) m := rfl
@[simp] theorem isi_NoneType_int (m : Mem) : opIsi "int" .non m = .ok (.bl false) m := rfl
@[simp] theorem isi_NoneType_str (m : Mem) : opIsi "str" .non m = .ok (.bl false) m := rfl
@[simp] theorem isi_NoneType_tuple (m : Mem) : opIsi "tuple" .non m = .ok (.bl false) m := rfl
@[simp] theorem isi_NoneType_list (m : Mem) : opIsi "list" .non m = .ok (.bl false) m := rfl
@[simp] theorem isi_NoneType_dict (m : Mem) : opIsi "dict" .non m = .ok (.bl false) m := rfl
@[simp] theorem isi_bool_bool (b : Bool) (m : Mem) : opIsi "bool" (.bl b) m = .ok (.bl true) m := rfl
@[simp] theorem isi_bool_int (b : Bool) (m : Mem) : opIsi "int" (.bl b) m = .ok (.bl true) m := rfl
@[simp] theorem isi_bool_str (b : Bool) (m : Mem) : opIsi "str" (.bl b) m = .ok (.bl false) m := rfl
@[simp] theorem isi_bool_tuple (b : Bool) (m : Mem) : opIsi "tuple" (.bl b) m = .ok (.bl false) m := rfl
@[simp] theorem isi_bool_list (b : Bool) (m : Mem) : opIsi "list" (.bl b) m = .ok (.bl false) m := rfl
@[simp] theorem isi_bool_dict (b : Bool) (m : Mem) : opIsi "dict" (.bl b) m = .ok (.bl false) m := rfl
@[simp] theorem isi_int_bool (i : Int) (m : Mem) : opIsi "bool" (.int i) m = .ok (.bl false) m := rfl
@[simp] theorem isi_int_int (i : Int) (m : Mem) : opIsi "int" (.int i) m = .ok (.bl true) m := rfl
@[simp] theorem isi_int_str (i : Int) (m : Mem) : opIsi "str" (.int i) m = .ok (.bl false) m := rfl
@[simp] theorem isi_int_tuple (i : Int) (m : Mem) : opIsi "tuple" (.int i) m = .ok (.bl false) m := rfl
@[simp] theorem isi_int_list (i : Int) (m : Mem) : opIsi "list" (.int i) m = .ok (.bl false) m := rfl
@[simp] theorem isi_int_dict (i : Int) (m : Mem) : opIsi "dict" (.int i) m = .ok (.bl false) m := rfl
@[simp] theorem isi_str_bool (x : Str) (m : Mem) : opIsi "bool" (.str x) m = .ok (.bl false) m := rfl
@[simp] theorem isi_str_int (x : Str) (m : Mem) : opIsi "int" (.str x) m = .ok (.bl false) m := rfl
@[simp] theorem isi_str_str (x : Str) (m : Mem) : opIsi "str" (.str x) m = .ok (.bl true) m := rfl
@[simp] theorem isi_str_tuple (x : Str) (m : Mem) : opIsi "tuple" (.str x) m = .ok (.bl false) m := rfl
@[simp] theorem isi_str_list (x : Str) (m : Mem) : opIsi "list" (.str x) m = .ok (.bl false) m := rfl
@[simp] theorem isi_str_dict (x : Str) (m : Mem) : opIsi "dict" (.str x) m = .ok (.bl false) m := rfl
@[simp] theorem isi_tuple_bool (xs : List D) (m : Mem) : opIsi "bool" (.tup xs) m = .ok (.bl false) m := rfl
@[simp] theorem isi_tuple_int (xs : List D) (m : Mem) : opIsi "int" (.tup xs) m = .ok (.bl false) m := rfl
@[simp] theorem isi_tuple_str (xs : List D) (m : Mem) : opIsi "str" (.tup xs) m = .ok (.bl false) m := rfl
@[simp] theorem isi_tuple_tuple (xs : List D) (m : Mem) : opIsi "tuple" (.tup xs) m = .ok (.bl true) m := rfl
@[simp] theorem isi_tuple_list (xs : List D) (m : Mem) : opIsi "list" (.tup xs) m = .ok (.bl false) m := rfl
@[simp] theorem isi_tuple_dict (xs : List D) (m : Mem) : opIsi "dict" (.tup xs) m = .ok (.bl false) m := rfl
@[simp] theorem isi_ref_bool {m : Mem} {l : Nat} {xs : List D} (h : m[l]? = some (.lst xs)) : opIsi "bool" (.ref l) m = .ok (.bl false) m := by
  have h2 : tyD m (.ref l) = some "list" := by simp [tyD, h]
  unfold opIsi
  rw [h2]
  rfl
@[simp] theorem isi_ref_int {m : Mem} {l : Nat} {xs : List D} (h : m[l]? = some (.lst xs)) : opIsi "int" (.ref l) m = .ok (.bl false) m := by
  have h2 : tyD m (.ref l) = some "list" := by simp [tyD, h]
  unfold opIsi
  rw [h2]
  rfl
@[simp] theorem isi_ref_str {m : Mem} {l : Nat} {xs : List D} (h : m[l]? = some (.lst xs)) : opIsi "str" (.ref l) m = .ok (.bl false) m := by
  have h2 : tyD m (.ref l) = some "list" := by simp [tyD, h]
  unfold opIsi
  rw [h2]
  rfl
@[simp] theorem isi_ref_tuple {m : Mem} {l : Nat} {xs : List D} (h : m[l]? = some (.lst xs)) : opIsi "tuple" (.ref l) m = .ok (.bl false) m := by
  have h2 : tyD m (.ref l) = some "list" := by simp [tyD, h]
  unfold opIsi
  rw [h2]
  rfl
@[simp] theorem isi_ref_list {m : Mem} {l : Nat} {xs : List D} (h : m[l]? = some (.lst xs)) : opIsi "list" (.ref l) m = .ok (.bl true) m := by
  have h2 : tyD m (.ref l) = some "list" := by simp [tyD, h]
  unfold opIsi
  rw [h2]
  rfl
@[simp] theorem isi_ref_dict {m : Mem} {l : Nat} {xs : List D} (h : m[l]? = some (.lst xs)) : opIsi "dict" (.ref l) m = .ok (.bl false) m := by
  have h2 : tyD m (.ref l) = some "list" := by simp [tyD, h]
  unfold opIsi
  rw [h2]
  rfl
@[simp] theorem ev_ne_b (i j : Bool) (m : Mem) : opEqB true (.bl i) (.bl j) m = .ok (.bl (i != j)) m := by
  cases i <;> cases j <;> rfl
/-- one turn: the top pair is taken -/
theorem same_pop {l : Nat} {st : List D} {a b : D} {m : Mem} {x0 x1 y3 y4 y5 y6 : Option D} {dd : D} (hm : m[l]? = some (.lst st)) (h1 : 0 < st.length) (h2 : st[st.length - 1]? = some (.tup [a, b])) :
    ((dAsg (dMt0 isLst mPop (dVar 2)) (γTL 2 (γCons (γName 4) (γCons (γName 5) γNil)))) [x0, x1, some (.ref l), some dd, y4, y5, y6] m) = .nx [x0, x1, some (.ref l), some dd, some a, some b, y6] (m.set l (.lst st.dropLast)) := by
  simp [hm, h2]
theorem forF_none {s : Src} (hs : s.lk = none) (γ : D → En → Mem → R En) (b : DSt) (d : D) (ds : List D) (ρ : En) (m : Mem) : forF s γ b (d :: ds) ρ m = (γ d ρ m).only fun ρ1 m1 => (b ρ1 m1).turn (forF s γ b ds) := by
  have h : s.ok m = true := by unfold Src.ok; rw [hs]
  show (if s.ok m = true then _ else _) = _
  rw [if_pos h]
section
variable {M : Mem} {x0 x1 y4 y5 y6 : Option D} {dd : D} {st : List D} {m : Mem} {k : Nat}
/-- what a turn tests first -/
theorem sameB_pop {a b : D} (hm : m[M.length]? = some (.lst st)) (h1 : st.length = k + 1) (h2 : st[st.length - 1]? = some (.tup [a, b])) :
    sameB [x0, x1, some (.ref M.length), some dd, y4, y5, y6] m = sameC [x0, x1, some (.ref M.length), some dd, some a, some b, y6] (m.set M.length (.lst st.dropLast)) := by
  have h0 : ¬ ((k : Int) + 1 = 0) := by omega
  have e1 := same_pop (x0 := x0) (x1 := x1) (y3 := none) (y4 := y4) (y5 := y5) (y6 := y6) (dd := dd) hm (by omega) h2
  have e0 : (dIfS (dTest (dBin opEq (dCall (fn1 opLen) (dCons (dVar 2) dNil)) (dC (.int 0)))) (dRet (dC (.bl true))) dNext) [x0, x1, some (.ref M.length), some dd, y4, y5, y6] m = .nx [x0, x1, some (.ref M.length), some dd, y4, y5, y6] m := by
    simp [hm, h1, h0]
  unfold sameB
  rw [ev_seq, e0, ev_thn_nx, ev_seq, e1, ev_thn_nx]
theorem sameC_one {d : D} (hT : d.isT = false) (ho : d.okS = true) : sameC [x0, x1, some (.ref M.length), some dd, some d, some d, y6] m = .nx [x0, x1, some (.ref M.length), some dd, some d, some d, y6] m := by
  have e2 : opEqB true d d m = .ok (.bl false) m := by rw [eqB_ok ho ho (okS_dep0 hT) (okS_dep0 hT)]; simp
  cases d with
  | tup xs => cases hT
  | bl b => cases ho
  | ref b => cases ho
  | non => simp [sameC]
  | int i => simp [sameC]
  | str i => simp [sameC, e2]
theorem sameC_bl {b : Bool} : sameC [x0, x1, some (.ref M.length), some dd, some (.bl b), some (.bl b), y6] m = .nx [x0, x1, some (.ref M.length), some dd, some (.bl b), some (.bl b), y6] m := by
  simp [sameC]
theorem for_range1 {f : DF} {ρ : En} {m m' : Mem} {k : Nat} {γ : D → En → Mem → R En} {b : DSt} (h : f ρ m = .ok (.int k) m') (hs : smallI k = true) : dFor (dRange1 f) γ b ρ m = forF ⟨rngD 0 1 k, none⟩ γ b (rngD 0 1 k) ρ m' := by
  have e : dRange1 f ρ m = .ok ⟨rngD 0 1 k, none⟩ m' := by
    rw [ev_range1, h, ev_bind, ev_intOf]
    show (if smallI (k : Int) = true then (R.ok (⟨rngD 0 1 (k : Int).toNat, none⟩ : Src) m') else .stk) = _
    rw [if_pos hs, Int.toNat_natCast]
  rw [ev_for, e, ev_goes]
theorem sameC_tup {xs ys : List D} (hxy : xs.length = ys.length) (hm : m[M.length]? = some (.lst st)) (hz : st.length + ys.length < 90000) (hf : Frm [] M m) : ∃ z6 m', sameC [x0, x1, some (.ref M.length), some dd, some (.tup xs), some (.tup ys), y6] m = .nx [x0, x1, some (.ref M.length), some dd, some (.tup xs), some (.tup ys), z6] m' ∧ Frm [] M m' ∧ m'[M.length]? = some (.lst (st ++ (xs.zip ys).map prD)) := by
  have hsm : smallI (ys.length : Int) = true := small_len (by omega)
  obtain ⟨z6, m2, e2, f2, g2⟩ := push_ok (l := M.length) (ρ4 := .tup xs) (ρ5 := .tup ys) (xs := xs) (ys := ys) (m0 := m) (fun m i x _ hx => by simp [at_nat hx]) (fun m i x _ hx => by simp [at_nat hx]) hxy (x0 := x0) (x1 := x1) (x3 := some dd) (s := ⟨rngD 0 1 ys.length, none⟩) rfl ys.length 0 y6 _ _ (by omega) Frm.refl hm (sz63 (by omega))
  rw [List.drop_zero] at g2
  rw [← rngD_range'] at e2
  refine ⟨z6, m2, ?_, ?_, g2⟩
  · have hnl : ((xs.length : Int) = (ys.length : Int)) := by rw [hxy]
    have e5 := for_range1 (f := dCall (fn1 opLen) (dCons (dVar 5) dNil)) (ρ := [x0, x1, some (.ref M.length), some dd, some (.tup xs), some (.tup ys), y6]) (m := m) (m' := m) (k := ys.length) (γ := γName 6) (b := pushG) (by simp) hsm
    rw [e2] at e5
    have t1 : dTru (dUn (opIsi "tuple") (dVar 5)) [x0, x1, some (.ref M.length), some dd, some (.tup xs), some (.tup ys), y6] m = .ok true m := by simp
    have t2 : dIfS (dOr (dNot (dTru (dUn (opIsi "tuple") (dVar 4)))) (dTest (dBin opNe (dCall (fn1 opLen) (dCons (dVar 4) dNil)) (dCall (fn1 opLen) (dCons (dVar 5) dNil))))) (dRet (dC (.bl false))) dNext [x0, x1, some (.ref M.length), some dd, some (.tup xs), some (.tup ys), y6] m = .nx [x0, x1, some (.ref M.length), some dd, some (.tup xs), some (.tup ys), y6] m := by simp [hnl]
    unfold sameC
    rw [ev_ifS, t1, ev_goes, if_pos rfl, ev_seq, t2, ev_thn_nx, e5]
  · exact ⟨Nat.le_trans hf.le f2.le, fun i hi _ => by rw [f2.old i (Nat.lt_of_lt_of_le hi hf.le) (by simp; omega)]; exact hf.old i hi (by simp)⟩
theorem sameC_lst {j h : Nat} {xs ys : List D} (hj : M[j]? = some (.lst xs)) (hh : M[h]? = some (.lst ys)) (hxy : xs.length = ys.length) (hm : m[M.length]? = some (.lst st)) (hz : st.length + ys.length < 90000) (hf : Frm [] M m) : ∃ z6 m', sameC [x0, x1, some (.ref M.length), some dd, some (.ref j), some (.ref h), y6] m = .nx [x0, x1, some (.ref M.length), some dd, some (.ref j), some (.ref h), z6] m' ∧ Frm [] M m' ∧ m'[M.length]? = some (.lst (st ++ (xs.zip ys).map prD)) := by
  have hsm : smallI (ys.length : Int) = true := small_len (by omega)
  have nj : ∀ {m' : Mem}, Frm [M.length] m m' → m'[j]? = some (.lst xs) := fun f => f.get (hf.get hj (by simp)) (by have := lt_of_get hj; simp; omega)
  have nh : ∀ {m' : Mem}, Frm [M.length] m m' → m'[h]? = some (.lst ys) := fun f => f.get (hf.get hh (by simp)) (by have := lt_of_get hh; simp; omega)
  obtain ⟨z6, m2, e2, f2, g2⟩ := push_ok (l := M.length) (ρ4 := .ref j) (ρ5 := .ref h) (xs := xs) (ys := ys) (m0 := m) (fun m i x f hx => by simp [ev_ix_l (nj f), at_nat hx]) (fun m i x f hx => by simp [ev_ix_l (nh f), at_nat hx]) hxy (x0 := x0) (x1 := x1) (x3 := some dd) (s := ⟨rngD 0 1 ys.length, none⟩) rfl ys.length 0 y6 _ _ (by omega) Frm.refl hm (sz63 (by omega))
  rw [List.drop_zero] at g2
  rw [← rngD_range'] at e2
  refine ⟨z6, m2, ?_, ?_, g2⟩
  · have hnl : ((xs.length : Int) = (ys.length : Int)) := by rw [hxy]
    have n1 := nj (Frm.refl (ls := [M.length]) (m := m))
    have n2 := nh (Frm.refl (ls := [M.length]) (m := m))
    have e5 := for_range1 (f := dCall (fn1 opLen) (dCons (dVar 5) dNil)) (ρ := [x0, x1, some (.ref M.length), some dd, some (.ref j), some (.ref h), y6]) (m := m) (m' := m) (k := ys.length) (γ := γName 6) (b := pushG) (by simp [n2]) hsm
    rw [e2] at e5
    simp [sameC, hnl, -ev_for, e5, n1, n2]
  · exact ⟨Nat.le_trans hf.le f2.le, fun i hi _ => by rw [f2.old i (Nat.lt_of_lt_of_le hi hf.le) (by simp; omega)]; exact hf.old i hi (by simp)⟩
end
theorem same_loop {M : Mem} {s : Src} (hs : s.lk = none) {x0 x1 : Option D} {ps : List (D × D)} {n : Nat} (h : SameP M ps n) : ∀ (ds : List D) (y3 y4 y5 y6 : Option D) (m : Mem), n < ds.length → n < 90000 → Frm [] M m → m[M.length]? = some (.lst (ps.map prD).reverse) →
    ∃ m', forF s (γName 3) sameB ds [x0, x1, some (.ref M.length), y3, y4, y5, y6] m = .rt (.bl true) m' ∧ Frm [] M m' := by
  induction h with
  | nil =>
    intro ds y3 y4 y5 y6 m hn hz hf hm
    cases ds with
    | nil => simp at hn
    | cons dd ds => exact ⟨m, by rw [forF_none hs]; simp [sameB, hm], hf⟩
  | @one d ps n hT ho _ ih =>
    intro ds y3 y4 y5 y6 m hn hz hf hm
    cases ds with
    | nil => simp at hn
    | cons dd ds =>
      obtain ⟨m', e, hf'⟩ := ih ds (some dd) (some d) (some d) y6 (m.set M.length (.lst (ps.map prD).reverse)) (by simpa using hn) (by omega) (hf.set (.inr (Nat.le_refl _))) (get_set hm)
      refine ⟨m', ?_, hf'⟩
      rw [forF_none hs, ev_γName, ev_only]
      show (sameB [x0, x1, some (.ref M.length), some dd, y4, y5, y6] m).turn _ = _
      rw [sameB_pop (k := ps.length) hm (by simp) stack_top, stack_drop, sameC_one hT ho]
      exact e
  | @bl b ps n _ ih =>
    intro ds y3 y4 y5 y6 m hn hz hf hm
    cases ds with
    | nil => simp at hn
    | cons dd ds =>
      obtain ⟨m', e, hf'⟩ := ih ds (some dd) (some (.bl b)) (some (.bl b)) y6 (m.set M.length (.lst (ps.map prD).reverse)) (by simpa using hn) (by omega) (hf.set (.inr (Nat.le_refl _))) (get_set hm)
      refine ⟨m', ?_, hf'⟩
      rw [forF_none hs, ev_γName, ev_only]
      show (sameB [x0, x1, some (.ref M.length), some dd, y4, y5, y6] m).turn _ = _
      rw [sameB_pop (k := ps.length) hm (by simp) stack_top, stack_drop, sameC_bl]
      exact e
  | @tup xs ys ps n hxy hp ih =>
    intro ds y3 y4 y5 y6 m hn hz hf hm
    cases ds with
    | nil => simp at hn
    | cons dd ds =>
      have hlen := sameP_len hp
      simp only [List.length_append, List.length_reverse, List.length_zip, hxy, Nat.min_self] at hlen
      obtain ⟨z6, m2, e2, f2, g2⟩ := sameC_tup (M := M) (x0 := x0) (x1 := x1) (dd := dd) (y6 := y6) (m := m.set M.length (.lst (ps.map prD).reverse)) (xs := xs) (ys := ys) hxy (get_set hm) (by simp; omega) (hf.set (.inr (Nat.le_refl _)))
      rw [stack_push] at g2
      obtain ⟨m', e, hf'⟩ := ih ds (some dd) (some (.tup xs)) (some (.tup ys)) z6 m2 (by simpa using hn) (by omega) f2 g2
      refine ⟨m', ?_, hf'⟩
      rw [forF_none hs, ev_γName, ev_only]
      show (sameB [x0, x1, some (.ref M.length), some dd, y4, y5, y6] m).turn _ = _
      rw [sameB_pop (k := ps.length) hm (by simp) stack_top, stack_drop, e2]
      exact e
  | @lst j k xs ys ps n hj hk hxy hp ih =>
    intro ds y3 y4 y5 y6 m hn hz hf hm
    cases ds with
    | nil => simp at hn
    | cons dd ds =>
      have hlen := sameP_len hp
      simp only [List.length_append, List.length_reverse, List.length_zip, hxy, Nat.min_self] at hlen
      obtain ⟨z6, m2, e2, f2, g2⟩ := sameC_lst (M := M) (x0 := x0) (x1 := x1) (dd := dd) (y6 := y6) (m := m.set M.length (.lst (ps.map prD).reverse)) (xs := xs) (ys := ys) hj hk hxy (get_set hm) (by simp; omega) (hf.set (.inr (Nat.le_refl _)))
      rw [stack_push] at g2
      obtain ⟨m', e, hf'⟩ := ih ds (some dd) (some (.ref j)) (some (.ref k)) z6 m2 (by simpa using hn) (by omega) f2 g2
      refine ⟨m', ?_, hf'⟩
      rw [forF_none hs, ev_γName, ev_only]
      show (sameB [x0, x1, some (.ref M.length), some dd, y4, y5, y6] m).turn _ = _
      rw [sameB_pop (k := ps.length) hm (by simp) stack_top, stack_drop, e2]
      exact e
theorem same_ok {M : Mem} {a b : D} {n : Nat} (h : SameP M [(a, b)] n) (hn : n < 90000) : ∃ m', runB 2 7 sameG [a, b] M = .ok (.bl true) m' ∧ Frm [] M m' := by
  obtain ⟨m', e, f⟩ := same_loop (M := M) (s := ⟨rngD 0 1 200000, none⟩) rfl (x0 := some a) (x1 := some b) h (rngD 0 1 200000) none none none none (M ++ [.lst [.tup [a, b]]]) (by rw [rngD_len]; omega) hn Frm.app get_new
  refine ⟨m', ?_, f⟩
  have s2 : smallI 200000 = true := by decide
  simp [runB, sameG, envD, s2, e]
/-- .. of one thing and itself -/
theorem same_self {M : Mem} {a : D} (h : a.okS = true) (hn : a.nodes < 90000) : ∃ m', runB 2 7 sameG [a, a] M = .ok (.bl true) m' ∧ Frm [] M m' := same_ok (same_d a [] 0 h .nil) (by omega)
end DL
/-! The laws' own names. -/
namespace DL
open PySem PySem.Spec L2
/-- a draw: some number below what is asked -/
structure Next (F : List D → Mem → R D) : Prop where
  ok : ∀ {m : Mem} {l p : Nat} {many : Int}, Drw m l p → 0 < many → ∃ j m', F [.ref l, .int many] m = .ok (.int j) m' ∧ 0 ≤ j ∧ j < many ∧ Frm [l] m m' ∧ Drw m' l p ∧ m'.length = m.length
variable {F : List D → Mem → R D}
def nmIn (F : List D → Mem → R D) : DSt := (dSet 6 (dBin opAdd (dVar 6) (dBin opIxM (dVar 3) (dApp F [] (dCons (dVar 0) (dCons (dC (.int 26)) dNil))))))
def nmOut (F : List D → Mem → R D) : DSt := (dSeq (dSet 6 (dBin opIxM (dVar 3) (dApp F [] (dCons (dVar 0) (dCons (dC (.int 26)) dNil)))))
  (dSeq (dFor (dRange1 (dBin opIxM (dLst (dCons (dC (.int 0)) (dCons (dC (.int 0)) (dCons (dC (.int 1)) (dCons (dC (.int 2)) (dCons (dC (.int 5)) dNil)))))) (dApp F [] (dCons (dVar 0) (dCons (dC (.int 5)) dNil))))) (γName 7) (nmIn F))
  (dSeq (dSet 6 (dBin opAdd (dVar 6) (dCall (fn1 opStr) (dCons (dVar 5) dNil))))
  (dSeq (dSet 8 (dBin opIxM (dVar 2) (dApp F [] (dCons (dVar 0) (dCons (dC (.int 20)) dNil)))))
  (dSeq (dIfS (dAnd (dTest (dBin opEq (dApp F [] (dCons (dVar 0) (dCons (dC (.int 3)) dNil))) (dC (.int 0)))) (dTest (dBin opNotIn (dVar 8) (dVar 4)))) (dSet 6 (dVar 8)) dNext)
  (dDrop (dMt isLst mAppend (dVar 4) (dCons (dVar 6) dNil))))))))
def someD : List D := [.str "own", .str "up", .str "in", .str "on", .str "off", .str "view", .str "edit", .str "doc", .str "team", .str "kind", .str "stored", .str "relation", .str "copy", .str "name", .str "norings", .str "users", .str "al", .str "z9", .str "a", .str "ann"]
def someDs : DFs := (dCons (dC (.str "own")) (dCons (dC (.str "up")) (dCons (dC (.str "in")) (dCons (dC (.str "on")) (dCons (dC (.str "off")) (dCons (dC (.str "view")) (dCons (dC (.str "edit")) (dCons (dC (.str "doc")) (dCons (dC (.str "team")) (dCons (dC (.str "kind")) (dCons (dC (.str "stored")) (dCons (dC (.str "relation")) (dCons (dC (.str "copy")) (dCons (dC (.str "name")) (dCons (dC (.str "norings")) (dCons (dC (.str "users")) (dCons (dC (.str "al")) (dCons (dC (.str "z9")) (dCons (dC (.str "a")) (dCons (dC (.str "ann")) dNil))))))))))))))))))))
def leftS : Str := "qwertzuiopasdfghjklyxcvbnm"
def namesG (F : List D → Mem → R D) : DSt := (dSeq (dSet 2 (dLst someDs))
  (dSeq (dSet 3 (dC (.str leftS)))
  (dSeq (dSet 4 (dLst dNil))
  (dSeq (dFor (dRange1 (dVar 1)) (γName 5) (nmOut F))
  (dRet (dVar 4))))))
theorem some_ev (ρ : En) (m : Mem) : someDs ρ m = .ok someD m := rfl
theorem ev_ix_s {z : Str} {i : Int} {c : Nat} {m : Mem} (hz : z.length ≤ sizeLine) (h : atI z.cps.toList i = some c) : opIxM (.str z) (.int i) m = .ok (.str ⟨#[c]⟩) m := by
  show opIx (.str z) (.int i) m = _
  unfold opIx
  simp only [hz, if_true, h]
/-- a text that is short and may be compared -/
def NmOk (x : Str) : Prop := PyData.strOk x = true ∧ x.length ≤ 1000
theorem strOk_app {x y : Str} (hx : PyData.strOk x = true) (hy : PyData.strOk y = true) : PyData.strOk (x ++ y) = true := by
  have e : (x ++ y).cps = x.cps ++ y.cps := rfl
  unfold PyData.strOk at hx hy ⊢
  rw [e, Array.all_append, hx, hy]
  rfl
theorem len_app (x y : Str) : (x ++ y).length = x.length + y.length := by
  have e : (x ++ y).cps = x.cps ++ y.cps := rfl
  show (x ++ y).cps.size = x.cps.size + y.cps.size
  rw [e, Array.size_append]
theorem left_ix {j : Int} (h0 : 0 ≤ j) (h : j < 26) : ∃ c : Nat, (∀ m, opIxM (.str leftS) (.int j) m = .ok (.str ⟨#[c]⟩) m) ∧ 97 ≤ c ∧ c ≤ 122 := by
  have hl : leftS.cps.toList.length = 26 := by decide +kernel
  have hall : (leftS.cps.toList.all fun c => decide (97 ≤ c ∧ c ≤ 122)) = true := by decide +kernel
  have hj : j.toNat < leftS.cps.toList.length := by omega
  have hz : leftS.length ≤ sizeLine := by decide +kernel
  refine ⟨leftS.cps.toList[j.toNat], fun m => ev_ix_s hz (at_int h0 (List.getElem?_eq_getElem hj)), ?_⟩
  rw [List.all_eq_true] at hall
  exact of_decide_eq_true (hall _ (List.getElem_mem hj))
theorem one_ok {c : Nat} (h : c ≤ 122) : PyData.strOk ⟨#[c]⟩ = true ∧ (⟨#[c]⟩ : Str).length = 1 := by
  refine ⟨?_, rfl⟩
  unfold PyData.strOk
  simp
  omega
/-- letters put behind -/
theorem nm_in (hF : Next F) {p : Nat} {l : Nat} {m0 : Mem} (hl : l < m0.length) {x1 x2 x4 x5 x8 : Option D} {s : Src} (hs : s.lk = none) : ∀ (ds : List D) (wd : Str) (y7 : Option D) (m : Mem), NmOk wd → wd.length + ds.length ≤ 900 → Drw m l p → Frm [l] m0 m →
    ∃ wd' z7 m', forF s (γName 7) (nmIn F) ds [some (.ref l), x1, x2, some (.str leftS), x4, x5, some (.str wd), y7, x8] m = .nx [some (.ref l), x1, x2, some (.str leftS), x4, x5, some (.str wd'), z7, x8] m' ∧ NmOk wd' ∧ wd'.length = wd.length + ds.length ∧ Drw m' l p ∧ Frm [l] m m'
  | [], wd, y7, m, h, _, hd, hf => ⟨wd, y7, m, by simp [forF, Src.ok, hs], h, rfl, hd, Frm.refl⟩
  | dd :: ds, wd, y7, m, h, hz, hd, hf => by
    obtain ⟨j, m1, e1, j0, j1, f1, d1, _⟩ := hF.ok hd (many := 26) (by decide)
    obtain ⟨c, e2, c1, c2⟩ := left_ix j0 j1
    obtain ⟨o1, o2⟩ := one_ok c2
    have hlen : (wd ++ (⟨#[c]⟩ : Str)).length = wd.length + 1 := by rw [len_app, o2]
    have hsz : wd.length + (⟨#[c]⟩ : Str).length ≤ sizeLine := by rw [o2]; exact sz_le (by omega)
    obtain ⟨wd', z7, m', e3, g1, g2, g3, g4⟩ := nm_in hF hl hs ds (wd ++ ⟨#[c]⟩) (some dd) m1 ⟨strOk_app h.1 o1, by rw [hlen]; simp at hz; omega⟩ (by rw [hlen]; simp at hz; omega) d1 (hf.trans f1)
    refine ⟨wd', z7, m', ?_, g1, by rw [g2, hlen]; simp; omega, g3, f1.trans g4⟩
    rw [forF_none hs, ev_γName, ev_only]
    have e4 : nmIn F [some (.ref l), x1, x2, some (.str leftS), x4, x5, some (.str wd), some dd, x8] m = .nx [some (.ref l), x1, x2, some (.str leftS), x4, x5, some (.str (wd ++ ⟨#[c]⟩)), some dd, x8] m1 := by
      simp [nmIn, e1, e2, hsz]
    show (nmIn F [some (.ref l), x1, x2, some (.str leftS), x4, x5, some (.str wd), some dd, x8] m).turn _ = _
    rw [e4]
    exact e3
/-! membership -/
theorem any_eqv {x : D} {p : PyData} (ox : x.okS = true) (hp : x.py = some p) : ∀ (xs : List D) (ps : List PyData), D.okSs xs = true → D.pys xs = some ps → (ps.any fun z => PyData.eqv z p) = decide (x ∈ xs)
  | [], ps, _, h => by cases h; simp
  | y :: ys, ps, o, h => by
    obtain ⟨o1, o2⟩ := okSs_cons o
    obtain ⟨q, e1, _⟩ := okS_py y o1
    obtain ⟨qs, e2, _⟩ := okSs_py ys o2
    simp only [D.pys, e1, e2, Option.some.injEq] at h
    subst h
    rw [List.any_cons, any_eqv ox hp ys qs o2 e2, py_eqv y x q p o1 ox e1 hp]
    by_cases h1 : y = x
    · simp [h1]
    · have h2 : ¬ x = y := fun z => h1 z.symm
      simp [h1, h2]
theorem in_list_ok {neg : Bool} {x : D} {xs : List D} {r : Nat} {m : Mem} (ox : x.okS = true) (dx : x.dep ≤ 64) (oxs : D.okSs xs = true) (ds : D.deps xs ≤ 60) (hm : m[r]? = some (.lst xs)) : opInB neg x (.ref r) m = .ok (.bl (decide (x ∈ xs) != neg)) m := by
  obtain ⟨p, e1, c1, d1⟩ := okS_py x ox
  obtain ⟨ps, e2, c2, d2⟩ := okSs_py xs oxs
  have s1 : SeqAt.shaped p = true := by simp [SeqAt.shaped, c1, d1, dx]
  have s2 : SeqAt.shaped (.list ps) = true := by
    have h1 : PyData.canLay0 (.list ps) = true := by simp only [PyData.canLay0, c2]
    have h2 : PyData.depth (.list ps) ≤ 64 := by simp only [PyData.depth, d2]; omega
    simp [SeqAt.shaped, h1, h2]
  have q1 : pyM m x = some p := by unfold pyM; rw [ok_noref ox, e1]
  have q2 : pyM m (.ref r) = some (.list ps) := by
    unfold pyM
    have : seqOf m (.ref r) = some xs := by rw [ev_seq_r, hm]
    rw [this]
    show Option.map PyData.list (D.pys xs) = _
    rw [e2]
    rfl
  have e3 : opInB neg x (.ref r) m = inData neg x (.ref r) m := by
    unfold opInB
    simp [hm]
  rw [e3]
  unfold inData
  rw [q1, q2]
  simp only [s1, s2, Bool.and_self, if_true]
  rw [any_eqv ox e1 xs ps oxs e2]
theorem okSs_map {ns : List Str} (h : ∀ x ∈ ns, PyData.strOk x = true) : D.okSs (ns.map .str) = true := by
  induction ns with
  | nil => rfl
  | cons x ns ih =>
    have h1 : D.okS (.str x) = true := h x List.mem_cons_self
    simp only [List.map_cons, D.okSs, h1, ih fun y hy => h y (List.mem_cons_of_mem _ hy), Bool.and_self]
theorem deps_map {ns : List Str} : D.deps (ns.map .str) = 0 := by
  induction ns with
  | nil => rfl
  | cons x ns ih => simp [D.deps, D.dep, ih]
/-! numbers as texts -/
theorem str_nums : ((List.range 100).all fun i => PyData.strOk (toString ((i : Nat) : Int)) && decide ((Str.ofString (toString ((i : Nat) : Int))).length ≤ 2)) = true := by decide +kernel
theorem str_num {i : Nat} (h : i < 100) : PyData.strOk (toString ((i : Nat) : Int)) = true ∧ (Str.ofString (toString ((i : Nat) : Int))).length ≤ 2 := by
  have := List.all_eq_true.mp str_nums i (List.mem_range.mpr h)
  rw [Bool.and_eq_true] at this
  exact ⟨this.1, of_decide_eq_true this.2⟩
theorem some_at {j : Int} (h0 : 0 ≤ j) (h : j < 20) : ∃ x : Str, atI someD j = some (.str x) ∧ NmOk x := by
  have hl : someD.length = 20 := rfl
  have hall : (someD.all fun d => match d with | .str x => PyData.strOk x && decide (x.length ≤ 1000) | _ => false) = true := by decide +kernel
  have hj : j.toNat < someD.length := by omega
  rw [List.all_eq_true] at hall
  have h1 := hall _ (List.getElem_mem hj)
  have h2 := at_int (xs := someD) h0 (List.getElem?_eq_getElem hj)
  generalize someD[j.toNat] = d at h1 h2
  cases d with
  | str x =>
    simp only [Bool.and_eq_true] at h1
    exact ⟨x, h2, h1.1, of_decide_eq_true h1.2⟩
  | _ => cases h1
theorem pick5 {j : Int} (h0 : 0 ≤ j) (h : j < 5) : ∃ k : Nat, k ≤ 5 ∧ atI [D.int 0, .int 0, .int 1, .int 2, .int 5] j = some (.int k) := by
  have h1 : j = 0 ∨ j = 1 ∨ j = 2 ∨ j = 3 ∨ j = 4 := by omega
  rcases h1 with h1 | h1 | h1 | h1 | h1 <;> subst h1
  · exact ⟨0, by decide, rfl⟩
  · exact ⟨0, by decide, rfl⟩
  · exact ⟨1, by decide, rfl⟩
  · exact ⟨2, by decide, rfl⟩
  · exact ⟨5, by decide, rfl⟩
/-- one name more -/
theorem nm_out (hF : Next F) {p l r s1 : Nat} {i : Nat} (hi : i < 100) {x1 y6 y7 y8 : Option D} {ns : List Str} {m : Mem} (hd : Drw m l p) (hs1 : m[s1]? = some (.lst someD)) (hr : m[r]? = some (.lst (ns.map .str))) (hlr : l ≠ r) (hl1 : l ≠ s1) (hr1 : r ≠ s1) (hrp : r ≠ p) (hn : ∀ x ∈ ns, NmOk x) (hz : ns.length < 1000) :
    ∃ x z7 z8 z6 m', nmOut F [some (.ref l), x1, some (.ref s1), some (.str leftS), some (.ref r), some (.int i), y6, y7, y8] m = .nx [some (.ref l), x1, some (.ref s1), some (.str leftS), some (.ref r), some (.int i), z6, z7, z8] m' ∧ Drw m' l p ∧ m'[s1]? = some (.lst someD) ∧ m'[r]? = some (.lst ((ns ++ [x]).map .str)) ∧ NmOk x ∧ Frm [l, r] m m' := by
  have ll : l < m.length := by obtain ⟨_, _, _, h, _⟩ := hd; exact lt_of_get h
  obtain ⟨j1, m1, e1, a1, b1, f1, d1, _⟩ := hF.ok hd (many := 26) (by decide)
  obtain ⟨c, e2, c1, c2⟩ := left_ix a1 b1
  obtain ⟨o1, o2⟩ := one_ok c2
  have d1' : Drw (m1 ++ [.lst [D.int 0, .int 0, .int 1, .int 2, .int 5]]) l p := d1.frm (ls := []) Frm.app (by simp) (by simp)
  obtain ⟨j2, m2, e3, a2, b2, f2, d2, _⟩ := hF.ok d1' (many := 5) (by decide)
  obtain ⟨k, hk, e4⟩ := pick5 a2 b2
  have ll1 : l < m1.length := Nat.lt_of_lt_of_le ll f1.le
  have g4 : m2[m1.length]? = some (.lst [D.int 0, .int 0, .int 1, .int 2, .int 5]) := f2.get get_new (by simp; omega)
  have hk2 : smallI (k : Int) = true := small_len (by omega)
  obtain ⟨wd, z7, m3, e5, w1, w2, d3, f3⟩ := nm_in hF (m0 := m2) (p := p) (l := l) (Nat.lt_of_lt_of_le ll1 (Nat.le_trans (by simp) f2.le)) (x1 := x1) (x2 := some (.ref s1)) (x4 := some (.ref r)) (x5 := some (.int i)) (x8 := y8) (s := ⟨rngD 0 1 k, none⟩) rfl (rngD 0 1 k) ⟨#[c]⟩ y7 m2 ⟨o1, by rw [o2]; decide⟩ (by rw [o2, rngD_len]; omega) d2 Frm.refl
  rw [rngD_len, o2] at w2
  obtain ⟨n1, n2⟩ := str_num hi
  have nl : wd.length + (Str.ofString (toString ((i : Nat) : Int))).length ≤ sizeLine := sz_le (by omega)
  obtain ⟨j3, m4, e6, a3, b3, f4, d4, _⟩ := hF.ok d3 (many := 20) (by decide)
  obtain ⟨ot, e7, ok7⟩ := some_at a3 b3
  obtain ⟨j5, m5, e8, a5, b5, f5, d5, _⟩ := hF.ok d4 (many := 3) (by decide)
  have F01 : Frm [l] m m2 := (f1.more.trans f2)
  have F02 : Frm [l] m m4 := (F01.trans f3).trans f4
  have F03 : Frm [l] m m5 := F02.trans f5
  have q1 : m4[s1]? = some (.lst someD) := F02.get hs1 (by simp; omega)
  have q2 : m5[r]? = some (.lst (ns.map .str)) := F03.get hr (by simp; omega)
  have q3 : m5[s1]? = some (.lst someD) := F03.get hs1 (by simp; omega)
  have e9 : opInB true (.str ot) (.ref r) m5 = .ok (.bl (decide (D.str ot ∈ ns.map .str) != true)) m5 := in_list_ok ok7.1 (Nat.zero_le _) (okSs_map fun x hx => (hn x hx).1) (by rw [deps_map]; omega) q2
  have lg : ((i : Nat) : Int).natAbs.log2 < 1920 := by
    rw [Int.natAbs_natCast]
    have : i.log2 ≤ i := Nat.log2_le_self i
    omega
  have t0 : dSet 6 (dBin opIxM (dVar 3) (dApp F [] (dCons (dVar 0) (dCons (dC (.int 26)) dNil)))) [some (.ref l), x1, some (.ref s1), some (.str leftS), some (.ref r), some (.int i), y6, y7, y8] m = .nx [some (.ref l), x1, some (.ref s1), some (.str leftS), some (.ref r), some (.int i), some (.str ⟨#[c]⟩), y7, y8] m1 := by
    simp [e1, e2]
  have t1 : (dBin opIxM (dLst (dCons (dC (.int 0)) (dCons (dC (.int 0)) (dCons (dC (.int 1)) (dCons (dC (.int 2)) (dCons (dC (.int 5)) dNil)))))) (dApp F [] (dCons (dVar 0) (dCons (dC (.int 5)) dNil)))) [some (.ref l), x1, some (.ref s1), some (.str leftS), some (.ref r), some (.int i), some (.str ⟨#[c]⟩), y7, y8] m1 = .ok (.int k) m2 := by
    have z5 : 5 ≤ sizeLine := by decide
    simp [z5, e3, ev_ix_l g4, e4]
  have t2 := for_range1 (γ := γName 7) (b := nmIn F) t1 hk2
  rw [e5] at t2
  have t3 : dSet 6 (dBin opAdd (dVar 6) (dCall (fn1 opStr) (dCons (dVar 5) dNil))) [some (.ref l), x1, some (.ref s1), some (.str leftS), some (.ref r), some (.int i), some (.str wd), z7, y8] m3 = .nx [some (.ref l), x1, some (.ref s1), some (.str leftS), some (.ref r), some (.int i), some (.str (wd ++ Str.ofString (toString ((i : Nat) : Int)))), z7, y8] m3 := by
    simp only [ev_set, ev_bin, ev_var, ev_call, ev_cons, ev_nil, ev_bind, ev_fn1, ev_str_i, lg, if_true, ev_goes, List.getElem?_cons_succ, List.getElem?_cons_zero, ev_add_s]
    rw [if_pos nl]
    rfl
  have t4 : dSet 8 (dBin opIxM (dVar 2) (dApp F [] (dCons (dVar 0) (dCons (dC (.int 20)) dNil)))) [some (.ref l), x1, some (.ref s1), some (.str leftS), some (.ref r), some (.int i), some (.str (wd ++ Str.ofString (toString ((i : Nat) : Int)))), z7, y8] m3 = .nx [some (.ref l), x1, some (.ref s1), some (.str leftS), some (.ref r), some (.int i), some (.str (wd ++ Str.ofString (toString ((i : Nat) : Int)))), z7, some (.str ot)] m4 := by
    simp [e6, ev_ix_l q1, e7]
  have okw : NmOk (wd ++ Str.ofString (toString ((i : Nat) : Int))) := ⟨strOk_app w1.1 n1, by rw [len_app]; omega⟩
  have app : ∀ x : Str, dDrop (dMt isLst mAppend (dVar 4) (dCons (dVar 6) dNil)) [some (.ref l), x1, some (.ref s1), some (.str leftS), some (.ref r), some (.int i), some (.str x), z7, some (.str ot)] m5 = .nx [some (.ref l), x1, some (.ref s1), some (.str leftS), some (.ref r), some (.int i), some (.str x), z7, some (.str ot)] (m5.set r (.lst ((ns ++ [x]).map .str))) := fun x => by
    have : (ns.map D.str).length < sizeLine := sz63 (by simp; omega)
    have this' : ns.length < sizeLine := by simpa using this
    simp [q2, this']
  have fin : ∀ x : Str, NmOk x → Drw (m5.set r (.lst ((ns ++ [x]).map .str))) l p ∧ (m5.set r (.lst ((ns ++ [x]).map .str)))[s1]? = some (.lst someD) ∧ (m5.set r (.lst ((ns ++ [x]).map .str)))[r]? = some (.lst ((ns ++ [x]).map .str)) ∧ NmOk x ∧ Frm [l, r] m (m5.set r (.lst ((ns ++ [x]).map .str))) := fun x hx =>
    ⟨d5.frm (ls := [r]) (Frm.refl.set (.inl (by simp))) (by simp; omega) (by simp; omega), get_set_ne q3 hr1, get_set q2, hx, (F03.mono (by simp)).set (.inl (by simp))⟩
  unfold nmOut
  rw [ev_seq, t0, ev_thn_nx, ev_seq, t2, ev_thn_nx, ev_seq, t3, ev_thn_nx, ev_seq, t4, ev_thn_nx, ev_seq]
  by_cases h3 : j5 = 0
  · by_cases hin : D.str ot ∈ ns.map .str
    · have t5 : (dIfS (dAnd (dTest (dBin opEq (dApp F [] (dCons (dVar 0) (dCons (dC (.int 3)) dNil))) (dC (.int 0)))) (dTest (dBin opNotIn (dVar 8) (dVar 4)))) (dSet 6 (dVar 8)) dNext) [some (.ref l), x1, some (.ref s1), some (.str leftS), some (.ref r), some (.int i), some (.str (wd ++ Str.ofString (toString ((i : Nat) : Int)))), z7, some (.str ot)] m4 = .nx [some (.ref l), x1, some (.ref s1), some (.str leftS), some (.ref r), some (.int i), some (.str (wd ++ Str.ofString (toString ((i : Nat) : Int)))), z7, some (.str ot)] m5 := by
        rw [decide_eq_true hin] at e9
        simp [e8, h3, e9]
      rw [t5, ev_thn_nx, app]
      exact ⟨_, _, _, _, _, rfl, fin _ okw⟩
    · have t5 : (dIfS (dAnd (dTest (dBin opEq (dApp F [] (dCons (dVar 0) (dCons (dC (.int 3)) dNil))) (dC (.int 0)))) (dTest (dBin opNotIn (dVar 8) (dVar 4)))) (dSet 6 (dVar 8)) dNext) [some (.ref l), x1, some (.ref s1), some (.str leftS), some (.ref r), some (.int i), some (.str (wd ++ Str.ofString (toString ((i : Nat) : Int)))), z7, some (.str ot)] m4 = .nx [some (.ref l), x1, some (.ref s1), some (.str leftS), some (.ref r), some (.int i), some (.str ot), z7, some (.str ot)] m5 := by
        rw [decide_eq_false hin] at e9
        simp [e8, h3, e9]
      rw [t5, ev_thn_nx, app]
      exact ⟨_, _, _, _, _, rfl, fin _ ok7⟩
  · have t5 : (dIfS (dAnd (dTest (dBin opEq (dApp F [] (dCons (dVar 0) (dCons (dC (.int 3)) dNil))) (dC (.int 0)))) (dTest (dBin opNotIn (dVar 8) (dVar 4)))) (dSet 6 (dVar 8)) dNext) [some (.ref l), x1, some (.ref s1), some (.str leftS), some (.ref r), some (.int i), some (.str (wd ++ Str.ofString (toString ((i : Nat) : Int)))), z7, some (.str ot)] m4 = .nx [some (.ref l), x1, some (.ref s1), some (.str leftS), some (.ref r), some (.int i), some (.str (wd ++ Str.ofString (toString ((i : Nat) : Int)))), z7, some (.str ot)] m5 := by
      simp [e8, h3]
    rw [t5, ev_thn_nx, app]
    exact ⟨_, _, _, _, _, rfl, fin _ okw⟩
theorem run_eq {np N : Nat} {g : DSt} {ds : List D} {m : Mem} (h : ds.length = np) : runB np N g ds m = (g (envD N ds) m).val := by
  unfold runB
  rw [if_pos h]
theorem names_loop (hF : Next F) {p l r s1 : Nat} {x1 : Option D} {s : Src} (hs : s.lk = none) {M : Mem} (hlM : l < M.length) (hpM : p < M.length) (hr1M : M.length ≤ r) (hlr : l ≠ r) (hl1 : l ≠ s1) (hr1 : r ≠ s1) (hrp : r ≠ p) : ∀ (k i : Nat) (y5 y6 y7 y8 : Option D) (ns : List Str) (m : Mem), i + k ≤ 100 → Drw m l p → m[s1]? = some (.lst someD) → m[r]? = some (.lst (ns.map .str)) → (∀ x ∈ ns, NmOk x) → ns.length = i → Frm [l] M m →
    ∃ (z5 z6 z7 z8 : Option D) (ns' : List Str) (m' : Mem), forF s (γName 5) (nmOut F) ((List.range' i k).map fun j => .int (j : Nat)) [some (.ref l), x1, some (.ref s1), some (.str leftS), some (.ref r), y5, y6, y7, y8] m = .nx [some (.ref l), x1, some (.ref s1), some (.str leftS), some (.ref r), z5, z6, z7, z8] m' ∧ Drw m' l p ∧ m'[r]? = some (.lst (ns'.map .str)) ∧ (∀ x ∈ ns', NmOk x) ∧ ns'.length = i + k ∧ Frm [l] M m'
  | 0, i, y5, y6, y7, y8, ns, m, _, hd, h1, h2, h3, h4, hf => ⟨y5, y6, y7, y8, ns, m, by simp [forF, Src.ok, hs], hd, h2, h3, by omega, hf⟩
  | k + 1, i, y5, y6, y7, y8, ns, m, hk, hd, h1, h2, h3, h4, hf => by
    obtain ⟨x, z7, z8, z6, m1, e1, d1, g1, g2, g3, f1⟩ := nm_out hF (i := i) (by omega) (x1 := x1) (y6 := y6) (y7 := y7) (y8 := y8) hd h1 h2 hlr hl1 hr1 hrp h3 (by omega)
    have hf1 : Frm [l] M m1 := ⟨Nat.le_trans hf.le f1.le, fun j hj n => by
      have : j ∉ [l, r] := by simp at n ⊢; omega
      rw [f1.old j (Nat.lt_of_lt_of_le hj hf.le) this]; exact hf.old j hj n⟩
    obtain ⟨w5, w6, w7, w8, ns', m', e2, d2, g4, g5, g6, f2⟩ := names_loop hF hs hlM hpM hr1M hlr hl1 hr1 hrp (x1 := x1) k (i + 1) (some (.int i)) z6 z7 z8 (ns ++ [x]) m1 (by omega) d1 g1 g2 (fun y hy => by
      rcases List.mem_append.mp hy with hy | hy
      · exact h3 y hy
      · rw [List.mem_singleton.mp hy]; exact g3) (by simp [h4]) hf1
    refine ⟨w5, w6, w7, w8, ns', m', ?_, d2, g4, g5, by omega, f2⟩
    rw [List.range'_succ, List.map_cons, forF_none hs, ev_γName, ev_only]
    show (nmOut F [some (.ref l), x1, some (.ref s1), some (.str leftS), some (.ref r), some (.int i), y6, y7, y8] m).turn _ = _
    rw [e1]
    exact e2
theorem names_ok (hF : Next F) {m : Mem} {l p many : Nat} (hd : Drw m l p) (hm : many ≤ 100) : ∃ (r : Nat) (ns : List Str) (m' : Mem), runB 2 9 (namesG F) [.ref l, .int many] m = .ok (.ref r) m' ∧ Drw m' l p ∧ m'[r]? = some (.lst (ns.map .str)) ∧ (∀ x ∈ ns, NmOk x) ∧ ns.length = many ∧ m.length ≤ r ∧ Frm [l] m m' := by
  have ll : l < m.length := by obtain ⟨_, _, _, h, _⟩ := id hd; exact lt_of_get h
  have lp : p < m.length := by obtain ⟨_, _, _, _, _, _, _, h⟩ := id hd; exact lt_of_get h
  have hsm : smallI (many : Int) = true := small_len (by omega)
  obtain ⟨z5, z6, z7, z8, ns, m', e, d1, g1, g2, g3, f1⟩ := names_loop hF (s := ⟨rngD 0 1 many, none⟩) rfl (M := m) (l := l) (p := p) (r := m.length + 1) (s1 := m.length) (x1 := some (.int many)) ll lp (by omega) (by omega) (by omega) (by omega) (by omega) many 0 none none none none [] (m ++ [.lst someD] ++ [.lst []]) (by omega) ((hd.frm (ls := []) Frm.app (by simp) (by simp)).frm (ls := []) Frm.app (by simp) (by simp)) (get_old get_new) (by rw [show m.length + 1 = (m ++ [MO.lst someD]).length by simp]; exact get_new) (by simp) rfl (Frm.app.more)
  rw [← rngD_range'] at e
  refine ⟨m.length + 1, ns, m', ?_, d1, g1, g2, by omega, by omega, f1⟩
  have t0 : dSet 2 (dLst someDs) [some (.ref l), some (.int many), none, none, none, none, none, none, none] m = .nx [some (.ref l), some (.int many), some (.ref m.length), none, none, none, none, none, none] (m ++ [.lst someD]) := by
    have z : someD.length ≤ sizeLine := by decide
    rw [ev_set, ev_lst, some_ev, ev_bind, if_pos z, ev_goes]
    rfl
  have t1 : dSet 4 (dLst dNil) [some (.ref l), some (.int many), some (.ref m.length), some (.str leftS), none, none, none, none, none] (m ++ [.lst someD]) = .nx [some (.ref l), some (.int many), some (.ref m.length), some (.str leftS), some (.ref (m.length + 1)), none, none, none, none] (m ++ [.lst someD] ++ [.lst []]) := by
    simp
  have t2 := for_range1 (f := dVar 1) (ρ := [some (.ref l), some (.int many), some (.ref m.length), some (.str leftS), some (.ref (m.length + 1)), none, none, none, none]) (m := m ++ [.lst someD] ++ [.lst []]) (m' := m ++ [.lst someD] ++ [.lst []]) (k := many) (γ := γName 5) (b := nmOut F) (by simp) hsm
  rw [e] at t2
  rw [run_eq (np := 2) (show [D.ref l, D.int (many : Int)].length = 2 from rfl)]
  show (namesG F [some (.ref l), some (.int many), none, none, none, none, none, none, none] m).val = _
  unfold namesG
  rw [ev_seq, t0, ev_thn_nx, ev_seq]
  rw [ev_set, ev_C, ev_goes, ev_thn_nx, ev_seq]
  simp only [List.set_cons_succ, List.set_cons_zero]
  rw [t1, ev_thn_nx, ev_seq, t2, ev_thn_nx]
  rfl
end DL
/-! Rules as data: their parts. -/
namespace DL
open PySem PySem.Spec L2
theorem in_tup_ok {neg : Bool} {x : D} {xs : List D} {m : Mem} (ox : x.okS = true) (dx : x.dep ≤ 64) (oxs : D.okSs xs = true) (ds : D.deps xs ≤ 60) : opInB neg x (.tup xs) m = .ok (.bl (decide (x ∈ xs) != neg)) m := by
  obtain ⟨p, e1, c1, d1⟩ := okS_py x ox
  obtain ⟨ps, e2, c2, d2⟩ := okSs_py xs oxs
  have s1 : SeqAt.shaped p = true := by simp [SeqAt.shaped, c1, d1, dx]
  have s2 : SeqAt.shaped (.tuple ps) = true := by
    have h1 : PyData.canLay0 (.tuple ps) = true := by simp only [PyData.canLay0, c2]
    have h2 : PyData.depth (.tuple ps) ≤ 64 := by simp only [PyData.depth, d2]; omega
    simp [SeqAt.shaped, h1, h2]
  have q1 : pyM m x = some p := by unfold pyM; rw [ok_noref ox, e1]
  have q2 : pyM m (.tup xs) = some (.tuple ps) := by
    show (D.tup xs).py = _
    simp only [D.py, e2, Option.map_some]
  have e3 : opInB neg x (.tup xs) m = inData neg x (.tup xs) m := rfl
  rw [e3]
  unfold inData
  rw [q1, q2]
  simp only [s1, s2, Bool.and_self, if_true]
  rw [any_eqv ox e1 xs ps oxs e2]
mutual
/-- a rule -/
inductive RuleOk : D → Prop where
  | leaf2 {w x : Str} : (w = "direct" ∨ w = "same") → PyData.strOk x = true → RuleOk (.tup [.str w, .str x])
  | leaf3 {x y : Str} : PyData.strOk x = true → PyData.strOk y = true → RuleOk (.tup [.str "by", .str x, .str y])
  | nary {w : Str} {xs : List D} : (w = "or" ∨ w = "and") → RulesOk xs → RuleOk (.tup [.str w, .tup xs])
  | but {a b : D} : RuleOk a → RuleOk b → RuleOk (.tup [.str "but", a, b])
inductive RulesOk : List D → Prop where
  | nil : RulesOk []
  | cons {x : D} {xs : List D} : RuleOk x → RulesOk xs → RulesOk (x :: xs)
end
theorem RulesOk.all : ∀ {xs : List D}, RulesOk xs → ∀ x ∈ xs, RuleOk x
  | _, .nil, x, h => by cases h
  | _, .cons a b, x, h => by
    rcases List.mem_cons.mp h with rfl | h
    · exact a
    · exact b.all x h
theorem RulesOk.of : ∀ {xs : List D}, (∀ x ∈ xs, RuleOk x) → RulesOk xs
  | [], _ => .nil
  | x :: xs, h => .cons (h x List.mem_cons_self) (RulesOk.of fun y hy => h y (List.mem_cons_of_mem _ hy))
mutual
theorem RuleOk.okS : ∀ {d : D}, RuleOk d → d.okS = true
  | _, .leaf2 h1 h2 => by
    rcases h1 with rfl | rfl
    · simp only [D.okS, D.okSs, h2, Bool.and_true]; decide +kernel
    · simp only [D.okS, D.okSs, h2, Bool.and_true]; decide +kernel
  | _, .leaf3 h1 h2 => by simp only [D.okS, D.okSs, h1, h2, Bool.and_true]; decide +kernel
  | _, .nary h1 h2 => by
    rcases h1 with rfl | rfl
    · simp only [D.okS, D.okSs, h2.okSs, Bool.and_true]; decide +kernel
    · simp only [D.okS, D.okSs, h2.okSs, Bool.and_true]; decide +kernel
  | _, .but h1 h2 => by simp only [D.okS, D.okSs, h1.okS, h2.okS, Bool.and_true]; decide +kernel
theorem RulesOk.okSs : ∀ {ds : List D}, RulesOk ds → D.okSs ds = true
  | _, .nil => rfl
  | _, .cons h1 h2 => by simp only [D.okSs, h1.okS, h2.okSs, Bool.and_self]
end
def inner : D → List D
  | .tup [.str w, .tup xs] => if w = "or" ∨ w = "and" then xs else []
  | .tup [.str w, a, b] => if w = "but" then [a, b] else []
  | _ => []
theorem inner_all {d : D} (h : RuleOk d) : ∀ x ∈ inner d, RuleOk x := by
  cases h with
  | leaf2 h1 h2 => intro x hx; simp [inner] at hx
  | leaf3 h1 h2 =>
    intro x hx
    have : ¬ ("by" : Str) = "but" := by decide
    simp [inner, this] at hx
  | nary h1 h2 =>
    intro x hx
    simp only [inner, h1, if_true] at hx
    exact h2.all x hx
  | but h1 h2 =>
    intro x hx
    simp only [inner] at hx
    split at hx
    · rename_i hh
      simp at hx
      rcases hx with rfl | rfl
      · exact h1
      · exact h2
    · simp at hx
theorem nodesAll_mem {ds : List D} {x : D} (h : x ∈ ds) : x.nodes ≤ D.nodesAll ds := by
  induction ds with
  | nil => cases h
  | cons d ds ih =>
    simp only [D.nodesAll]
    rcases List.mem_cons.mp h with rfl | h
    · omega
    · have := ih h; omega
theorem inner_nodes {d : D} (h : RuleOk d) : D.nodesAll (inner d) + 1 ≤ d.nodes := by
  cases h with
  | leaf2 h1 h2 => simp [inner, D.nodesAll, D.nodes]
  | leaf3 h1 h2 =>
    have : ¬ ("by" : Str) = "but" := by decide
    simp [inner, this, D.nodesAll, D.nodes]
  | nary h1 h2 => simp only [inner, h1, if_true, D.nodes, D.nodesAll]; omega
  | but h1 h2 =>
    simp only [inner]
    split <;> simp [D.nodes, D.nodesAll] <;> omega
/-- the places and parts of a rule, from the top, from the left -/
def kids (e : List Int × D) : List (List Int × D) := (inner e.2).zipIdx.map fun p => (e.1 ++ [(p.2 : Int)], p.1)
def pre : Nat → List Int × D → List (List Int × D)
  | 0, _ => []
  | n + 1, e => e :: (kids e).flatMap (pre n)
theorem kids_mem {e x : List Int × D} (h : x ∈ kids e) : ∃ (i : Nat), (inner e.2)[i]? = some x.2 ∧ x.1 = e.1 ++ [(i : Int)] := by
  unfold kids at h
  obtain ⟨p, hp, rfl⟩ := List.mem_map.mp h
  exact ⟨p.2, List.mem_zipIdx_iff_getElem?.mp hp, rfl⟩
theorem kids_ok {e : List Int × D} (h : RuleOk e.2) : ∀ x ∈ kids e, RuleOk x.2 ∧ x.2.nodes < e.2.nodes := fun x hx => by
  obtain ⟨i, h1, _⟩ := kids_mem hx
  have h2 := List.mem_of_getElem? h1
  have h3 := nodesAll_mem h2
  have h4 := inner_nodes h
  exact ⟨inner_all h _ h2, by omega⟩
theorem pre_fuel : ∀ (n : Nat) (e : List Int × D), RuleOk e.2 → e.2.nodes ≤ n → pre n e = pre (n + 1) e
  | 0, e, h, hn => by
    have := inner_nodes h
    omega
  | n + 1, e, h, hn => by
    show e :: (kids e).flatMap (pre n) = e :: (kids e).flatMap (pre (n + 1))
    congr 1
    have : ∀ x ∈ kids e, pre n x = pre (n + 1) x := fun x hx => by
      obtain ⟨h1, h2⟩ := kids_ok h x hx
      exact pre_fuel n x h1 (by omega)
    rw [List.flatMap_def, List.flatMap_def, List.map_congr_left this]
/-- what stands at a place -/
def partAt : D → List Int → Option D
  | d, [] => some d
  | d, i :: p => match atI (inner d) i with
    | some x => partAt x p
    | none => none
theorem partAt_app : ∀ (d : D) (p q : List Int), partAt d (p ++ q) = (partAt d p).bind fun x => partAt x q
  | d, [], q => rfl
  | d, i :: p, q => by
    cases h : atI (inner d) i with
    | none => simp [partAt, h]
    | some x => simp [partAt, h, partAt_app x p q]
theorem pre_at {root : D} : ∀ (n : Nat) (e x : List Int × D), partAt root e.1 = some e.2 → x ∈ pre n e → partAt root x.1 = some x.2
  | 0, e, x, _, h => by cases h
  | n + 1, e, x, h0, h => by
    rcases List.mem_cons.mp h with rfl | h
    · exact h0
    · obtain ⟨k, hk, hx⟩ := List.mem_flatMap.mp h
      obtain ⟨i, h1, h2⟩ := kids_mem hk
      refine pre_at n k x ?_ hx
      rw [h2, partAt_app, h0]
      show (match atI (inner e.2) (i : Int) with | some x => partAt x [] | none => none) = _
      rw [at_nat h1]
      rfl
theorem pre_len : ∀ (n : Nat) (e : List Int × D), RuleOk e.2 → (pre n e).length ≤ e.2.nodes
  | 0, e, _ => Nat.zero_le _
  | n + 1, e, h => by
    have h4 := inner_nodes h
    have : ((kids e).flatMap (pre n)).length ≤ D.nodesAll (inner e.2) := by
      unfold kids
      have go : ∀ (ds : List D) (j : Nat), (∀ x ∈ ds, RuleOk x) → (((ds.zipIdx j).map fun p => (e.1 ++ [(p.2 : Int)], p.1)).flatMap (pre n)).length ≤ D.nodesAll ds := by
        intro ds
        induction ds with
        | nil => intro j _; simp
        | cons d ds ih =>
          intro j ha
          have h1 : (pre n (e.1 ++ [(j : Int)], d)).length ≤ d.nodes := pre_len n (e.1 ++ [(j : Int)], d) (ha d List.mem_cons_self)
          have h2 := ih (j + 1) fun x hx => ha x (List.mem_cons_of_mem _ hx)
          simp only [List.zipIdx_cons, List.map_cons, List.flatMap_cons, List.length_append, D.nodesAll]
          omega
      exact go _ 0 (inner_all h)
    show ((kids e).flatMap (pre n)).length + 1 ≤ _
    omega
/-! the sequence of the places: as they are sorted -/
def plD (p : List Int) : D := .tup (p.map .int)
theorem toksAll_ints (p : List Int) : D.toksAll (p.map .int) = p.flatMap (fun i => [1, 0, i]) ++ [0] := by
  induction p with
  | nil => rfl
  | cons i p ih => simp [D.toksAll, D.toks, ih]
theorem tlt_pl {p q : List Int} : tlt (plD p) (plD q) = decide (p.flatMap (fun i => [1, 0, i]) ++ [(0 : Int)] < q.flatMap (fun i => [1, 0, i]) ++ [0]) := by
  show decide (D.toks (.tup (p.map .int)) < D.toks (.tup (q.map .int))) = _
  simp only [D.toks, toksAll_ints, List.cons_lt_cons_iff, Int.lt_irrefl, false_or, true_and]
/-- a place lies ahead of what lies below it -/
theorem pl_below {p : List Int} {i : Int} {q : List Int} : tlt (plD (p ++ i :: q)) (plD p) = false := by
  rw [tlt_pl]
  refine decide_eq_false fun h => ?_
  simp only [List.flatMap_append, List.append_assoc] at h
  rw [app_lt] at h
  simp [List.cons_lt_cons_iff] at h
/-- what lies below a place, ahead of what lies below one further on -/
theorem pl_side {p : List Int} {i j : Int} (h : i < j) {q r : List Int} : tlt (plD (p ++ j :: q)) (plD (p ++ i :: r)) = false := by
  rw [tlt_pl]
  refine decide_eq_false fun g => ?_
  simp only [List.flatMap_append, List.append_assoc] at g
  rw [app_lt] at g
  simp [List.cons_lt_cons_iff] at g
  omega
theorem pre_pre : ∀ (n : Nat) (e x : List Int × D), x ∈ pre n e → ∃ q, x.1 = e.1 ++ q
  | 0, e, x, h => by cases h
  | n + 1, e, x, h => by
    rcases List.mem_cons.mp h with rfl | h
    · exact ⟨[], by simp⟩
    · obtain ⟨k, hk, hx⟩ := List.mem_flatMap.mp h
      obtain ⟨i, h1, h2⟩ := kids_mem hk
      obtain ⟨q, hq⟩ := pre_pre n k x hx
      exact ⟨(i : Int) :: q, by rw [hq, h2]; simp⟩
theorem pre_below : ∀ (n : Nat) (e x : List Int × D), x ∈ (kids e).flatMap (pre n) → ∃ (i : Int) (q : List Int), x.1 = e.1 ++ i :: q := fun n e x h => by
  obtain ⟨k, hk, hx⟩ := List.mem_flatMap.mp h
  obtain ⟨i, h1, h2⟩ := kids_mem hk
  obtain ⟨q, hq⟩ := pre_pre n k x hx
  exact ⟨i, q, by rw [hq, h2]; simp⟩
theorem pre_up : ∀ (n : Nat) (e : List Int × D), UpD ((pre n e).map fun x => plD x.1)
  | 0, e => List.Pairwise.nil
  | n + 1, e => by
    show UpD (plD e.1 :: ((kids e).flatMap (pre n)).map fun x => plD x.1)
    refine List.pairwise_cons.mpr ⟨fun y hy => ?_, ?_⟩
    · obtain ⟨x, hx, rfl⟩ := List.mem_map.mp hy
      obtain ⟨i, q, hq⟩ := pre_below n e x hx
      rw [hq]
      exact pl_below
    · have go : ∀ (ds : List D) (j : Nat), UpD ((((ds.zipIdx j).map fun p => (e.1 ++ [(p.2 : Int)], p.1)).flatMap (pre n)).map fun x => plD x.1) ∧ ∀ x ∈ (((ds.zipIdx j).map fun p => (e.1 ++ [(p.2 : Int)], p.1)).flatMap (pre n)), ∃ (i : Nat) (q : List Int), j ≤ i ∧ x.1 = e.1 ++ (i : Int) :: q := by
        intro ds
        induction ds with
        | nil => intro j; exact ⟨List.Pairwise.nil, fun x hx => by simp at hx⟩
        | cons d ds ih =>
          intro j
          obtain ⟨h1, h2⟩ := ih (j + 1)
          simp only [List.zipIdx_cons, List.map_cons, List.flatMap_cons, List.map_append]
          have h3 : ∀ x ∈ pre n (e.1 ++ [(j : Int)], d), ∃ q, x.1 = e.1 ++ (j : Int) :: q := fun x hx => by
            obtain ⟨q, hq⟩ := pre_pre n _ x hx
            exact ⟨q, by rw [hq]; simp⟩
          refine ⟨List.pairwise_append.mpr ⟨pre_up n _, h1, fun a ha b hb => ?_⟩, fun x hx => ?_⟩
          · obtain ⟨x, hx, rfl⟩ := List.mem_map.mp ha
            obtain ⟨y, hy, rfl⟩ := List.mem_map.mp hb
            obtain ⟨q, hq⟩ := h3 x hx
            obtain ⟨i, r, hi, hr⟩ := h2 y hy
            rw [hq, hr]
            exact pl_side (by omega)
          · rcases List.mem_append.mp hx with hx | hx
            · obtain ⟨q, hq⟩ := h3 x hx
              exact ⟨j, q, Nat.le_refl _, hq⟩
            · obtain ⟨i, q, hi, hq⟩ := h2 x hx
              exact ⟨i, q, by omega, hq⟩
      exact (go _ 0).1
theorem plD_inj {p q : List Int} (h : plD p = plD q) : p = q := by
  unfold plD at h
  have := D.tup.inj h
  exact (List.map_inj_right fun a b hab => D.int.inj hab).mp this
end DL
/-! law_k01_rule_parts: what each def means. Printed by gen.py. -/
namespace DL.k01
open PySem PySem.Spec L2 PyProof.Rows DL
def topS (i : Nat) : Stmt := PySem.Challenge.pw_nomoregranted_k01_rule_parts.main.body.getD i (.Pass ⟨0, 0, 0, 0⟩)
abbrev s_inner_rules : Stmt := topS 4
theorem sc_inner_rules : FnScope ["rule"] ["rule"] (defScope s_inner_rules) := ⟨rfl, rfl, rfl, by decide +kernel, rfl, by decide +kernel, by decide +kernel⟩
def g_inner_rules : DSt := (dSeq (dIfS (dTest (dBin opIn (dBin opIxM (dVar 0) (dC (.int 0))) (dTup (dCons (dC (.str "or")) (dCons (dC (.str "and")) dNil))))) (dRet (dBin opIxM (dVar 0) (dC (.int 1)))) dNext)
  (dRet (dIf (dTest (dBin opEq (dBin opIxM (dVar 0) (dC (.int 0))) (dC (.str "but")))) (dSl opSl (dVar 0) (dPt (dC (.int 1))) dNoPt) (dTup dNil))))
def F_inner_rules : List D → Mem → R D := runB 1 1 g_inner_rules
theorem ok_inner_rules {P : Program} {w : World} {K : PySem.W.Frag} {mg : Str → Option Value} {base : Heap} (B : Bi mg) {f : Addr} {fd : FuncData} (hmg : mg "inner_rules" = some (.ref f)) (Fu : Fun K "inner_rules" "inner_rules" s_inner_rules f fd) : Cal P w K mg base 1 "inner_rules" s_inner_rules ["rule"] F_inner_rules := by
  have bi : Binds K fd ["rule"] [] := Fu.binds fun _ _ _ _ _ _ us hl => match us, hl with | [_], _ => rfl
  have G := fn_ok (P := P) (w := w) (mg := mg) (base := base) (k := 0) (g := g_inner_rules) Fu sc_inner_rules fun cdv A outer s H Ex hr => by
    have o : Ok (cxOf (L2.CX P w) P w K mg base ["rule"] "inner_rules" (defScope s_inner_rules) f cdv A outer s H Ex) 0 := ⟨hr, rfl, sc_inner_rules.nd⟩
    have tk : Takes (cxOf (L2.CX P w) P w K mg base ["rule"] "inner_rules" (defScope s_inner_rules) f cdv A outer s H Ex) (fun c d _ H' => Ex c d H') := takes_of rfl rfl rfl rfl
    have pt := pass_of tk
    have po := L2.passes_of (X := cxOf (L2.CX P w) P w K mg base ["rule"] "inner_rules" (defScope s_inner_rules) f cdv A outer s H Ex) rfl
    exact (dss_cons (ds_if (t_in o (e_ix o (de_var 0) de_int) (de_tup (da_cons de_str (da_cons de_str da_nil)))) (dss_one (ds_ret (e_ix o (de_var 0) de_int))) dss_nil)
  (dss_one (ds_ret (de_if (t_eq o (e_ix o (de_var 0) de_int) de_str) (de_slice (de_var 0) (do_some de_int) do_none) (de_tup da_nil)))))
  exact ⟨f, fd, hmg, Fu, bi, G.1, G.2⟩
abbrev s_rule_parts : Stmt := topS 5
theorem sc_rule_parts : FnScope ["rule", "found", "waiting", "inner", "place", "part", "number", "one"] ["rule"] (defScope s_rule_parts) := ⟨rfl, rfl, rfl, by decide +kernel, rfl, by decide +kernel, by decide +kernel⟩
def g_rule_parts : DSt := (dSeq (dSet 1 (dLst dNil))
  (dSeq (dSet 2 (dLst (dCons (dTup (dCons (dTup dNil) (dCons (dVar 0) dNil))) dNil)))
  (dSeq (dWhile (dTru (dVar 2)) (dSeq (dAsg (dMt0 isLst mPop (dVar 2)) (γTL 2 (γCons (γName 4) (γCons (γName 5) γNil))))
  (dSeq (dDrop (dMt isLst mAppend (dVar 1) (dCons (dTup (dCons (dVar 4) (dCons (dVar 5) dNil))) dNil)))
  (dSeq (dSet 3 (dUn opListEnum (dApp F_inner_rules [] (dCons (dVar 5) dNil))))
  (dDrop (dMt isLst mExtend (dVar 2) (dCons (dLc (dIt (dUn opRevL (dVar 3))) (γTL 2 (γCons (γName 6) (γCons (γName 7) γNil))) dYes (dTup (dCons (dBin opAdd (dVar 4) (dTup (dCons (dVar 6) dNil))) (dCons (dVar 7) dNil))) [6, 7]) dNil)))))))
  (dRet (dCall (fn1 opTuple) (dCons (dVar 1) dNil))))))
def F_rule_parts : List D → Mem → R D := runB 1 8 g_rule_parts
theorem ok_rule_parts {P : Program} {w : World} {K : PySem.W.Frag} {mg : Str → Option Value} {base : Heap} (B : Bi mg) (c_inner_rules : Cal P w K mg base 1 "inner_rules" s_inner_rules ["rule"] F_inner_rules) {f : Addr} {fd : FuncData} (hmg : mg "rule_parts" = some (.ref f)) (Fu : Fun K "rule_parts" "rule_parts" s_rule_parts f fd) : Cal P w K mg base 2 "rule_parts" s_rule_parts ["rule"] F_rule_parts := by
  have bi : Binds K fd ["rule"] [] := Fu.binds fun _ _ _ _ _ _ us hl => match us, hl with | [_], _ => rfl
  have G := fn_ok (P := P) (w := w) (mg := mg) (base := base) (k := 1) (g := g_rule_parts) Fu sc_rule_parts fun cdv A outer s H Ex hr => by
    have o : Ok (cxOf (L2.CX P w) P w K mg base ["rule", "found", "waiting", "inner", "place", "part", "number", "one"] "rule_parts" (defScope s_rule_parts) f cdv A outer s H Ex) 1 := ⟨hr, rfl, sc_rule_parts.nd⟩
    have tk : Takes (cxOf (L2.CX P w) P w K mg base ["rule", "found", "waiting", "inner", "place", "part", "number", "one"] "rule_parts" (defScope s_rule_parts) f cdv A outer s H Ex) (fun c d _ H' => Ex c d H') := takes_of rfl rfl rfl rfl
    have pt := pass_of tk
    have po := L2.passes_of (X := cxOf (L2.CX P w) P w K mg base ["rule", "found", "waiting", "inner", "place", "part", "number", "one"] "rule_parts" (defScope s_rule_parts) f cdv A outer s H Ex) rfl
    exact (dss_cons (ds_set (i := 1) o.nd rfl (by first | exact Or.inl rfl | exact Or.inr rfl) (de_lst da_nil))
  (dss_cons (ds_set (i := 2) o.nd rfl (by first | exact Or.inl rfl | exact Or.inr rfl) (de_lst (da_cons (de_tup (da_cons (de_tup da_nil) (da_cons (de_var 0) da_nil))) da_nil)))
  (dss_cons (ds_while po (dt_tru (de_var 2)) (dss_cons (ds_asg (e_pop (de_var 2)) (pg_TL o.calm (pgs_cons (pg_name (i := 4) o.nd rfl (by first | exact Or.inl rfl | exact Or.inr rfl)) (pgs_cons (pg_name (i := 5) o.nd rfl (by first | exact Or.inl rfl | exact Or.inr rfl)) pgs_nil))) (gok_TL 2 (gok_cons (gok_name 4) (gok_cons (gok_name 5) gok_nil))))
  (dss_cons (ds_expr (e_append (de_var 1) (de_tup (da_cons (de_var 4) (da_cons (de_var 5) da_nil)))))
  (dss_cons (ds_set (i := 3) o.nd rfl (by first | exact Or.inl rfl | exact Or.inr rfl) (de_listEnum o.calm (by rfl) B.enumerate (by rfl) B.list (e_call c_inner_rules (o.room.mono (by decide)) pt (da_cons (de_var 5) da_nil))))
  (dss_one (ds_expr (e_extend (de_var 2) (de_lc (own := [("number", 6), ("one", 7)]) o.calm o.nd (di_any (de_revL (de_var 3))) (blk_ok ["rule", "found", "waiting", "inner", "place", "part", "number", "one"] (defScope s_rule_parts) (by decide +kernel)) (fun _ _ _ _ _ => (pg_TL (Ok.blk o).calm (pgs_cons (pg_name (i := 6) (Ok.blk o).nd rfl (by first | exact Or.inl rfl | exact Or.inr rfl)) (pgs_cons (pg_name (i := 7) (Ok.blk o).nd rfl (by first | exact Or.inl rfl | exact Or.inr rfl)) pgs_nil)))) (gok_TL 2 (gok_cons (gok_name 6) (gok_cons (gok_name 7) gok_nil))) (by decide) (fun _ _ _ _ _ => dts_nil) (fun _ _ _ _ _ => (de_tup (da_cons (de_add (de_var 4) (de_tup (da_cons (de_var 6) da_nil))) (da_cons (de_var 7) da_nil))))))))))))
  (dss_one (ds_ret (e_tuple B (de_var 1)))))))
  exact ⟨f, fd, hmg, Fu, bi, G.1, G.2⟩
abbrev s_part_at : Stmt := topS 6
theorem sc_part_at : FnScope ["rule", "place", "number"] ["rule", "place"] (defScope s_part_at) := ⟨rfl, rfl, rfl, by decide +kernel, rfl, by decide +kernel, by decide +kernel⟩
def g_part_at : DSt := (dSeq (dFor (dIt (dVar 1)) (γName 2) (dSet 0 (dBin opIxM (dApp F_inner_rules [] (dCons (dVar 0) dNil)) (dVar 2))))
  (dRet (dVar 0)))
def F_part_at : List D → Mem → R D := runB 2 3 g_part_at
theorem ok_part_at {P : Program} {w : World} {K : PySem.W.Frag} {mg : Str → Option Value} {base : Heap} (B : Bi mg) (c_inner_rules : Cal P w K mg base 1 "inner_rules" s_inner_rules ["rule"] F_inner_rules) {f : Addr} {fd : FuncData} (hmg : mg "part_at" = some (.ref f)) (Fu : Fun K "part_at" "part_at" s_part_at f fd) : Cal P w K mg base 2 "part_at" s_part_at ["rule", "place"] F_part_at := by
  have bi : Binds K fd ["rule", "place"] [] := Fu.binds fun _ _ _ _ _ _ us hl => match us, hl with | [_, _], _ => rfl
  have G := fn_ok (P := P) (w := w) (mg := mg) (base := base) (k := 1) (g := g_part_at) Fu sc_part_at fun cdv A outer s H Ex hr => by
    have o : Ok (cxOf (L2.CX P w) P w K mg base ["rule", "place", "number"] "part_at" (defScope s_part_at) f cdv A outer s H Ex) 1 := ⟨hr, rfl, sc_part_at.nd⟩
    have tk : Takes (cxOf (L2.CX P w) P w K mg base ["rule", "place", "number"] "part_at" (defScope s_part_at) f cdv A outer s H Ex) (fun c d _ H' => Ex c d H') := takes_of rfl rfl rfl rfl
    have pt := pass_of tk
    have po := L2.passes_of (X := cxOf (L2.CX P w) P w K mg base ["rule", "place", "number"] "part_at" (defScope s_part_at) f cdv A outer s H Ex) rfl
    exact (dss_cons (ds_for po o.calm (di_any (de_var 1)) (pg_name (i := 2) o.nd rfl (by first | exact Or.inl rfl | exact Or.inr rfl)) (gok_name 2) (dss_one (ds_set (i := 0) o.nd rfl (by first | exact Or.inl rfl | exact Or.inr rfl) (e_ix o (e_call c_inner_rules (o.room.mono (by decide)) pt (da_cons (de_var 0) da_nil)) (de_var 2)))))
  (dss_one (ds_ret (de_var 0))))
  exact ⟨f, fd, hmg, Fu, bi, G.1, G.2⟩
abbrev s_rule_with : Stmt := topS 7
theorem sc_rule_with : FnScope ["rule", "number", "new", "inner", "changed"] ["rule", "number", "new"] (defScope s_rule_with) := ⟨rfl, rfl, rfl, by decide +kernel, rfl, by decide +kernel, by decide +kernel⟩
def g_rule_with : DSt := (dSeq (dSet 3 (dApp F_inner_rules [] (dCons (dVar 0) dNil)))
  (dSeq (dSet 4 (dBin opAdd (dBin opAdd (dSl opSl (dVar 3) dNoPt (dPt (dVar 1))) (dTup (dCons (dVar 2) dNil))) (dSl opSl (dVar 3) (dPt (dBin opAdd (dVar 1) (dC (.int 1)))) dNoPt)))
  (dRet (dIf (dTest (dBin opNe (dBin opIxM (dVar 0) (dC (.int 0))) (dC (.str "but")))) (dTup (dCons (dBin opIxM (dVar 0) (dC (.int 0))) (dCons (dVar 4) dNil))) (dBin opAdd (dTup (dCons (dBin opIxM (dVar 0) (dC (.int 0))) dNil)) (dVar 4))))))
def F_rule_with : List D → Mem → R D := runB 3 5 g_rule_with
theorem ok_rule_with {P : Program} {w : World} {K : PySem.W.Frag} {mg : Str → Option Value} {base : Heap} (B : Bi mg) (c_inner_rules : Cal P w K mg base 1 "inner_rules" s_inner_rules ["rule"] F_inner_rules) {f : Addr} {fd : FuncData} (hmg : mg "rule_with" = some (.ref f)) (Fu : Fun K "rule_with" "rule_with" s_rule_with f fd) : Cal P w K mg base 2 "rule_with" s_rule_with ["rule", "number", "new"] F_rule_with := by
  have bi : Binds K fd ["rule", "number", "new"] [] := Fu.binds fun _ _ _ _ _ _ us hl => match us, hl with | [_, _, _], _ => rfl
  have G := fn_ok (P := P) (w := w) (mg := mg) (base := base) (k := 1) (g := g_rule_with) Fu sc_rule_with fun cdv A outer s H Ex hr => by
    have o : Ok (cxOf (L2.CX P w) P w K mg base ["rule", "number", "new", "inner", "changed"] "rule_with" (defScope s_rule_with) f cdv A outer s H Ex) 1 := ⟨hr, rfl, sc_rule_with.nd⟩
    have tk : Takes (cxOf (L2.CX P w) P w K mg base ["rule", "number", "new", "inner", "changed"] "rule_with" (defScope s_rule_with) f cdv A outer s H Ex) (fun c d _ H' => Ex c d H') := takes_of rfl rfl rfl rfl
    have pt := pass_of tk
    have po := L2.passes_of (X := cxOf (L2.CX P w) P w K mg base ["rule", "number", "new", "inner", "changed"] "rule_with" (defScope s_rule_with) f cdv A outer s H Ex) rfl
    exact (dss_cons (ds_set (i := 3) o.nd rfl (by first | exact Or.inl rfl | exact Or.inr rfl) (e_call c_inner_rules (o.room.mono (by decide)) pt (da_cons (de_var 0) da_nil)))
  (dss_cons (ds_set (i := 4) o.nd rfl (by first | exact Or.inl rfl | exact Or.inr rfl) (de_add (de_add (de_slice (de_var 3) do_none (do_some (de_var 1))) (de_tup (da_cons (de_var 2) da_nil))) (de_slice (de_var 3) (do_some (de_add (de_var 1) de_int)) do_none)))
  (dss_one (ds_ret (de_if (t_ne o (e_ix o (de_var 0) de_int) de_str) (de_tup (da_cons (e_ix o (de_var 0) de_int) (da_cons (de_var 4) da_nil))) (de_add (de_tup (da_cons (e_ix o (de_var 0) de_int) da_nil)) (de_var 4)))))))
  exact ⟨f, fd, hmg, Fu, bi, G.1, G.2⟩
abbrev s_put_part : Stmt := topS 8
theorem sc_put_part : FnScope ["rule", "place", "new", "depth"] ["rule", "place", "new"] (defScope s_put_part) := ⟨rfl, rfl, rfl, by decide +kernel, rfl, by decide +kernel, by decide +kernel⟩
def g_put_part : DSt := (dSeq (dFor (dRevR (dCall (fn1 opLen) (dCons (dVar 1) dNil))) (γName 3) (dSet 2 (dApp F_rule_with [] (dCons (dApp F_part_at [] (dCons (dVar 0) (dCons (dSl opSl (dVar 1) dNoPt (dPt (dVar 3))) dNil))) (dCons (dBin opIxM (dVar 1) (dVar 3)) (dCons (dVar 2) dNil))))))
  (dRet (dVar 2)))
def F_put_part : List D → Mem → R D := runB 3 4 g_put_part
theorem ok_put_part {P : Program} {w : World} {K : PySem.W.Frag} {mg : Str → Option Value} {base : Heap} (B : Bi mg) (c_rule_with : Cal P w K mg base 2 "rule_with" s_rule_with ["rule", "number", "new"] F_rule_with) (c_part_at : Cal P w K mg base 2 "part_at" s_part_at ["rule", "place"] F_part_at) {f : Addr} {fd : FuncData} (hmg : mg "put_part" = some (.ref f)) (Fu : Fun K "put_part" "put_part" s_put_part f fd) : Cal P w K mg base 3 "put_part" s_put_part ["rule", "place", "new"] F_put_part := by
  have bi : Binds K fd ["rule", "place", "new"] [] := Fu.binds fun _ _ _ _ _ _ us hl => match us, hl with | [_, _, _], _ => rfl
  have G := fn_ok (P := P) (w := w) (mg := mg) (base := base) (k := 2) (g := g_put_part) Fu sc_put_part fun cdv A outer s H Ex hr => by
    have o : Ok (cxOf (L2.CX P w) P w K mg base ["rule", "place", "new", "depth"] "put_part" (defScope s_put_part) f cdv A outer s H Ex) 2 := ⟨hr, rfl, sc_put_part.nd⟩
    have tk : Takes (cxOf (L2.CX P w) P w K mg base ["rule", "place", "new", "depth"] "put_part" (defScope s_put_part) f cdv A outer s H Ex) (fun c d _ H' => Ex c d H') := takes_of rfl rfl rfl rfl
    have pt := pass_of tk
    have po := L2.passes_of (X := cxOf (L2.CX P w) P w K mg base ["rule", "place", "new", "depth"] "put_part" (defScope s_put_part) f cdv A outer s H Ex) rfl
    exact (dss_cons (ds_for po o.calm (di_revR (by rfl) B.reversed (by rfl) B.range (e_len B (de_var 1))) (pg_name (i := 3) o.nd rfl (by first | exact Or.inl rfl | exact Or.inr rfl)) (gok_name 3) (dss_one (ds_set (i := 2) o.nd rfl (by first | exact Or.inl rfl | exact Or.inr rfl) (e_call c_rule_with (o.room.mono (by decide)) pt (da_cons (e_call c_part_at (o.room.mono (by decide)) pt (da_cons (de_var 0) (da_cons (de_slice (de_var 1) do_none (do_some (de_var 3))) da_nil))) (da_cons (e_ix o (de_var 1) (de_var 3)) (da_cons (de_var 2) da_nil)))))))
  (dss_one (ds_ret (de_var 2))))
  exact ⟨f, fd, hmg, Fu, bi, G.1, G.2⟩
abbrev s_without_part : Stmt := topS 9
theorem sc_without_part : FnScope ["rule", "place", "around", "left", "rest"] ["rule", "place"] (defScope s_without_part) := ⟨rfl, rfl, rfl, by decide +kernel, rfl, by decide +kernel, by decide +kernel⟩
def g_without_part : DSt := (dSeq (dIfS (dNot (dTru (dVar 1))) (dRaise "BadStep" ["word"] (dCons (dC (.str "place")) dNil)) dNext)
  (dSeq (dSet 2 (dApp F_part_at [] (dCons (dVar 0) (dCons (dSl opSl (dVar 1) dNoPt (dPt (dUn opNeg (dC (.int 1))))) dNil))))
  (dSeq (dIfS (dTest (dBin opEq (dBin opIxM (dVar 2) (dC (.int 0))) (dC (.str "but")))) (dSeq (dIfS (dTest (dBin opEq (dBin opIxM (dVar 1) (dUn opNeg (dC (.int 1)))) (dC (.int 0)))) (dRaise "BadStep" ["word"] (dCons (dC (.str "place")) dNil)) dNext)
  (dSet 3 (dBin opIxM (dVar 2) (dC (.int 1))))) (dSeq (dSet 4 (dBin opAdd (dSl opSl (dBin opIxM (dVar 2) (dC (.int 1))) dNoPt (dPt (dBin opIxM (dVar 1) (dUn opNeg (dC (.int 1)))))) (dSl opSl (dBin opIxM (dVar 2) (dC (.int 1))) (dPt (dBin opAdd (dBin opIxM (dVar 1) (dUn opNeg (dC (.int 1)))) (dC (.int 1)))) dNoPt)))
  (dSet 3 (dIf (dTest (dBin opEq (dCall (fn1 opLen) (dCons (dVar 4) dNil)) (dC (.int 1)))) (dBin opIxM (dVar 4) (dC (.int 0))) (dTup (dCons (dBin opIxM (dVar 2) (dC (.int 0))) (dCons (dVar 4) dNil)))))))
  (dRet (dApp F_put_part [] (dCons (dVar 0) (dCons (dSl opSl (dVar 1) dNoPt (dPt (dUn opNeg (dC (.int 1))))) (dCons (dVar 3) dNil))))))))
def F_without_part : List D → Mem → R D := runB 2 5 g_without_part
theorem ok_without_part {P : Program} {w : World} {K : PySem.W.Frag} {mg : Str → Option Value} {base : Heap} (B : Bi mg) {C_BadStep I_BadStep : Addr} {D_BadStep : FuncData} (x_BadStep : Exc1 P w K mg base 1 "BadStep" ["word"] C_BadStep I_BadStep D_BadStep) (c_part_at : Cal P w K mg base 2 "part_at" s_part_at ["rule", "place"] F_part_at) (c_put_part : Cal P w K mg base 3 "put_part" s_put_part ["rule", "place", "new"] F_put_part) {f : Addr} {fd : FuncData} (hmg : mg "without_part" = some (.ref f)) (Fu : Fun K "without_part" "without_part" s_without_part f fd) : Cal P w K mg base 4 "without_part" s_without_part ["rule", "place"] F_without_part := by
  have bi : Binds K fd ["rule", "place"] [] := Fu.binds fun _ _ _ _ _ _ us hl => match us, hl with | [_, _], _ => rfl
  have G := fn_ok (P := P) (w := w) (mg := mg) (base := base) (k := 3) (g := g_without_part) Fu sc_without_part fun cdv A outer s H Ex hr => by
    have o : Ok (cxOf (L2.CX P w) P w K mg base ["rule", "place", "around", "left", "rest"] "without_part" (defScope s_without_part) f cdv A outer s H Ex) 3 := ⟨hr, rfl, sc_without_part.nd⟩
    have tk : Takes (cxOf (L2.CX P w) P w K mg base ["rule", "place", "around", "left", "rest"] "without_part" (defScope s_without_part) f cdv A outer s H Ex) (fun c d _ H' => Ex c d H') := takes_of rfl rfl rfl rfl
    have pt := pass_of tk
    have po := L2.passes_of (X := cxOf (L2.CX P w) P w K mg base ["rule", "place", "around", "left", "rest"] "without_part" (defScope s_without_part) f cdv A outer s H Ex) rfl
    exact (dss_cons (ds_if (dt_not (dt_tru (de_var 1))) (dss_one (e_raise x_BadStep o tk (o.room.mono (by decide)) (da_cons de_str da_nil))) dss_nil)
  (dss_cons (ds_set (i := 2) o.nd rfl (by first | exact Or.inl rfl | exact Or.inr rfl) (e_call c_part_at (o.room.mono (by decide)) pt (da_cons (de_var 0) (da_cons (de_slice (de_var 1) do_none (do_some (de_neg de_int))) da_nil))))
  (dss_cons (ds_if (t_eq o (e_ix o (de_var 2) de_int) de_str) (dss_cons (ds_if (t_eq o (e_ix o (de_var 1) (de_neg de_int)) de_int) (dss_one (e_raise x_BadStep o tk (o.room.mono (by decide)) (da_cons de_str da_nil))) dss_nil)
  (dss_one (ds_set (i := 3) o.nd rfl (by first | exact Or.inl rfl | exact Or.inr rfl) (e_ix o (de_var 2) de_int)))) (dss_cons (ds_set (i := 4) o.nd rfl (by first | exact Or.inl rfl | exact Or.inr rfl) (de_add (de_slice (e_ix o (de_var 2) de_int) do_none (do_some (e_ix o (de_var 1) (de_neg de_int)))) (de_slice (e_ix o (de_var 2) de_int) (do_some (de_add (e_ix o (de_var 1) (de_neg de_int)) de_int)) do_none)))
  (dss_one (ds_set (i := 3) o.nd rfl (by first | exact Or.inl rfl | exact Or.inr rfl) (de_if (t_eq o (e_len B (de_var 4)) de_int) (e_ix o (de_var 4) de_int) (de_tup (da_cons (e_ix o (de_var 2) de_int) (da_cons (de_var 4) da_nil))))))))
  (dss_one (ds_ret (e_call c_put_part (o.room.mono (by decide)) pt (da_cons (de_var 0) (da_cons (de_slice (de_var 1) do_none (do_some (de_neg de_int))) (da_cons (de_var 3) da_nil)))))))))
  exact ⟨f, fd, hmg, Fu, bi, G.1, G.2⟩
abbrev s__law_start : Stmt := topS 11
theorem sc__law_start : FnScope ["script", "mix", "pool", "cell", "size", "lap"] ["script"] (defScope s__law_start) := ⟨rfl, rfl, rfl, by decide +kernel, rfl, by decide +kernel, by decide +kernel⟩
def g__law_start : DSt := (dSeq (dSet 1 (dC (.int 12007)))
  (dSeq (dSet 2 (dLst dNil))
  (dSeq (dFor (dIt (dSl opSl (dVar 0) dNoPt (dPt (dC (.int 63))))) (γName 3) (dSeq (dSet 4 (dCall (fn1 opAbs) (dCons (dCall (fn1 opIntOf) (dCons (dVar 3) dNil)) dNil)))
  (dSeq (dSet 1 (dBin opMod (dCall (fn1 opIntOf) (dCons (dBin opAdd (dBin opAdd (dBin opMul (dVar 1) (dC (.int 31121))) (dBin opMod (dCall (fn1 opIntOf) (dCons (dVar 4) dNil)) (dC (.int 2147483477)))) (dC (.int 4211))) dNil)) (dC (.int 2147483549))))
  (dIfS (dTest (dBin opGe (dVar 4) (dBin opPow (dC (.int 10)) (dC (.int 18))))) (dFor (dRange1 (dC (.int 60))) (γName 5) (dSeq (dIfS (dTest (dBin opEq (dVar 4) (dC (.int 0)))) dBreak dNext)
  (dSeq (dDrop (dMt isLst mAppend (dVar 2) (dCons (dBin opMod (dCall (fn1 opIntOf) (dCons (dVar 4) dNil)) (dC (.int 9587))) dNil)))
  (dSet 4 (dBin opDiv (dVar 4) (dC (.int 9587))))))) dNext))))
  (dRet (dLst (dCons (dVar 2) (dCons (dVar 1) (dCons (dC (.int 0)) dNil))))))))
def F__law_start : List D → Mem → R D := runB 1 6 g__law_start
theorem ok__law_start {P : Program} {w : World} {K : PySem.W.Frag} {mg : Str → Option Value} {base : Heap} (B : Bi mg) {f : Addr} {fd : FuncData} (hmg : mg "_law_start" = some (.ref f)) (Fu : Fun K "_law_start" "_law_start" s__law_start f fd) : Cal P w K mg base 1 "_law_start" s__law_start ["script"] F__law_start := by
  have bi : Binds K fd ["script"] [] := Fu.binds fun _ _ _ _ _ _ us hl => match us, hl with | [_], _ => rfl
  have G := fn_ok (P := P) (w := w) (mg := mg) (base := base) (k := 0) (g := g__law_start) Fu sc__law_start fun cdv A outer s H Ex hr => by
    have o : Ok (cxOf (L2.CX P w) P w K mg base ["script", "mix", "pool", "cell", "size", "lap"] "_law_start" (defScope s__law_start) f cdv A outer s H Ex) 0 := ⟨hr, rfl, sc__law_start.nd⟩
    have tk : Takes (cxOf (L2.CX P w) P w K mg base ["script", "mix", "pool", "cell", "size", "lap"] "_law_start" (defScope s__law_start) f cdv A outer s H Ex) (fun c d _ H' => Ex c d H') := takes_of rfl rfl rfl rfl
    have pt := pass_of tk
    have po := L2.passes_of (X := cxOf (L2.CX P w) P w K mg base ["script", "mix", "pool", "cell", "size", "lap"] "_law_start" (defScope s__law_start) f cdv A outer s H Ex) rfl
    exact (dss_cons (ds_set (i := 1) o.nd rfl (by first | exact Or.inl rfl | exact Or.inr rfl) de_int)
  (dss_cons (ds_set (i := 2) o.nd rfl (by first | exact Or.inl rfl | exact Or.inr rfl) (de_lst da_nil))
  (dss_cons (ds_for po o.calm (di_any (de_slice (de_var 0) do_none (do_some de_int))) (pg_name (i := 3) o.nd rfl (by first | exact Or.inl rfl | exact Or.inr rfl)) (gok_name 3) (dss_cons (ds_set (i := 4) o.nd rfl (by first | exact Or.inl rfl | exact Or.inr rfl) (e_abs B (e_intOf B (de_var 3))))
  (dss_cons (ds_set (i := 1) o.nd rfl (by first | exact Or.inl rfl | exact Or.inr rfl) (de_mod (e_intOf B (de_add (de_add (de_mul (de_var 1) de_int) (de_mod (e_intOf B (de_var 4)) de_int)) de_int)) de_int))
  (dss_one (ds_if (t_ge (de_var 4) (de_pow de_int de_int)) (dss_one (ds_for po o.calm (di_range1 (by rfl) B.range de_int) (pg_name (i := 5) o.nd rfl (by first | exact Or.inl rfl | exact Or.inr rfl)) (gok_name 5) (dss_cons (ds_if (t_eq o (de_var 4) de_int) (dss_one ds_break) dss_nil)
  (dss_cons (ds_expr (e_append (de_var 2) (de_mod (e_intOf B (de_var 4)) de_int)))
  (dss_one (ds_set (i := 4) o.nd rfl (by first | exact Or.inl rfl | exact Or.inr rfl) (de_fdiv (de_var 4) de_int))))))) dss_nil)))))
  (dss_one (ds_ret (de_lst (da_cons (de_var 2) (da_cons (de_var 1) (da_cons de_int da_nil)))))))))
  exact ⟨f, fd, hmg, Fu, bi, G.1, G.2⟩
abbrev s__law_next : Stmt := topS 12
theorem sc__law_next : FnScope ["state", "many", "number"] ["state", "many"] (defScope s__law_next) := ⟨rfl, rfl, rfl, by decide +kernel, rfl, by decide +kernel, by decide +kernel⟩
def g__law_next : DSt := (dSeq (dIfS (dTest (dBin opLt (dBin opIxM (dVar 0) (dC (.int 2))) (dCall (fn1 opLen) (dCons (dBin opIxM (dVar 0) (dC (.int 0))) dNil)))) (dSeq (dSet 2 (dBin opIxM (dBin opIxM (dVar 0) (dC (.int 0))) (dBin opIxM (dVar 0) (dC (.int 2)))))
  (dSeq (dSub (dBin opAdd (dBin opIxM (dVar 0) (dC (.int 2))) (dC (.int 1))) (dVar 0) (dC (.int 2)) opSetM)
  (dRet (dBin opMod (dCall (fn1 opIntOf) (dCons (dVar 2) dNil)) (dVar 1))))) dNext)
  (dSeq (dSub (dBin opMod (dCall (fn1 opIntOf) (dCons (dBin opAdd (dBin opMul (dBin opIxM (dVar 0) (dC (.int 1))) (dC (.int 27103))) (dC (.int 6133))) dNil)) (dC (.int 2147483399))) (dVar 0) (dC (.int 1)) opSetM)
  (dSeq (dSet 2 (dBin opMod (dCall (fn1 opIntOf) (dCons (dBin opMul (dBin opIxM (dVar 0) (dC (.int 1))) (dBin opAdd (dBin opDiv (dBin opIxM (dVar 0) (dC (.int 1))) (dC (.int 691))) (dC (.int 61)))) dNil)) (dC (.int 2147483033))))
  (dRet (dBin opMod (dCall (fn1 opIntOf) (dCons (dBin opDiv (dVar 2) (dC (.int 8))) dNil)) (dVar 1))))))
def F__law_next : List D → Mem → R D := runB 2 3 g__law_next
theorem ok__law_next {P : Program} {w : World} {K : PySem.W.Frag} {mg : Str → Option Value} {base : Heap} (B : Bi mg) {f : Addr} {fd : FuncData} (hmg : mg "_law_next" = some (.ref f)) (Fu : Fun K "_law_next" "_law_next" s__law_next f fd) : Cal P w K mg base 1 "_law_next" s__law_next ["state", "many"] F__law_next := by
  have bi : Binds K fd ["state", "many"] [] := Fu.binds fun _ _ _ _ _ _ us hl => match us, hl with | [_, _], _ => rfl
  have G := fn_ok (P := P) (w := w) (mg := mg) (base := base) (k := 0) (g := g__law_next) Fu sc__law_next fun cdv A outer s H Ex hr => by
    have o : Ok (cxOf (L2.CX P w) P w K mg base ["state", "many", "number"] "_law_next" (defScope s__law_next) f cdv A outer s H Ex) 0 := ⟨hr, rfl, sc__law_next.nd⟩
    have tk : Takes (cxOf (L2.CX P w) P w K mg base ["state", "many", "number"] "_law_next" (defScope s__law_next) f cdv A outer s H Ex) (fun c d _ H' => Ex c d H') := takes_of rfl rfl rfl rfl
    have pt := pass_of tk
    have po := L2.passes_of (X := cxOf (L2.CX P w) P w K mg base ["state", "many", "number"] "_law_next" (defScope s__law_next) f cdv A outer s H Ex) rfl
    exact (dss_cons (ds_if (t_lt (e_ix o (de_var 0) de_int) (e_len B (e_ix o (de_var 0) de_int))) (dss_cons (ds_set (i := 2) o.nd rfl (by first | exact Or.inl rfl | exact Or.inr rfl) (e_ix o (e_ix o (de_var 0) de_int) (e_ix o (de_var 0) de_int)))
  (dss_cons (ds_sub (de_add (e_ix o (de_var 0) de_int) de_int) (de_var 0) de_int (set_M o.u9) dset_M)
  (dss_one (ds_ret (de_mod (e_intOf B (de_var 2)) (de_var 1)))))) dss_nil)
  (dss_cons (ds_sub (de_mod (e_intOf B (de_add (de_mul (e_ix o (de_var 0) de_int) de_int) de_int)) de_int) (de_var 0) de_int (set_M o.u9) dset_M)
  (dss_cons (ds_set (i := 2) o.nd rfl (by first | exact Or.inl rfl | exact Or.inr rfl) (de_mod (e_intOf B (de_mul (e_ix o (de_var 0) de_int) (de_add (de_fdiv (e_ix o (de_var 0) de_int) de_int) de_int))) de_int))
  (dss_one (ds_ret (de_mod (e_intOf B (de_fdiv (de_var 2) de_int)) (de_var 1)))))))
  exact ⟨f, fd, hmg, Fu, bi, G.1, G.2⟩
abbrev s__law_same : Stmt := topS 13
theorem sc__law_same : FnScope ["told", "due", "pairs", "lap", "one", "other", "place"] ["told", "due"] (defScope s__law_same) := ⟨rfl, rfl, rfl, by decide +kernel, rfl, by decide +kernel, by decide +kernel⟩
def g__law_same : DSt := (dSeq (dSet 2 (dLst (dCons (dTup (dCons (dVar 0) (dCons (dVar 1) dNil))) dNil)))
  (dSeq (dFor (dRange1 (dC (.int 200000))) (γName 3) (dSeq (dIfS (dTest (dBin opEq (dCall (fn1 opLen) (dCons (dVar 2) dNil)) (dC (.int 0)))) (dRet (dC (.bl true))) dNext)
  (dSeq (dAsg (dMt0 isLst mPop (dVar 2)) (γTL 2 (γCons (γName 4) (γCons (γName 5) γNil))))
  (dIfS (dTru (dUn (opIsi "tuple") (dVar 5))) (dSeq (dIfS (dOr (dNot (dTru (dUn (opIsi "tuple") (dVar 4)))) (dTest (dBin opNe (dCall (fn1 opLen) (dCons (dVar 4) dNil)) (dCall (fn1 opLen) (dCons (dVar 5) dNil))))) (dRet (dC (.bl false))) dNext)
  (dFor (dRange1 (dCall (fn1 opLen) (dCons (dVar 5) dNil))) (γName 6) (dDrop (dMt isLst mAppend (dVar 2) (dCons (dTup (dCons (dBin opIxM (dVar 4) (dVar 6)) (dCons (dBin opIxM (dVar 5) (dVar 6)) dNil))) dNil))))) (dIfS (dTru (dUn (opIsi "list") (dVar 5))) (dSeq (dIfS (dOr (dNot (dTru (dUn (opIsi "list") (dVar 4)))) (dTest (dBin opNe (dCall (fn1 opLen) (dCons (dVar 4) dNil)) (dCall (fn1 opLen) (dCons (dVar 5) dNil))))) (dRet (dC (.bl false))) dNext)
  (dFor (dRange1 (dCall (fn1 opLen) (dCons (dVar 5) dNil))) (γName 6) (dDrop (dMt isLst mAppend (dVar 2) (dCons (dTup (dCons (dBin opIxM (dVar 4) (dVar 6)) (dCons (dBin opIxM (dVar 5) (dVar 6)) dNil))) dNil))))) (dIfS (dTest (dBin opIsN (dVar 5) (dC .non))) (dIfS (dTest (dBin opNotN (dVar 4) (dC .non))) (dRet (dC (.bl false))) dNext) (dIfS (dTru (dUn (opIsi "bool") (dVar 5))) (dIfS (dOr (dNot (dTru (dUn (opIsi "bool") (dVar 4)))) (dTest (dBin opNe (dVar 4) (dVar 5)))) (dRet (dC (.bl false))) dNext) (dIfS (dTru (dUn (opIsi "str") (dVar 5))) (dIfS (dOr (dNot (dTru (dUn (opIsi "str") (dVar 4)))) (dTest (dBin opNe (dVar 4) (dVar 5)))) (dRet (dC (.bl false))) dNext) (dIfS (dOr (dTru (dUn (opIsi "bool") (dVar 4))) (dOr (dNot (dTru (dUn (opIsi "int") (dVar 4)))) (dTest (dBin opNe (dVar 4) (dVar 5))))) (dRet (dC (.bl false))) dNext)))))))))
  (dRet (dC (.bl false)))))
def F__law_same : List D → Mem → R D := runB 2 7 g__law_same
theorem ok__law_same {P : Program} {w : World} {K : PySem.W.Frag} {mg : Str → Option Value} {base : Heap} (B : Bi mg) {f : Addr} {fd : FuncData} (hmg : mg "_law_same" = some (.ref f)) (Fu : Fun K "_law_same" "_law_same" s__law_same f fd) : Cal P w K mg base 1 "_law_same" s__law_same ["told", "due"] F__law_same := by
  have bi : Binds K fd ["told", "due"] [] := Fu.binds fun _ _ _ _ _ _ us hl => match us, hl with | [_, _], _ => rfl
  have G := fn_ok (P := P) (w := w) (mg := mg) (base := base) (k := 0) (g := g__law_same) Fu sc__law_same fun cdv A outer s H Ex hr => by
    have o : Ok (cxOf (L2.CX P w) P w K mg base ["told", "due", "pairs", "lap", "one", "other", "place"] "_law_same" (defScope s__law_same) f cdv A outer s H Ex) 0 := ⟨hr, rfl, sc__law_same.nd⟩
    have tk : Takes (cxOf (L2.CX P w) P w K mg base ["told", "due", "pairs", "lap", "one", "other", "place"] "_law_same" (defScope s__law_same) f cdv A outer s H Ex) (fun c d _ H' => Ex c d H') := takes_of rfl rfl rfl rfl
    have pt := pass_of tk
    have po := L2.passes_of (X := cxOf (L2.CX P w) P w K mg base ["told", "due", "pairs", "lap", "one", "other", "place"] "_law_same" (defScope s__law_same) f cdv A outer s H Ex) rfl
    exact (dss_cons (ds_set (i := 2) o.nd rfl (by first | exact Or.inl rfl | exact Or.inr rfl) (de_lst (da_cons (de_tup (da_cons (de_var 0) (da_cons (de_var 1) da_nil))) da_nil)))
  (dss_cons (ds_for po o.calm (di_range1 (by rfl) B.range de_int) (pg_name (i := 3) o.nd rfl (by first | exact Or.inl rfl | exact Or.inr rfl)) (gok_name 3) (dss_cons (ds_if (t_eq o (e_len B (de_var 2)) de_int) (dss_one (ds_ret de_bl)) dss_nil)
  (dss_cons (ds_asg (e_pop (de_var 2)) (pg_TL o.calm (pgs_cons (pg_name (i := 4) o.nd rfl (by first | exact Or.inl rfl | exact Or.inr rfl)) (pgs_cons (pg_name (i := 5) o.nd rfl (by first | exact Or.inl rfl | exact Or.inr rfl)) pgs_nil))) (gok_TL 2 (gok_cons (gok_name 4) (gok_cons (gok_name 5) gok_nil))))
  (dss_one (ds_if (dt_tru (e_isi B bt_tuple B.tuple (de_var 5))) (dss_cons (ds_if (DW.dt (dw_or (dt_not (dt_tru (e_isi B bt_tuple B.tuple (de_var 4)))) (dw_or1 (t_ne o (e_len B (de_var 4)) (e_len B (de_var 5)))))) (dss_one (ds_ret de_bl)) dss_nil)
  (dss_one (ds_for po o.calm (di_range1 (by rfl) B.range (e_len B (de_var 5))) (pg_name (i := 6) o.nd rfl (by first | exact Or.inl rfl | exact Or.inr rfl)) (gok_name 6) (dss_one (ds_expr (e_append (de_var 2) (de_tup (da_cons (e_ix o (de_var 4) (de_var 6)) (da_cons (e_ix o (de_var 5) (de_var 6)) da_nil))))))))) (dss_one (ds_if (dt_tru (e_isi B bt_list B.list (de_var 5))) (dss_cons (ds_if (DW.dt (dw_or (dt_not (dt_tru (e_isi B bt_list B.list (de_var 4)))) (dw_or1 (t_ne o (e_len B (de_var 4)) (e_len B (de_var 5)))))) (dss_one (ds_ret de_bl)) dss_nil)
  (dss_one (ds_for po o.calm (di_range1 (by rfl) B.range (e_len B (de_var 5))) (pg_name (i := 6) o.nd rfl (by first | exact Or.inl rfl | exact Or.inr rfl)) (gok_name 6) (dss_one (ds_expr (e_append (de_var 2) (de_tup (da_cons (e_ix o (de_var 4) (de_var 6)) (da_cons (e_ix o (de_var 5) (de_var 6)) da_nil))))))))) (dss_one (ds_if (t_isN (de_var 5) de_non) (dss_one (ds_if (t_notN (de_var 4) de_non) (dss_one (ds_ret de_bl)) dss_nil)) (dss_one (ds_if (dt_tru (e_isi B bt_bool B.bool (de_var 5))) (dss_one (ds_if (DW.dt (dw_or (dt_not (dt_tru (e_isi B bt_bool B.bool (de_var 4)))) (dw_or1 (t_ne o (de_var 4) (de_var 5))))) (dss_one (ds_ret de_bl)) dss_nil)) (dss_one (ds_if (dt_tru (e_isi B bt_str B.str (de_var 5))) (dss_one (ds_if (DW.dt (dw_or (dt_not (dt_tru (e_isi B bt_str B.str (de_var 4)))) (dw_or1 (t_ne o (de_var 4) (de_var 5))))) (dss_one (ds_ret de_bl)) dss_nil)) (dss_one (ds_if (DW.dt (dw_or (dt_tru (e_isi B bt_bool B.bool (de_var 4))) (dw_or (dt_not (dt_tru (e_isi B bt_int B.int (de_var 4)))) (dw_or1 (t_ne o (de_var 4) (de_var 5)))))) (dss_one (ds_ret de_bl)) dss_nil)))))))))))))))
  (dss_one (ds_ret de_bl))))
  exact ⟨f, fd, hmg, Fu, bi, G.1, G.2⟩
abbrev s__law_names : Stmt := topS 14
theorem sc__law_names : FnScope ["state", "many", "some", "left", "names", "place", "word", "lap", "other"] ["state", "many"] (defScope s__law_names) := ⟨rfl, rfl, rfl, by decide +kernel, rfl, by decide +kernel, by decide +kernel⟩
def g__law_names : DSt := (dSeq (dSet 2 (dLst (dCons (dC (.str "own")) (dCons (dC (.str "up")) (dCons (dC (.str "in")) (dCons (dC (.str "on")) (dCons (dC (.str "off")) (dCons (dC (.str "view")) (dCons (dC (.str "edit")) (dCons (dC (.str "doc")) (dCons (dC (.str "team")) (dCons (dC (.str "kind")) (dCons (dC (.str "stored")) (dCons (dC (.str "relation")) (dCons (dC (.str "copy")) (dCons (dC (.str "name")) (dCons (dC (.str "norings")) (dCons (dC (.str "users")) (dCons (dC (.str "al")) (dCons (dC (.str "z9")) (dCons (dC (.str "a")) (dCons (dC (.str "ann")) dNil))))))))))))))))))))))
  (dSeq (dSet 3 (dC (.str "qwertzuiopasdfghjklyxcvbnm")))
  (dSeq (dSet 4 (dLst dNil))
  (dSeq (dFor (dRange1 (dVar 1)) (γName 5) (dSeq (dSet 6 (dBin opIxM (dVar 3) (dApp F__law_next [] (dCons (dVar 0) (dCons (dC (.int 26)) dNil)))))
  (dSeq (dFor (dRange1 (dBin opIxM (dLst (dCons (dC (.int 0)) (dCons (dC (.int 0)) (dCons (dC (.int 1)) (dCons (dC (.int 2)) (dCons (dC (.int 5)) dNil)))))) (dApp F__law_next [] (dCons (dVar 0) (dCons (dC (.int 5)) dNil))))) (γName 7) (dSet 6 (dBin opAdd (dVar 6) (dBin opIxM (dVar 3) (dApp F__law_next [] (dCons (dVar 0) (dCons (dC (.int 26)) dNil)))))))
  (dSeq (dSet 6 (dBin opAdd (dVar 6) (dCall (fn1 opStr) (dCons (dVar 5) dNil))))
  (dSeq (dSet 8 (dBin opIxM (dVar 2) (dApp F__law_next [] (dCons (dVar 0) (dCons (dC (.int 20)) dNil)))))
  (dSeq (dIfS (dAnd (dTest (dBin opEq (dApp F__law_next [] (dCons (dVar 0) (dCons (dC (.int 3)) dNil))) (dC (.int 0)))) (dTest (dBin opNotIn (dVar 8) (dVar 4)))) (dSet 6 (dVar 8)) dNext)
  (dDrop (dMt isLst mAppend (dVar 4) (dCons (dVar 6) dNil)))))))))
  (dRet (dVar 4))))))
def F__law_names : List D → Mem → R D := runB 2 9 g__law_names
theorem ok__law_names {P : Program} {w : World} {K : PySem.W.Frag} {mg : Str → Option Value} {base : Heap} (B : Bi mg) (c__law_next : Cal P w K mg base 1 "_law_next" s__law_next ["state", "many"] F__law_next) {f : Addr} {fd : FuncData} (hmg : mg "_law_names" = some (.ref f)) (Fu : Fun K "_law_names" "_law_names" s__law_names f fd) : Cal P w K mg base 2 "_law_names" s__law_names ["state", "many"] F__law_names := by
  have bi : Binds K fd ["state", "many"] [] := Fu.binds fun _ _ _ _ _ _ us hl => match us, hl with | [_, _], _ => rfl
  have G := fn_ok (P := P) (w := w) (mg := mg) (base := base) (k := 1) (g := g__law_names) Fu sc__law_names fun cdv A outer s H Ex hr => by
    have o : Ok (cxOf (L2.CX P w) P w K mg base ["state", "many", "some", "left", "names", "place", "word", "lap", "other"] "_law_names" (defScope s__law_names) f cdv A outer s H Ex) 1 := ⟨hr, rfl, sc__law_names.nd⟩
    have tk : Takes (cxOf (L2.CX P w) P w K mg base ["state", "many", "some", "left", "names", "place", "word", "lap", "other"] "_law_names" (defScope s__law_names) f cdv A outer s H Ex) (fun c d _ H' => Ex c d H') := takes_of rfl rfl rfl rfl
    have pt := pass_of tk
    have po := L2.passes_of (X := cxOf (L2.CX P w) P w K mg base ["state", "many", "some", "left", "names", "place", "word", "lap", "other"] "_law_names" (defScope s__law_names) f cdv A outer s H Ex) rfl
    exact (dss_cons (ds_set (i := 2) o.nd rfl (by first | exact Or.inl rfl | exact Or.inr rfl) (de_lst (da_cons de_str (da_cons de_str (da_cons de_str (da_cons de_str (da_cons de_str (da_cons de_str (da_cons de_str (da_cons de_str (da_cons de_str (da_cons de_str (da_cons de_str (da_cons de_str (da_cons de_str (da_cons de_str (da_cons de_str (da_cons de_str (da_cons de_str (da_cons de_str (da_cons de_str (da_cons de_str da_nil))))))))))))))))))))))
  (dss_cons (ds_set (i := 3) o.nd rfl (by first | exact Or.inl rfl | exact Or.inr rfl) de_str)
  (dss_cons (ds_set (i := 4) o.nd rfl (by first | exact Or.inl rfl | exact Or.inr rfl) (de_lst da_nil))
  (dss_cons (ds_for po o.calm (di_range1 (by rfl) B.range (de_var 1)) (pg_name (i := 5) o.nd rfl (by first | exact Or.inl rfl | exact Or.inr rfl)) (gok_name 5) (dss_cons (ds_set (i := 6) o.nd rfl (by first | exact Or.inl rfl | exact Or.inr rfl) (e_ix o (de_var 3) (e_call c__law_next (o.room.mono (by decide)) pt (da_cons (de_var 0) (da_cons de_int da_nil)))))
  (dss_cons (ds_for po o.calm (di_range1 (by rfl) B.range (e_ix o (de_lst (da_cons de_int (da_cons de_int (da_cons de_int (da_cons de_int (da_cons de_int da_nil)))))) (e_call c__law_next (o.room.mono (by decide)) pt (da_cons (de_var 0) (da_cons de_int da_nil))))) (pg_name (i := 7) o.nd rfl (by first | exact Or.inl rfl | exact Or.inr rfl)) (gok_name 7) (dss_one (ds_set (i := 6) o.nd rfl (by first | exact Or.inl rfl | exact Or.inr rfl) (de_add (de_var 6) (e_ix o (de_var 3) (e_call c__law_next (o.room.mono (by decide)) pt (da_cons (de_var 0) (da_cons de_int da_nil))))))))
  (dss_cons (ds_set (i := 6) o.nd rfl (by first | exact Or.inl rfl | exact Or.inr rfl) (de_add (de_var 6) (e_strOf B (de_var 5))))
  (dss_cons (ds_set (i := 8) o.nd rfl (by first | exact Or.inl rfl | exact Or.inr rfl) (e_ix o (de_var 2) (e_call c__law_next (o.room.mono (by decide)) pt (da_cons (de_var 0) (da_cons de_int da_nil)))))
  (dss_cons (ds_if (DW.dt (dw_and (t_eq o (e_call c__law_next (o.room.mono (by decide)) pt (da_cons (de_var 0) (da_cons de_int da_nil))) de_int) (dw_and1 (t_notIn o (de_var 8) (de_var 4))))) (dss_one (ds_set (i := 6) o.nd rfl (by first | exact Or.inl rfl | exact Or.inr rfl) (de_var 8))) dss_nil)
  (dss_one (ds_expr (e_append (de_var 4) (de_var 6))))))))))
  (dss_one (ds_ret (de_var 4)))))))
  exact ⟨f, fd, hmg, Fu, bi, G.1, G.2⟩
abbrev s__law_leaf : Stmt := topS 15
theorem sc__law_leaf : FnScope ["state", "names", "kind", "one"] ["state", "names"] (defScope s__law_leaf) := ⟨rfl, rfl, rfl, by decide +kernel, rfl, by decide +kernel, by decide +kernel⟩
def g__law_leaf : DSt := (dSeq (dSet 2 (dApp F__law_next [] (dCons (dVar 0) (dCons (dC (.int 3)) dNil))))
  (dSeq (dSet 3 (dBin opIxM (dVar 1) (dApp F__law_next [] (dCons (dVar 0) (dCons (dCall (fn1 opLen) (dCons (dVar 1) dNil)) dNil)))))
  (dRet (dBin opIxM (dLst (dCons (dTup (dCons (dC (.str "direct")) (dCons (dVar 3) dNil))) (dCons (dTup (dCons (dC (.str "same")) (dCons (dVar 3) dNil))) (dCons (dTup (dCons (dC (.str "by")) (dCons (dVar 3) (dCons (dBin opIxM (dVar 1) (dApp F__law_next [] (dCons (dVar 0) (dCons (dCall (fn1 opLen) (dCons (dVar 1) dNil)) dNil)))) dNil)))) dNil)))) (dVar 2)))))
def F__law_leaf : List D → Mem → R D := runB 2 4 g__law_leaf
theorem ok__law_leaf {P : Program} {w : World} {K : PySem.W.Frag} {mg : Str → Option Value} {base : Heap} (B : Bi mg) (c__law_next : Cal P w K mg base 1 "_law_next" s__law_next ["state", "many"] F__law_next) {f : Addr} {fd : FuncData} (hmg : mg "_law_leaf" = some (.ref f)) (Fu : Fun K "_law_leaf" "_law_leaf" s__law_leaf f fd) : Cal P w K mg base 2 "_law_leaf" s__law_leaf ["state", "names"] F__law_leaf := by
  have bi : Binds K fd ["state", "names"] [] := Fu.binds fun _ _ _ _ _ _ us hl => match us, hl with | [_, _], _ => rfl
  have G := fn_ok (P := P) (w := w) (mg := mg) (base := base) (k := 1) (g := g__law_leaf) Fu sc__law_leaf fun cdv A outer s H Ex hr => by
    have o : Ok (cxOf (L2.CX P w) P w K mg base ["state", "names", "kind", "one"] "_law_leaf" (defScope s__law_leaf) f cdv A outer s H Ex) 1 := ⟨hr, rfl, sc__law_leaf.nd⟩
    have tk : Takes (cxOf (L2.CX P w) P w K mg base ["state", "names", "kind", "one"] "_law_leaf" (defScope s__law_leaf) f cdv A outer s H Ex) (fun c d _ H' => Ex c d H') := takes_of rfl rfl rfl rfl
    have pt := pass_of tk
    have po := L2.passes_of (X := cxOf (L2.CX P w) P w K mg base ["state", "names", "kind", "one"] "_law_leaf" (defScope s__law_leaf) f cdv A outer s H Ex) rfl
    exact (dss_cons (ds_set (i := 2) o.nd rfl (by first | exact Or.inl rfl | exact Or.inr rfl) (e_call c__law_next (o.room.mono (by decide)) pt (da_cons (de_var 0) (da_cons de_int da_nil))))
  (dss_cons (ds_set (i := 3) o.nd rfl (by first | exact Or.inl rfl | exact Or.inr rfl) (e_ix o (de_var 1) (e_call c__law_next (o.room.mono (by decide)) pt (da_cons (de_var 0) (da_cons (e_len B (de_var 1)) da_nil)))))
  (dss_one (ds_ret (e_ix o (de_lst (da_cons (de_tup (da_cons de_str (da_cons (de_var 3) da_nil))) (da_cons (de_tup (da_cons de_str (da_cons (de_var 3) da_nil))) (da_cons (de_tup (da_cons de_str (da_cons (de_var 3) (da_cons (e_ix o (de_var 1) (e_call c__law_next (o.room.mono (by decide)) pt (da_cons (de_var 0) (da_cons (e_len B (de_var 1)) da_nil)))) da_nil)))) da_nil)))) (de_var 2))))))
  exact ⟨f, fd, hmg, Fu, bi, G.1, G.2⟩
abbrev s__law_drawn : Stmt := topS 16
theorem sc__law_drawn : FnScope ["state", "leaves", "names", "rules", "lap", "way", "at", "end", "deep", "some", "made", "pair"] ["state", "leaves", "names"] (defScope s__law_drawn) := ⟨rfl, rfl, rfl, by decide +kernel, rfl, by decide +kernel, by decide +kernel⟩
def g__law_drawn : DSt := (dSeq (dSet 3 (dLc (dRange1 (dVar 1)) (γName 4) dYes (dTup (dCons (dApp F__law_leaf [] (dCons (dVar 0) (dCons (dVar 2) dNil))) (dCons (dC (.int 1)) dNil))) [4]))
  (dSeq (dFor (dRange1 (dVar 1)) (γName 4) (dSeq (dIfS (dTest (dBin opLt (dCall (fn1 opLen) (dCons (dVar 3) dNil)) (dC (.int 2)))) dBreak dNext)
  (dSeq (dSet 5 (dBin opIxM (dLst (dCons (dC (.str "or")) (dCons (dC (.str "and")) (dCons (dC (.str "but")) dNil)))) (dApp F__law_next [] (dCons (dVar 0) (dCons (dC (.int 3)) dNil)))))
  (dSeq (dSet 6 (dApp F__law_next [] (dCons (dVar 0) (dCons (dBin opSub (dCall (fn1 opLen) (dCons (dVar 3) dNil)) (dC (.int 1))) dNil))))
  (dSeq (dSet 7 (dBin opAdd (dVar 6) (dC (.int 2))))
  (dSeq (dIfS (dTest (dBin opNe (dVar 5) (dC (.str "but")))) (dSet 7 (dBin opAdd (dVar 7) (dApp F__law_next [] (dCons (dVar 0) (dCons (dBin opSub (dBin opSub (dCall (fn1 opLen) (dCons (dVar 3) dNil)) (dVar 6)) (dC (.int 1))) dNil))))) dNext)
  (dSeq (dSet 8 (dBin opAdd (dC (.int 1)) (dCall (fn1 opMax) (dCons (dLc (dIt (dSl opSl (dVar 3) (dPt (dVar 6)) (dPt (dVar 7)))) (γName 11) dYes (dBin opIxM (dVar 11) (dC (.int 1))) [11]) dNil))))
  (dSeq (dIfS (dAnd (dTest (dBin opGt (dVar 8) (dC (.int 4)))) (dTest (dBin opLt (dBin opSub (dVar 7) (dVar 6)) (dCall (fn1 opLen) (dCons (dVar 3) dNil))))) (dSeq (dPar3 5 6 7 (dCons (dC (.str "or")) (dCons (dC (.int 0)) (dCons (dCall (fn1 opLen) (dCons (dVar 3) dNil)) dNil))))
  (dSet 8 (dC (.int 5)))) dNext)
  (dSeq (dSet 9 (dCall (fn1 opTuple) (dCons (dLc (dIt (dSl opSl (dVar 3) (dPt (dVar 6)) (dPt (dVar 7)))) (γName 11) dYes (dBin opIxM (dVar 11) (dC (.int 0))) [11]) dNil)))
  (dSeq (dSet 10 (dTup (dCons (dVar 5) (dCons (dVar 9) dNil))))
  (dSeq (dIfS (dTest (dBin opEq (dVar 5) (dC (.str "but")))) (dSet 10 (dTup (dCons (dC (.str "but")) (dCons (dBin opIxM (dVar 9) (dC (.int 0))) (dCons (dBin opIxM (dVar 9) (dC (.int 1))) dNil))))) dNext)
  (dSet 3 (dBin opAdd (dBin opAdd (dSl opSl (dVar 3) dNoPt (dPt (dVar 6))) (dLst (dCons (dTup (dCons (dVar 10) (dCons (dVar 8) dNil))) dNil))) (dSl opSl (dVar 3) (dPt (dVar 7)) dNoPt))))))))))))))
  (dRet (dBin opIxM (dBin opIxM (dVar 3) (dC (.int 0))) (dC (.int 0))))))
def F__law_drawn : List D → Mem → R D := runB 3 12 g__law_drawn
theorem ok__law_drawn {P : Program} {w : World} {K : PySem.W.Frag} {mg : Str → Option Value} {base : Heap} (B : Bi mg) (c__law_next : Cal P w K mg base 1 "_law_next" s__law_next ["state", "many"] F__law_next) (c__law_leaf : Cal P w K mg base 2 "_law_leaf" s__law_leaf ["state", "names"] F__law_leaf) {f : Addr} {fd : FuncData} (hmg : mg "_law_drawn" = some (.ref f)) (Fu : Fun K "_law_drawn" "_law_drawn" s__law_drawn f fd) : Cal P w K mg base 3 "_law_drawn" s__law_drawn ["state", "leaves", "names"] F__law_drawn := by
  have bi : Binds K fd ["state", "leaves", "names"] [] := Fu.binds fun _ _ _ _ _ _ us hl => match us, hl with | [_, _, _], _ => rfl
  have G := fn_ok (P := P) (w := w) (mg := mg) (base := base) (k := 2) (g := g__law_drawn) Fu sc__law_drawn fun cdv A outer s H Ex hr => by
    have o : Ok (cxOf (L2.CX P w) P w K mg base ["state", "leaves", "names", "rules", "lap", "way", "at", "end", "deep", "some", "made", "pair"] "_law_drawn" (defScope s__law_drawn) f cdv A outer s H Ex) 2 := ⟨hr, rfl, sc__law_drawn.nd⟩
    have tk : Takes (cxOf (L2.CX P w) P w K mg base ["state", "leaves", "names", "rules", "lap", "way", "at", "end", "deep", "some", "made", "pair"] "_law_drawn" (defScope s__law_drawn) f cdv A outer s H Ex) (fun c d _ H' => Ex c d H') := takes_of rfl rfl rfl rfl
    have pt := pass_of tk
    have po := L2.passes_of (X := cxOf (L2.CX P w) P w K mg base ["state", "leaves", "names", "rules", "lap", "way", "at", "end", "deep", "some", "made", "pair"] "_law_drawn" (defScope s__law_drawn) f cdv A outer s H Ex) rfl
    exact (dss_cons (ds_setLc (i := 3) (own := [("lap", 4)]) o.calm o.nd rfl rfl rfl (di_range1 (by rfl) B.range (de_var 1)) (blk_ok ["state", "leaves", "names", "rules", "lap", "way", "at", "end", "deep", "some", "made", "pair"] (defScope s__law_drawn) (by decide +kernel)) (fun _ _ _ _ _ => (pg_name (i := 4) (Ok.blk o).nd rfl (by first | exact Or.inl rfl | exact Or.inr rfl))) (gok_name 4) (by decide) (fun _ _ _ _ _ => dts_nil) (fun _ _ _ _ _ => (de_tup (da_cons (e_call c__law_leaf ((Ok.blk o).room.mono (by decide)) pass_W0 (da_cons (de_var 0) (da_cons (de_var 2) da_nil))) (da_cons de_int da_nil)))))
  (dss_cons (ds_for po o.calm (di_range1 (by rfl) B.range (de_var 1)) (pg_name (i := 4) o.nd rfl (by first | exact Or.inl rfl | exact Or.inr rfl)) (gok_name 4) (dss_cons (ds_if (t_lt (e_len B (de_var 3)) de_int) (dss_one ds_break) dss_nil)
  (dss_cons (ds_set (i := 5) o.nd rfl (by first | exact Or.inl rfl | exact Or.inr rfl) (e_ix o (de_lst (da_cons de_str (da_cons de_str (da_cons de_str da_nil)))) (e_call c__law_next (o.room.mono (by decide)) pt (da_cons (de_var 0) (da_cons de_int da_nil)))))
  (dss_cons (ds_set (i := 6) o.nd rfl (by first | exact Or.inl rfl | exact Or.inr rfl) (e_call c__law_next (o.room.mono (by decide)) pt (da_cons (de_var 0) (da_cons (de_subI (e_len B (de_var 3)) de_int) da_nil))))
  (dss_cons (ds_set (i := 7) o.nd rfl (by first | exact Or.inl rfl | exact Or.inr rfl) (de_add (de_var 6) de_int))
  (dss_cons (ds_if (t_ne o (de_var 5) de_str) (dss_one (ds_set (i := 7) o.nd rfl (by first | exact Or.inl rfl | exact Or.inr rfl) (de_add (de_var 7) (e_call c__law_next (o.room.mono (by decide)) pt (da_cons (de_var 0) (da_cons (de_subI (de_subI (e_len B (de_var 3)) (de_var 6)) de_int) da_nil)))))) dss_nil)
  (dss_cons (ds_set (i := 8) o.nd rfl (by first | exact Or.inl rfl | exact Or.inr rfl) (de_add de_int (e_max o B (de_lc (own := [("pair", 11)]) o.calm o.nd (di_any (de_slice (de_var 3) (do_some (de_var 6)) (do_some (de_var 7)))) (blk_ok ["state", "leaves", "names", "rules", "lap", "way", "at", "end", "deep", "some", "made", "pair"] (defScope s__law_drawn) (by decide +kernel)) (fun _ _ _ _ _ => (pg_name (i := 11) (Ok.blk o).nd rfl (by first | exact Or.inl rfl | exact Or.inr rfl))) (gok_name 11) (by decide) (fun _ _ _ _ _ => dts_nil) (fun _ _ _ _ _ => (e_ix (Ok.blk o) (de_var 11) de_int))))))
  (dss_cons (ds_if (DW.dt (dw_and (t_gt (de_var 8) de_int) (dw_and1 (t_lt (de_subI (de_var 7) (de_var 6)) (e_len B (de_var 3)))))) (dss_cons (ds_par3 (i := 5) (j := 6) (l := 7) o.calm o.nd rfl rfl rfl (by decide) (by decide) (by decide) rfl rfl rfl (da_cons de_str (da_cons de_int (da_cons (e_len B (de_var 3)) da_nil))))
  (dss_one (ds_set (i := 8) o.nd rfl (by first | exact Or.inl rfl | exact Or.inr rfl) de_int))) dss_nil)
  (dss_cons (ds_set (i := 9) o.nd rfl (by first | exact Or.inl rfl | exact Or.inr rfl) (e_tuple B (de_lc (own := [("pair", 11)]) o.calm o.nd (di_any (de_slice (de_var 3) (do_some (de_var 6)) (do_some (de_var 7)))) (blk_ok ["state", "leaves", "names", "rules", "lap", "way", "at", "end", "deep", "some", "made", "pair"] (defScope s__law_drawn) (by decide +kernel)) (fun _ _ _ _ _ => (pg_name (i := 11) (Ok.blk o).nd rfl (by first | exact Or.inl rfl | exact Or.inr rfl))) (gok_name 11) (by decide) (fun _ _ _ _ _ => dts_nil) (fun _ _ _ _ _ => (e_ix (Ok.blk o) (de_var 11) de_int)))))
  (dss_cons (ds_set (i := 10) o.nd rfl (by first | exact Or.inl rfl | exact Or.inr rfl) (de_tup (da_cons (de_var 5) (da_cons (de_var 9) da_nil))))
  (dss_cons (ds_if (t_eq o (de_var 5) de_str) (dss_one (ds_set (i := 10) o.nd rfl (by first | exact Or.inl rfl | exact Or.inr rfl) (de_tup (da_cons de_str (da_cons (e_ix o (de_var 9) de_int) (da_cons (e_ix o (de_var 9) de_int) da_nil)))))) dss_nil)
  (dss_one (ds_set (i := 3) o.nd rfl (by first | exact Or.inl rfl | exact Or.inr rfl) (de_add (de_add (de_slice (de_var 3) do_none (do_some (de_var 6))) (de_lst (da_cons (de_tup (da_cons (de_var 10) (da_cons (de_var 8) da_nil))) da_nil))) (de_slice (de_var 3) (do_some (de_var 7)) do_none)))))))))))))))
  (dss_one (ds_ret (e_ix o (e_ix o (de_var 3) de_int) de_int)))))
  exact ⟨f, fd, hmg, Fu, bi, G.1, G.2⟩
abbrev s__law_inner : Stmt := topS 17
theorem sc__law_inner : FnScope ["part"] ["part"] (defScope s__law_inner) := ⟨rfl, rfl, rfl, by decide +kernel, rfl, by decide +kernel, by decide +kernel⟩
def g__law_inner : DSt := (dSeq (dIfS (dOr (dTest (dBin opEq (dBin opIxM (dVar 0) (dC (.int 0))) (dC (.str "or")))) (dTest (dBin opEq (dBin opIxM (dVar 0) (dC (.int 0))) (dC (.str "and"))))) (dRet (dCall (fn1 opList) (dCons (dBin opIxM (dVar 0) (dC (.int 1))) dNil))) dNext)
  (dSeq (dIfS (dTest (dBin opEq (dBin opIxM (dVar 0) (dC (.int 0))) (dC (.str "but")))) (dRet (dLst (dCons (dBin opIxM (dVar 0) (dC (.int 1))) (dCons (dBin opIxM (dVar 0) (dC (.int 2))) dNil)))) dNext)
  (dRet (dLst dNil))))
def F__law_inner : List D → Mem → R D := runB 1 1 g__law_inner
theorem ok__law_inner {P : Program} {w : World} {K : PySem.W.Frag} {mg : Str → Option Value} {base : Heap} (B : Bi mg) {f : Addr} {fd : FuncData} (hmg : mg "_law_inner" = some (.ref f)) (Fu : Fun K "_law_inner" "_law_inner" s__law_inner f fd) : Cal P w K mg base 1 "_law_inner" s__law_inner ["part"] F__law_inner := by
  have bi : Binds K fd ["part"] [] := Fu.binds fun _ _ _ _ _ _ us hl => match us, hl with | [_], _ => rfl
  have G := fn_ok (P := P) (w := w) (mg := mg) (base := base) (k := 0) (g := g__law_inner) Fu sc__law_inner fun cdv A outer s H Ex hr => by
    have o : Ok (cxOf (L2.CX P w) P w K mg base ["part"] "_law_inner" (defScope s__law_inner) f cdv A outer s H Ex) 0 := ⟨hr, rfl, sc__law_inner.nd⟩
    have tk : Takes (cxOf (L2.CX P w) P w K mg base ["part"] "_law_inner" (defScope s__law_inner) f cdv A outer s H Ex) (fun c d _ H' => Ex c d H') := takes_of rfl rfl rfl rfl
    have pt := pass_of tk
    have po := L2.passes_of (X := cxOf (L2.CX P w) P w K mg base ["part"] "_law_inner" (defScope s__law_inner) f cdv A outer s H Ex) rfl
    exact (dss_cons (ds_if (DW.dt (dw_or (t_eq o (e_ix o (de_var 0) de_int) de_str) (dw_or1 (t_eq o (e_ix o (de_var 0) de_int) de_str)))) (dss_one (ds_ret (e_list B (e_ix o (de_var 0) de_int)))) dss_nil)
  (dss_cons (ds_if (t_eq o (e_ix o (de_var 0) de_int) de_str) (dss_one (ds_ret (de_lst (da_cons (e_ix o (de_var 0) de_int) (da_cons (e_ix o (de_var 0) de_int) da_nil))))) dss_nil)
  (dss_one (ds_ret (de_lst da_nil)))))
  exact ⟨f, fd, hmg, Fu, bi, G.1, G.2⟩
abbrev s__law_placed : Stmt := topS 18
theorem sc__law_placed : FnScope ["rule", "parts", "lap", "order", "found", "inner", "place", "part", "pair", "number"] ["rule"] (defScope s__law_placed) := ⟨rfl, rfl, rfl, by decide +kernel, rfl, by decide +kernel, by decide +kernel⟩
def g__law_placed : DSt := (dSeq (dSet 1 (dLst (dCons (dTup (dCons (dTup dNil) (dCons (dVar 0) dNil))) dNil)))
  (dSeq (dFor (dRange1 (dC (.int 400))) (γName 2) (dSeq (dIfS (dTest (dBin opGe (dVar 2) (dCall (fn1 opLen) (dCons (dVar 1) dNil)))) dBreak dNext)
  (dSeq (dAsg (dBin opIxM (dVar 1) (dVar 2)) (γTL 2 (γCons (γName 6) (γCons (γName 7) γNil))))
  (dSeq (dSet 5 (dApp F__law_inner [] (dCons (dVar 7) dNil)))
  (dSet 1 (dBin opAdd (dVar 1) (dLc (dRange1 (dCall (fn1 opLen) (dCons (dVar 5) dNil))) (γName 9) dYes (dTup (dCons (dBin opAdd (dVar 6) (dTup (dCons (dVar 9) dNil))) (dCons (dBin opIxM (dVar 5) (dVar 9)) dNil))) [9])))))))
  (dSeq (dSet 3 (dCall (fn1 opSorted) (dCons (dLc (dIt (dVar 1)) (γName 8) dYes (dBin opIxM (dVar 8) (dC (.int 0))) [8]) dNil)))
  (dSeq (dSet 4 dNewD)
  (dSeq (dFor (dIt (dVar 1)) (γTL 2 (γCons (γName 6) (γCons (γName 7) γNil))) (dSub (dVar 7) (dVar 4) (dVar 6) opSetM))
  (dRet (dLc (dIt (dVar 3)) (γName 6) dYes (dTup (dCons (dVar 6) (dCons (dBin opIxM (dVar 4) (dVar 6)) dNil))) [6])))))))
def F__law_placed : List D → Mem → R D := runB 1 10 g__law_placed
theorem ok__law_placed {P : Program} {w : World} {K : PySem.W.Frag} {mg : Str → Option Value} {base : Heap} (B : Bi mg) (c__law_inner : Cal P w K mg base 1 "_law_inner" s__law_inner ["part"] F__law_inner) {f : Addr} {fd : FuncData} (hmg : mg "_law_placed" = some (.ref f)) (Fu : Fun K "_law_placed" "_law_placed" s__law_placed f fd) : Cal P w K mg base 2 "_law_placed" s__law_placed ["rule"] F__law_placed := by
  have bi : Binds K fd ["rule"] [] := Fu.binds fun _ _ _ _ _ _ us hl => match us, hl with | [_], _ => rfl
  have G := fn_ok (P := P) (w := w) (mg := mg) (base := base) (k := 1) (g := g__law_placed) Fu sc__law_placed fun cdv A outer s H Ex hr => by
    have o : Ok (cxOf (L2.CX P w) P w K mg base ["rule", "parts", "lap", "order", "found", "inner", "place", "part", "pair", "number"] "_law_placed" (defScope s__law_placed) f cdv A outer s H Ex) 1 := ⟨hr, rfl, sc__law_placed.nd⟩
    have tk : Takes (cxOf (L2.CX P w) P w K mg base ["rule", "parts", "lap", "order", "found", "inner", "place", "part", "pair", "number"] "_law_placed" (defScope s__law_placed) f cdv A outer s H Ex) (fun c d _ H' => Ex c d H') := takes_of rfl rfl rfl rfl
    have pt := pass_of tk
    have po := L2.passes_of (X := cxOf (L2.CX P w) P w K mg base ["rule", "parts", "lap", "order", "found", "inner", "place", "part", "pair", "number"] "_law_placed" (defScope s__law_placed) f cdv A outer s H Ex) rfl
    exact (dss_cons (ds_set (i := 1) o.nd rfl (by first | exact Or.inl rfl | exact Or.inr rfl) (de_lst (da_cons (de_tup (da_cons (de_tup da_nil) (da_cons (de_var 0) da_nil))) da_nil)))
  (dss_cons (ds_for po o.calm (di_range1 (by rfl) B.range de_int) (pg_name (i := 2) o.nd rfl (by first | exact Or.inl rfl | exact Or.inr rfl)) (gok_name 2) (dss_cons (ds_if (t_ge (de_var 2) (e_len B (de_var 1))) (dss_one ds_break) dss_nil)
  (dss_cons (ds_asg (e_ix o (de_var 1) (de_var 2)) (pg_TL o.calm (pgs_cons (pg_name (i := 6) o.nd rfl (by first | exact Or.inl rfl | exact Or.inr rfl)) (pgs_cons (pg_name (i := 7) o.nd rfl (by first | exact Or.inl rfl | exact Or.inr rfl)) pgs_nil))) (gok_TL 2 (gok_cons (gok_name 6) (gok_cons (gok_name 7) gok_nil))))
  (dss_cons (ds_set (i := 5) o.nd rfl (by first | exact Or.inl rfl | exact Or.inr rfl) (e_call c__law_inner (o.room.mono (by decide)) pt (da_cons (de_var 7) da_nil)))
  (dss_one (ds_set (i := 1) o.nd rfl (by first | exact Or.inl rfl | exact Or.inr rfl) (de_add (de_var 1) (de_lc (own := [("number", 9)]) o.calm o.nd (di_range1 (by rfl) B.range (e_len B (de_var 5))) (blk_ok ["rule", "parts", "lap", "order", "found", "inner", "place", "part", "pair", "number"] (defScope s__law_placed) (by decide +kernel)) (fun _ _ _ _ _ => (pg_name (i := 9) (Ok.blk o).nd rfl (by first | exact Or.inl rfl | exact Or.inr rfl))) (gok_name 9) (by decide) (fun _ _ _ _ _ => dts_nil) (fun _ _ _ _ _ => (de_tup (da_cons (de_add (de_var 6) (de_tup (da_cons (de_var 9) da_nil))) (da_cons (e_ix (Ok.blk o) (de_var 5) (de_var 9)) da_nil))))))))))))
  (dss_cons (ds_set (i := 3) o.nd rfl (by first | exact Or.inl rfl | exact Or.inr rfl) (e_sorted o B (de_lc (own := [("pair", 8)]) o.calm o.nd (di_any (de_var 1)) (blk_ok ["rule", "parts", "lap", "order", "found", "inner", "place", "part", "pair", "number"] (defScope s__law_placed) (by decide +kernel)) (fun _ _ _ _ _ => (pg_name (i := 8) (Ok.blk o).nd rfl (by first | exact Or.inl rfl | exact Or.inr rfl))) (gok_name 8) (by decide) (fun _ _ _ _ _ => dts_nil) (fun _ _ _ _ _ => (e_ix (Ok.blk o) (de_var 8) de_int)))))
  (dss_cons (ds_set (i := 4) o.nd rfl (by first | exact Or.inl rfl | exact Or.inr rfl) de_newD)
  (dss_cons (ds_for po o.calm (di_any (de_var 1)) (pg_TL o.calm (pgs_cons (pg_name (i := 6) o.nd rfl (by first | exact Or.inl rfl | exact Or.inr rfl)) (pgs_cons (pg_name (i := 7) o.nd rfl (by first | exact Or.inl rfl | exact Or.inr rfl)) pgs_nil))) (gok_TL 2 (gok_cons (gok_name 6) (gok_cons (gok_name 7) gok_nil))) (dss_one (ds_sub (de_var 7) (de_var 4) (de_var 6) (set_M o.u9) dset_M)))
  (dss_one (ds_ret (de_lc (own := [("place", 6)]) o.calm o.nd (di_any (de_var 3)) (blk_ok ["rule", "parts", "lap", "order", "found", "inner", "place", "part", "pair", "number"] (defScope s__law_placed) (by decide +kernel)) (fun _ _ _ _ _ => (pg_name (i := 6) (Ok.blk o).nd rfl (by first | exact Or.inl rfl | exact Or.inr rfl))) (gok_name 6) (by decide) (fun _ _ _ _ _ => dts_nil) (fun _ _ _ _ _ => (de_tup (da_cons (de_var 6) (da_cons (e_ix (Ok.blk o) (de_var 4) (de_var 6)) da_nil))))))))))))
  exact ⟨f, fd, hmg, Fu, bi, G.1, G.2⟩
abbrev s__law_less : Stmt := topS 19
theorem sc__law_less : FnScope ["found", "place", "above", "last", "size", "made", "rest", "outer", "number"] ["found", "place"] (defScope s__law_less) := ⟨rfl, rfl, rfl, by decide +kernel, rfl, by decide +kernel, by decide +kernel⟩
def g__law_less : DSt := (dSeq (dIfS (dTest (dBin opEq (dCall (fn1 opLen) (dCons (dVar 1) dNil)) (dC (.int 0)))) (dRet (dC .non)) dNext)
  (dSeq (dSet 2 (dBin opIxM (dVar 0) (dSl opSl (dVar 1) dNoPt (dPt (dUn opNeg (dC (.int 1)))))))
  (dSeq (dSet 3 (dBin opIxM (dVar 1) (dBin opSub (dCall (fn1 opLen) (dCons (dVar 1) dNil)) (dC (.int 1)))))
  (dSeq (dIfS (dTest (dBin opEq (dBin opIxM (dVar 2) (dC (.int 0))) (dC (.str "but")))) (dSeq (dIfS (dTest (dBin opEq (dVar 3) (dC (.int 0)))) (dRet (dC .non)) dNext)
  (dSet 5 (dBin opIxM (dVar 2) (dC (.int 1))))) (dSeq (dSet 6 (dBin opAdd (dSl opSl (dBin opIxM (dVar 2) (dC (.int 1))) dNoPt (dPt (dVar 3))) (dSl opSl (dBin opIxM (dVar 2) (dC (.int 1))) (dPt (dBin opAdd (dVar 3) (dC (.int 1)))) dNoPt)))
  (dSeq (dSet 5 (dTup (dCons (dBin opIxM (dVar 2) (dC (.int 0))) (dCons (dVar 6) dNil))))
  (dIfS (dTest (dBin opEq (dCall (fn1 opLen) (dCons (dVar 6) dNil)) (dC (.int 1)))) (dSet 5 (dBin opIxM (dVar 6) (dC (.int 0)))) dNext))))
  (dSeq (dFor (dRangeD (dBin opSub (dCall (fn1 opLen) (dCons (dVar 1) dNil)) (dC (.int 2))) (dBin opSub (dC (.int 0)) (dC (.int 1))) (dBin opSub (dC (.int 0)) (dC (.int 1)))) (γName 4) (dSeq (dSet 7 (dBin opIxM (dVar 0) (dSl opSl (dVar 1) dNoPt (dPt (dVar 4)))))
  (dSeq (dSet 8 (dBin opIxM (dVar 1) (dVar 4)))
  (dIfS (dTest (dBin opEq (dBin opIxM (dVar 7) (dC (.int 0))) (dC (.str "but")))) (dSet 5 (dBin opIxM (dLst (dCons (dTup (dCons (dC (.str "but")) (dCons (dVar 5) (dCons (dBin opIxM (dVar 7) (dC (.int 2))) dNil)))) (dCons (dTup (dCons (dC (.str "but")) (dCons (dBin opIxM (dVar 7) (dC (.int 1))) (dCons (dVar 5) dNil)))) dNil))) (dVar 8))) (dSet 5 (dTup (dCons (dBin opIxM (dVar 7) (dC (.int 0))) (dCons (dBin opAdd (dBin opAdd (dSl opSl (dBin opIxM (dVar 7) (dC (.int 1))) dNoPt (dPt (dVar 8))) (dTup (dCons (dVar 5) dNil))) (dSl opSl (dBin opIxM (dVar 7) (dC (.int 1))) (dPt (dBin opAdd (dVar 8) (dC (.int 1)))) dNoPt)) dNil))))))))
  (dRet (dVar 5)))))))
def F__law_less : List D → Mem → R D := runB 2 9 g__law_less
theorem ok__law_less {P : Program} {w : World} {K : PySem.W.Frag} {mg : Str → Option Value} {base : Heap} (B : Bi mg) {f : Addr} {fd : FuncData} (hmg : mg "_law_less" = some (.ref f)) (Fu : Fun K "_law_less" "_law_less" s__law_less f fd) : Cal P w K mg base 1 "_law_less" s__law_less ["found", "place"] F__law_less := by
  have bi : Binds K fd ["found", "place"] [] := Fu.binds fun _ _ _ _ _ _ us hl => match us, hl with | [_, _], _ => rfl
  have G := fn_ok (P := P) (w := w) (mg := mg) (base := base) (k := 0) (g := g__law_less) Fu sc__law_less fun cdv A outer s H Ex hr => by
    have o : Ok (cxOf (L2.CX P w) P w K mg base ["found", "place", "above", "last", "size", "made", "rest", "outer", "number"] "_law_less" (defScope s__law_less) f cdv A outer s H Ex) 0 := ⟨hr, rfl, sc__law_less.nd⟩
    have tk : Takes (cxOf (L2.CX P w) P w K mg base ["found", "place", "above", "last", "size", "made", "rest", "outer", "number"] "_law_less" (defScope s__law_less) f cdv A outer s H Ex) (fun c d _ H' => Ex c d H') := takes_of rfl rfl rfl rfl
    have pt := pass_of tk
    have po := L2.passes_of (X := cxOf (L2.CX P w) P w K mg base ["found", "place", "above", "last", "size", "made", "rest", "outer", "number"] "_law_less" (defScope s__law_less) f cdv A outer s H Ex) rfl
    exact (dss_cons (ds_if (t_eq o (e_len B (de_var 1)) de_int) (dss_one (ds_ret de_non)) dss_nil)
  (dss_cons (ds_set (i := 2) o.nd rfl (by first | exact Or.inl rfl | exact Or.inr rfl) (e_ix o (de_var 0) (de_slice (de_var 1) do_none (do_some (de_neg de_int)))))
  (dss_cons (ds_set (i := 3) o.nd rfl (by first | exact Or.inl rfl | exact Or.inr rfl) (e_ix o (de_var 1) (de_subI (e_len B (de_var 1)) de_int)))
  (dss_cons (ds_if (t_eq o (e_ix o (de_var 2) de_int) de_str) (dss_cons (ds_if (t_eq o (de_var 3) de_int) (dss_one (ds_ret de_non)) dss_nil)
  (dss_one (ds_set (i := 5) o.nd rfl (by first | exact Or.inl rfl | exact Or.inr rfl) (e_ix o (de_var 2) de_int)))) (dss_cons (ds_set (i := 6) o.nd rfl (by first | exact Or.inl rfl | exact Or.inr rfl) (de_add (de_slice (e_ix o (de_var 2) de_int) do_none (do_some (de_var 3))) (de_slice (e_ix o (de_var 2) de_int) (do_some (de_add (de_var 3) de_int)) do_none)))
  (dss_cons (ds_set (i := 5) o.nd rfl (by first | exact Or.inl rfl | exact Or.inr rfl) (de_tup (da_cons (e_ix o (de_var 2) de_int) (da_cons (de_var 6) da_nil))))
  (dss_one (ds_if (t_eq o (e_len B (de_var 6)) de_int) (dss_one (ds_set (i := 5) o.nd rfl (by first | exact Or.inl rfl | exact Or.inr rfl) (e_ix o (de_var 6) de_int))) dss_nil)))))
  (dss_cons (ds_for po o.calm (di_rangeD (by rfl) B.range (de_subI (e_len B (de_var 1)) de_int) (de_subI de_int de_int) (de_subI de_int de_int)) (pg_name (i := 4) o.nd rfl (by first | exact Or.inl rfl | exact Or.inr rfl)) (gok_name 4) (dss_cons (ds_set (i := 7) o.nd rfl (by first | exact Or.inl rfl | exact Or.inr rfl) (e_ix o (de_var 0) (de_slice (de_var 1) do_none (do_some (de_var 4)))))
  (dss_cons (ds_set (i := 8) o.nd rfl (by first | exact Or.inl rfl | exact Or.inr rfl) (e_ix o (de_var 1) (de_var 4)))
  (dss_one (ds_if (t_eq o (e_ix o (de_var 7) de_int) de_str) (dss_one (ds_set (i := 5) o.nd rfl (by first | exact Or.inl rfl | exact Or.inr rfl) (e_ix o (de_lst (da_cons (de_tup (da_cons de_str (da_cons (de_var 5) (da_cons (e_ix o (de_var 7) de_int) da_nil)))) (da_cons (de_tup (da_cons de_str (da_cons (e_ix o (de_var 7) de_int) (da_cons (de_var 5) da_nil)))) da_nil))) (de_var 8)))) (dss_one (ds_set (i := 5) o.nd rfl (by first | exact Or.inl rfl | exact Or.inr rfl) (de_tup (da_cons (e_ix o (de_var 7) de_int) (da_cons (de_add (de_add (de_slice (e_ix o (de_var 7) de_int) do_none (do_some (de_var 8))) (de_tup (da_cons (de_var 5) da_nil))) (de_slice (e_ix o (de_var 7) de_int) (do_some (de_add (de_var 8) de_int)) do_none)) da_nil))))))))))
  (dss_one (ds_ret (de_var 5))))))))
  exact ⟨f, fd, hmg, Fu, bi, G.1, G.2⟩
abbrev s__law_told : Stmt := topS 20
theorem sc__law_told : FnScope ["rule", "place", "error"] ["rule", "place"] (defScope s__law_told) := ⟨rfl, rfl, rfl, by decide +kernel, rfl, by decide +kernel, by decide +kernel⟩
def g__law_told : DSt := (dTry (dRet (dApp F_without_part [] (dCons (dVar 0) (dCons (dVar 1) dNil)))) (xm1 "BadStep") 2 (fun fs => dRet ((xLst (xCons (dFld "word") xNil)) fs)))
def F__law_told : List D → Mem → R D := runB 2 3 g__law_told
theorem ok__law_told {P : Program} {w : World} {K : PySem.W.Frag} {mg : Str → Option Value} {base : Heap} (B : Bi mg) {C_BadStep I_BadStep : Addr} {D_BadStep : FuncData} (x_BadStep : Exc1 P w K mg base 1 "BadStep" ["word"] C_BadStep I_BadStep D_BadStep) (c_without_part : Cal P w K mg base 4 "without_part" s_without_part ["rule", "place"] F_without_part) {f : Addr} {fd : FuncData} (hmg : mg "_law_told" = some (.ref f)) (Fu : Fun K "_law_told" "_law_told" s__law_told f fd) : Cal P w K mg base 5 "_law_told" s__law_told ["rule", "place"] F__law_told := by
  have bi : Binds K fd ["rule", "place"] [] := Fu.binds fun _ _ _ _ _ _ us hl => match us, hl with | [_, _], _ => rfl
  have G := fn_ok (P := P) (w := w) (mg := mg) (base := base) (k := 4) (g := g__law_told) Fu sc__law_told fun cdv A outer s H Ex hr => by
    have o : Ok (cxOf (L2.CX P w) P w K mg base ["rule", "place", "error"] "_law_told" (defScope s__law_told) f cdv A outer s H Ex) 4 := ⟨hr, rfl, sc__law_told.nd⟩
    have tk : Takes (cxOf (L2.CX P w) P w K mg base ["rule", "place", "error"] "_law_told" (defScope s__law_told) f cdv A outer s H Ex) (fun c d _ H' => Ex c d H') := takes_of rfl rfl rfl rfl
    have pt := pass_of tk
    have po := L2.passes_of (X := cxOf (L2.CX P w) P w K mg base ["rule", "place", "error"] "_law_told" (defScope s__law_told) f cdv A outer s H Ex) rfl
    exact (dss_one (ds_try (i := 2) (xm := xm1 "BadStep") rfl rfl o.nd rfl rfl ⟨rfl, by decide, .inl x_BadStep.mgc⟩ tk (xm1_ok x_BadStep) (fun W pn xe tk po => (dss_one (ds_ret (e_call c_without_part ((Ok.tr o).room.mono (by decide)) (pass_of tk) (da_cons (de_var 0) (da_cons (de_var 1) da_nil)))))) (fun a oe cls d pn hcl hz hf => ss_ret (sx_lst (sxa_cons (sx_fld x_BadStep.xf (x_BadStep.no _ (by decide)) hz hf (xm1_cls x_BadStep hcl) (pv 2)) sxa_nil)))))
  exact ⟨f, fd, hmg, Fu, bi, G.1, G.2⟩
abbrev s__law_asked : Stmt := topS 21
theorem sc__law_asked : FnScope ["rule", "parts", "found", "place", "part", "due"] ["rule"] (defScope s__law_asked) := ⟨rfl, rfl, rfl, by decide +kernel, rfl, by decide +kernel, by decide +kernel⟩
def g__law_asked : DSt := (dSeq (dSet 1 (dApp F__law_placed [] (dCons (dVar 0) dNil)))
  (dSeq (dIfS (dNot (dTru (dApp F__law_same [] (dCons (dApp F_rule_parts [] (dCons (dVar 0) dNil)) (dCons (dCall (fn1 opTuple) (dCons (dVar 1) dNil)) dNil))))) (dRet (dC (.bl false))) dNext)
  (dSeq (dSet 2 dNewD)
  (dSeq (dFor (dIt (dVar 1)) (γTL 2 (γCons (γName 3) (γCons (γName 4) γNil))) (dSub (dVar 4) (dVar 2) (dVar 3) opSetM))
  (dSeq (dFor (dIt (dVar 1)) (γTL 2 (γCons (γName 3) (γCons (γName 4) γNil))) (dSeq (dIfS (dNot (dTru (dApp F__law_same [] (dCons (dApp F_part_at [] (dCons (dVar 0) (dCons (dVar 3) dNil))) (dCons (dVar 4) dNil))))) (dRet (dC (.bl false))) dNext)
  (dSeq (dSet 5 (dApp F__law_less [] (dCons (dVar 2) (dCons (dVar 3) dNil))))
  (dSeq (dIfS (dTest (dBin opIsN (dVar 5) (dC .non))) (dSet 5 (dLst (dCons (dC (.str "place")) dNil))) dNext)
  (dIfS (dNot (dTru (dApp F__law_same [] (dCons (dApp F__law_told [] (dCons (dVar 0) (dCons (dVar 3) dNil))) (dCons (dVar 5) dNil))))) (dRet (dC (.bl false))) dNext)))))
  (dRet (dAndV (dApp F__law_same [] (dCons (dAppK F_part_at [1, 0] (dCons (dTup dNil) (dCons (dVar 0) dNil))) (dCons (dVar 0) dNil))) (dApp F__law_same [] (dCons (dAppK F_rule_parts [0] (dCons (dVar 0) dNil)) (dCons (dCall (fn1 opTuple) (dCons (dVar 1) dNil)) dNil))))))))))
def F__law_asked : List D → Mem → R D := runB 1 6 g__law_asked
theorem ok__law_asked {P : Program} {w : World} {K : PySem.W.Frag} {mg : Str → Option Value} {base : Heap} (B : Bi mg) (c__law_placed : Cal P w K mg base 2 "_law_placed" s__law_placed ["rule"] F__law_placed) (c__law_same : Cal P w K mg base 1 "_law_same" s__law_same ["told", "due"] F__law_same) (c__law_less : Cal P w K mg base 1 "_law_less" s__law_less ["found", "place"] F__law_less) (c_rule_parts : Cal P w K mg base 2 "rule_parts" s_rule_parts ["rule"] F_rule_parts) (c_part_at : Cal P w K mg base 2 "part_at" s_part_at ["rule", "place"] F_part_at) (c__law_told : Cal P w K mg base 5 "_law_told" s__law_told ["rule", "place"] F__law_told) {f : Addr} {fd : FuncData} (hmg : mg "_law_asked" = some (.ref f)) (Fu : Fun K "_law_asked" "_law_asked" s__law_asked f fd) : Cal P w K mg base 6 "_law_asked" s__law_asked ["rule"] F__law_asked := by
  have bi : Binds K fd ["rule"] [] := Fu.binds fun _ _ _ _ _ _ us hl => match us, hl with | [_], _ => rfl
  have G := fn_ok (P := P) (w := w) (mg := mg) (base := base) (k := 5) (g := g__law_asked) Fu sc__law_asked fun cdv A outer s H Ex hr => by
    have o : Ok (cxOf (L2.CX P w) P w K mg base ["rule", "parts", "found", "place", "part", "due"] "_law_asked" (defScope s__law_asked) f cdv A outer s H Ex) 5 := ⟨hr, rfl, sc__law_asked.nd⟩
    have tk : Takes (cxOf (L2.CX P w) P w K mg base ["rule", "parts", "found", "place", "part", "due"] "_law_asked" (defScope s__law_asked) f cdv A outer s H Ex) (fun c d _ H' => Ex c d H') := takes_of rfl rfl rfl rfl
    have pt := pass_of tk
    have po := L2.passes_of (X := cxOf (L2.CX P w) P w K mg base ["rule", "parts", "found", "place", "part", "due"] "_law_asked" (defScope s__law_asked) f cdv A outer s H Ex) rfl
    exact (dss_cons (ds_set (i := 1) o.nd rfl (by first | exact Or.inl rfl | exact Or.inr rfl) (e_call c__law_placed (o.room.mono (by decide)) pt (da_cons (de_var 0) da_nil)))
  (dss_cons (ds_if (dt_not (dt_tru (e_call c__law_same (o.room.mono (by decide)) pt (da_cons (e_call c_rule_parts (o.room.mono (by decide)) pt (da_cons (de_var 0) da_nil)) (da_cons (e_tuple B (de_var 1)) da_nil))))) (dss_one (ds_ret de_bl)) dss_nil)
  (dss_cons (ds_set (i := 2) o.nd rfl (by first | exact Or.inl rfl | exact Or.inr rfl) de_newD)
  (dss_cons (ds_for po o.calm (di_any (de_var 1)) (pg_TL o.calm (pgs_cons (pg_name (i := 3) o.nd rfl (by first | exact Or.inl rfl | exact Or.inr rfl)) (pgs_cons (pg_name (i := 4) o.nd rfl (by first | exact Or.inl rfl | exact Or.inr rfl)) pgs_nil))) (gok_TL 2 (gok_cons (gok_name 3) (gok_cons (gok_name 4) gok_nil))) (dss_one (ds_sub (de_var 4) (de_var 2) (de_var 3) (set_M o.u9) dset_M)))
  (dss_cons (ds_for po o.calm (di_any (de_var 1)) (pg_TL o.calm (pgs_cons (pg_name (i := 3) o.nd rfl (by first | exact Or.inl rfl | exact Or.inr rfl)) (pgs_cons (pg_name (i := 4) o.nd rfl (by first | exact Or.inl rfl | exact Or.inr rfl)) pgs_nil))) (gok_TL 2 (gok_cons (gok_name 3) (gok_cons (gok_name 4) gok_nil))) (dss_cons (ds_if (dt_not (dt_tru (e_call c__law_same (o.room.mono (by decide)) pt (da_cons (e_call c_part_at (o.room.mono (by decide)) pt (da_cons (de_var 0) (da_cons (de_var 3) da_nil))) (da_cons (de_var 4) da_nil))))) (dss_one (ds_ret de_bl)) dss_nil)
  (dss_cons (ds_set (i := 5) o.nd rfl (by first | exact Or.inl rfl | exact Or.inr rfl) (e_call c__law_less (o.room.mono (by decide)) pt (da_cons (de_var 2) (da_cons (de_var 3) da_nil))))
  (dss_cons (ds_if (t_isN (de_var 5) de_non) (dss_one (ds_set (i := 5) o.nd rfl (by first | exact Or.inl rfl | exact Or.inr rfl) (de_lst (da_cons de_str da_nil)))) dss_nil)
  (dss_one (ds_if (dt_not (dt_tru (e_call c__law_same (o.room.mono (by decide)) pt (da_cons (e_call c__law_told (o.room.mono (by decide)) pt (da_cons (de_var 0) (da_cons (de_var 3) da_nil))) (da_cons (de_var 5) da_nil))))) (dss_one (ds_ret de_bl)) dss_nil))))))
  (dss_one (ds_ret (de_and (e_call c__law_same (o.room.mono (by decide)) pt (da_cons (e_kw c_part_at (o.room.mono (by decide)) pt [1, 0] ["place", "rule"] (dk_cons (de_tup da_nil) (dk_cons (de_var 0) dk_nil)) fun _ _ _ _ _ _ ws hw => match ws, hw with | [_, _], _ => rfl) (da_cons (de_var 0) da_nil))) (de_one (e_call c__law_same (o.room.mono (by decide)) pt (da_cons (e_kw c_rule_parts (o.room.mono (by decide)) pt [0] ["rule"] (dk_cons (de_var 0) dk_nil) fun _ _ _ _ _ _ ws hw => match ws, hw with | [_], _ => rfl) (da_cons (e_tuple B (de_var 1)) da_nil))))))))))))
  exact ⟨f, fd, hmg, Fu, bi, G.1, G.2⟩
abbrev s_law : Stmt := topS 22
theorem sc_law : FnScope ["script", "state", "names", "inner", "wide", "one", "two", "three", "four", "lap"] ["script"] (defScope s_law) := ⟨rfl, rfl, rfl, by decide +kernel, rfl, by decide +kernel, by decide +kernel⟩
def g_law : DSt := (dSeq (dSet 1 (dApp F__law_start [] (dCons (dVar 0) dNil)))
  (dSeq (dSet 2 (dApp F__law_names [] (dCons (dVar 1) (dCons (dC (.int 4)) dNil))))
  (dSeq (dAsg (dVar 2) (γTL 4 (γCons (γName 5) (γCons (γName 6) (γCons (γName 7) (γCons (γName 8) γNil))))))
  (dSeq (dIfS (dOr (dNot (dTru (dApp F__law_asked [] (dCons (dApp F__law_drawn [] (dCons (dVar 1) (dCons (dBin opAdd (dC (.int 1)) (dApp F__law_next [] (dCons (dVar 1) (dCons (dC (.int 6)) dNil)))) (dCons (dVar 2) dNil)))) dNil)))) (dNot (dTru (dApp F__law_asked [] (dCons (dApp F__law_drawn [] (dCons (dVar 1) (dCons (dBin opAdd (dC (.int 3)) (dApp F__law_next [] (dCons (dVar 1) (dCons (dC (.int 4)) dNil)))) (dCons (dVar 2) dNil)))) dNil))))) (dRet (dC (.bl false))) dNext)
  (dSeq (dSet 3 (dTup (dCons (dC (.str "but")) (dCons (dTup (dCons (dC (.str "but")) (dCons (dTup (dCons (dC (.str "direct")) (dCons (dVar 5) dNil))) (dCons (dTup (dCons (dC (.str "same")) (dCons (dVar 6) dNil))) dNil)))) (dCons (dTup (dCons (dC (.str "and")) (dCons (dTup (dCons (dTup (dCons (dC (.str "by")) (dCons (dVar 7) (dCons (dVar 8) dNil)))) (dCons (dTup (dCons (dC (.str "direct")) (dCons (dVar 5) dNil))) dNil))) dNil))) dNil)))))
  (dSeq (dIfS (dOr (dNot (dTru (dApp F__law_asked [] (dCons (dTup (dCons (dC (.str "or")) (dCons (dTup (dCons (dTup (dCons (dC (.str "same")) (dCons (dVar 8) dNil))) (dCons (dVar 3) dNil))) dNil))) dNil)))) (dOr (dNot (dTru (dApp F__law_same [] (dCons (dApp F_without_part [] (dCons (dVar 3) (dCons (dTup (dCons (dC (.int 1)) dNil)) dNil))) (dCons (dBin opIxM (dVar 3) (dC (.int 1))) dNil))))) (dNot (dTru (dApp F__law_same [] (dCons (dApp F__law_told [] (dCons (dVar 3) (dCons (dTup (dCons (dC (.int 0)) dNil)) dNil))) (dCons (dLst (dCons (dC (.str "place")) dNil)) dNil))))))) (dRet (dC (.bl false))) dNext)
  (dSeq (dIfS (dNot (dTru (dApp F__law_same [] (dCons (dAppK F_without_part [1, 0] (dCons (dTup (dCons (dC (.int 0)) (dCons (dC (.int 1)) dNil))) (dCons (dVar 3) dNil))) (dCons (dTup (dCons (dC (.str "but")) (dCons (dTup (dCons (dC (.str "direct")) (dCons (dVar 5) dNil))) (dCons (dBin opIxM (dVar 3) (dC (.int 2))) dNil)))) dNil))))) (dRet (dC (.bl false))) dNext)
  (dSeq (dSet 4 (dTup (dCons (dBin opIxM (dLst (dCons (dC (.str "or")) (dCons (dC (.str "and")) dNil))) (dApp F__law_next [] (dCons (dVar 1) (dCons (dC (.int 2)) dNil)))) (dCons (dCall (fn1 opTuple) (dCons (dLc (dRange1 (dC (.int 11))) (γName 9) dYes (dApp F__law_leaf [] (dCons (dVar 1) (dCons (dVar 2) dNil))) [9]) dNil)) dNil))))
  (dRet (dApp F__law_asked [] (dCons (dVar 4) dNil)))))))))))
def F_law : List D → Mem → R D := runB 1 10 g_law
theorem ok_law {P : Program} {w : World} {K : PySem.W.Frag} {mg : Str → Option Value} {base : Heap} (B : Bi mg) (c__law_start : Cal P w K mg base 1 "_law_start" s__law_start ["script"] F__law_start) (c__law_names : Cal P w K mg base 2 "_law_names" s__law_names ["state", "many"] F__law_names) (c__law_asked : Cal P w K mg base 6 "_law_asked" s__law_asked ["rule"] F__law_asked) (c__law_same : Cal P w K mg base 1 "_law_same" s__law_same ["told", "due"] F__law_same) (c_without_part : Cal P w K mg base 4 "without_part" s_without_part ["rule", "place"] F_without_part) (c__law_next : Cal P w K mg base 1 "_law_next" s__law_next ["state", "many"] F__law_next) (c__law_drawn : Cal P w K mg base 3 "_law_drawn" s__law_drawn ["state", "leaves", "names"] F__law_drawn) (c__law_told : Cal P w K mg base 5 "_law_told" s__law_told ["rule", "place"] F__law_told) (c__law_leaf : Cal P w K mg base 2 "_law_leaf" s__law_leaf ["state", "names"] F__law_leaf) {f : Addr} {fd : FuncData} (hmg : mg "law" = some (.ref f)) (Fu : Fun K "law" "law" s_law f fd) : Cal P w K mg base 7 "law" s_law ["script"] F_law := by
  have bi : Binds K fd ["script"] [] := Fu.binds fun _ _ _ _ _ _ us hl => match us, hl with | [_], _ => rfl
  have G := fn_ok (P := P) (w := w) (mg := mg) (base := base) (k := 6) (g := g_law) Fu sc_law fun cdv A outer s H Ex hr => by
    have o : Ok (cxOf (L2.CX P w) P w K mg base ["script", "state", "names", "inner", "wide", "one", "two", "three", "four", "lap"] "law" (defScope s_law) f cdv A outer s H Ex) 6 := ⟨hr, rfl, sc_law.nd⟩
    have tk : Takes (cxOf (L2.CX P w) P w K mg base ["script", "state", "names", "inner", "wide", "one", "two", "three", "four", "lap"] "law" (defScope s_law) f cdv A outer s H Ex) (fun c d _ H' => Ex c d H') := takes_of rfl rfl rfl rfl
    have pt := pass_of tk
    have po := L2.passes_of (X := cxOf (L2.CX P w) P w K mg base ["script", "state", "names", "inner", "wide", "one", "two", "three", "four", "lap"] "law" (defScope s_law) f cdv A outer s H Ex) rfl
    exact (dss_cons (ds_set (i := 1) o.nd rfl (by first | exact Or.inl rfl | exact Or.inr rfl) (e_call c__law_start (o.room.mono (by decide)) pt (da_cons (de_var 0) da_nil)))
  (dss_cons (ds_set (i := 2) o.nd rfl (by first | exact Or.inl rfl | exact Or.inr rfl) (e_call c__law_names (o.room.mono (by decide)) pt (da_cons (de_var 1) (da_cons de_int da_nil))))
  (dss_cons (ds_asg (de_var 2) (pg_TL o.calm (pgs_cons (pg_name (i := 5) o.nd rfl (by first | exact Or.inl rfl | exact Or.inr rfl)) (pgs_cons (pg_name (i := 6) o.nd rfl (by first | exact Or.inl rfl | exact Or.inr rfl)) (pgs_cons (pg_name (i := 7) o.nd rfl (by first | exact Or.inl rfl | exact Or.inr rfl)) (pgs_cons (pg_name (i := 8) o.nd rfl (by first | exact Or.inl rfl | exact Or.inr rfl)) pgs_nil))))) (gok_TL 4 (gok_cons (gok_name 5) (gok_cons (gok_name 6) (gok_cons (gok_name 7) (gok_cons (gok_name 8) gok_nil))))))
  (dss_cons (ds_if (DW.dt (dw_or (dt_not (dt_tru (e_call c__law_asked (o.room.mono (by decide)) pt (da_cons (e_call c__law_drawn (o.room.mono (by decide)) pt (da_cons (de_var 1) (da_cons (de_add de_int (e_call c__law_next (o.room.mono (by decide)) pt (da_cons (de_var 1) (da_cons de_int da_nil)))) (da_cons (de_var 2) da_nil)))) da_nil)))) (dw_or1 (dt_not (dt_tru (e_call c__law_asked (o.room.mono (by decide)) pt (da_cons (e_call c__law_drawn (o.room.mono (by decide)) pt (da_cons (de_var 1) (da_cons (de_add de_int (e_call c__law_next (o.room.mono (by decide)) pt (da_cons (de_var 1) (da_cons de_int da_nil)))) (da_cons (de_var 2) da_nil)))) da_nil))))))) (dss_one (ds_ret de_bl)) dss_nil)
  (dss_cons (ds_set (i := 3) o.nd rfl (by first | exact Or.inl rfl | exact Or.inr rfl) (de_tup (da_cons de_str (da_cons (de_tup (da_cons de_str (da_cons (de_tup (da_cons de_str (da_cons (de_var 5) da_nil))) (da_cons (de_tup (da_cons de_str (da_cons (de_var 6) da_nil))) da_nil)))) (da_cons (de_tup (da_cons de_str (da_cons (de_tup (da_cons (de_tup (da_cons de_str (da_cons (de_var 7) (da_cons (de_var 8) da_nil)))) (da_cons (de_tup (da_cons de_str (da_cons (de_var 5) da_nil))) da_nil))) da_nil))) da_nil)))))
  (dss_cons (ds_if (DW.dt (dw_or (dt_not (dt_tru (e_call c__law_asked (o.room.mono (by decide)) pt (da_cons (de_tup (da_cons de_str (da_cons (de_tup (da_cons (de_tup (da_cons de_str (da_cons (de_var 8) da_nil))) (da_cons (de_var 3) da_nil))) da_nil))) da_nil)))) (dw_or (dt_not (dt_tru (e_call c__law_same (o.room.mono (by decide)) pt (da_cons (e_call c_without_part (o.room.mono (by decide)) pt (da_cons (de_var 3) (da_cons (de_tup (da_cons de_int da_nil)) da_nil))) (da_cons (e_ix o (de_var 3) de_int) da_nil))))) (dw_or1 (dt_not (dt_tru (e_call c__law_same (o.room.mono (by decide)) pt (da_cons (e_call c__law_told (o.room.mono (by decide)) pt (da_cons (de_var 3) (da_cons (de_tup (da_cons de_int da_nil)) da_nil))) (da_cons (de_lst (da_cons de_str da_nil)) da_nil))))))))) (dss_one (ds_ret de_bl)) dss_nil)
  (dss_cons (ds_if (dt_not (dt_tru (e_call c__law_same (o.room.mono (by decide)) pt (da_cons (e_kw c_without_part (o.room.mono (by decide)) pt [1, 0] ["place", "rule"] (dk_cons (de_tup (da_cons de_int (da_cons de_int da_nil))) (dk_cons (de_var 3) dk_nil)) fun _ _ _ _ _ _ ws hw => match ws, hw with | [_, _], _ => rfl) (da_cons (de_tup (da_cons de_str (da_cons (de_tup (da_cons de_str (da_cons (de_var 5) da_nil))) (da_cons (e_ix o (de_var 3) de_int) da_nil)))) da_nil))))) (dss_one (ds_ret de_bl)) dss_nil)
  (dss_cons (ds_set (i := 4) o.nd rfl (by first | exact Or.inl rfl | exact Or.inr rfl) (de_tup (da_cons (e_ix o (de_lst (da_cons de_str (da_cons de_str da_nil))) (e_call c__law_next (o.room.mono (by decide)) pt (da_cons (de_var 1) (da_cons de_int da_nil)))) (da_cons (e_tuple B (de_lc (own := [("lap", 9)]) o.calm o.nd (di_range1 (by rfl) B.range de_int) (blk_ok ["script", "state", "names", "inner", "wide", "one", "two", "three", "four", "lap"] (defScope s_law) (by decide +kernel)) (fun _ _ _ _ _ => (pg_name (i := 9) (Ok.blk o).nd rfl (by first | exact Or.inl rfl | exact Or.inr rfl))) (gok_name 9) (by decide) (fun _ _ _ _ _ => dts_nil) (fun _ _ _ _ _ => (e_call c__law_leaf ((Ok.blk o).room.mono (by decide)) pass_W0 (da_cons (de_var 1) (da_cons (de_var 2) da_nil)))))) da_nil))))
  (dss_one (ds_ret (e_call c__law_asked (o.room.mono (by decide)) pt (da_cons (de_var 4) da_nil))))))))))))
  exact ⟨f, fd, hmg, Fu, bi, G.1, G.2⟩
end DL.k01
/-! What rules.py computes. -/
namespace DL.k01
open PySem PySem.Spec L2 DL
theorem wd_eq {w v : Str} {m : Mem} (h : PyData.strOk w = true) (h2 : PyData.strOk v = true) : opEq (.str w) (.str v) m = .ok (.bl (decide (w = v))) m := by
  have := eqB_ok (neg := false) (x := .str w) (y := .str v) (m := m) h h2 (Nat.zero_le _) (Nat.zero_le _)
  simpa using this
theorem wd_ne {w v : Str} {m : Mem} (h : PyData.strOk w = true) (h2 : PyData.strOk v = true) : opNe (.str w) (.str v) m = .ok (.bl (!decide (w = v))) m := by
  have := eqB_ok (neg := true) (x := .str w) (y := .str v) (m := m) h h2 (Nat.zero_le _) (Nat.zero_le _)
  simpa using this
theorem ok_or : PyData.strOk "or" = true := by decide +kernel
theorem ok_and : PyData.strOk "and" = true := by decide +kernel
theorem ok_but : PyData.strOk "but" = true := by decide +kernel
theorem ok_direct : PyData.strOk "direct" = true := by decide +kernel
theorem ok_same : PyData.strOk "same" = true := by decide +kernel
theorem ok_by : PyData.strOk "by" = true := by decide +kernel
theorem wd_in {w : Str} {m : Mem} (h : PyData.strOk w = true) : opIn (.str w) (.tup [.str "or", .str "and"]) m = .ok (.bl (decide (w = "or" ∨ w = "and"))) m := by
  have := in_tup_ok (neg := false) (x := .str w) (xs := [.str "or", .str "and"]) (m := m) h (Nat.zero_le _) (by simp only [D.okSs, D.okS, ok_or, ok_and, Bool.and_true]) (by decide)
  simpa using this
/-- a rule's head -/
theorem head_ok {d : D} (h : RuleOk d) : ∃ w rest, d = .tup (.str w :: rest) ∧ PyData.strOk w = true := by
  cases h with
  | leaf2 h1 h2 => exact ⟨_, _, rfl, by rcases h1 with rfl | rfl <;> first | exact ok_direct | exact ok_same⟩
  | leaf3 h1 h2 => exact ⟨_, _, rfl, ok_by⟩
  | nary h1 h2 => exact ⟨_, _, rfl, by rcases h1 with rfl | rfl <;> first | exact ok_or | exact ok_and⟩
  | but h1 h2 => exact ⟨_, _, rfl, ok_but⟩
theorem inner_ok {d : D} (h : RuleOk d) (m : Mem) : F_inner_rules [d] m = .ok (.tup (inner d)) m := by
  unfold F_inner_rules
  rw [run_eq (np := 1) rfl]
  show (g_inner_rules [some d] m).val = _
  unfold g_inner_rules
  obtain ⟨w, rest, rfl, hw⟩ := head_ok h
  have e0 : (dSeq (dIfS (dTest (dBin opIn (dBin opIxM (dVar 0) (dC (.int 0))) (dTup (dCons (dC (.str "or")) (dCons (dC (.str "and")) dNil))))) (dRet (dBin opIxM (dVar 0) (dC (.int 1)))) dNext) (dRet (dIf (dTest (dBin opEq (dBin opIxM (dVar 0) (dC (.int 0))) (dC (.str "but")))) (dSl opSl (dVar 0) (dPt (dC (.int 1))) dNoPt) (dTup dNil)))) [some (D.tup (.str w :: rest))] m
      = if w = "or" ∨ w = "and" then (dRet (dBin opIxM (dVar 0) (dC (.int 1)))) [some (D.tup (.str w :: rest))] m else if w = "but" then .rt (.tup (cutD (.str w :: rest) (some 1) none)) m else .rt (.tup []) m := by
    have t1 : dTest (dBin opIn (dBin opIxM (dVar 0) (dC (.int 0))) (dTup (dCons (dC (.str "or")) (dCons (dC (.str "and")) dNil)))) [some (D.tup (.str w :: rest))] m = .ok (decide (w = "or" ∨ w = "and")) m := by
      simp [wd_in hw]
    have t2 : dTest (dBin opEq (dBin opIxM (dVar 0) (dC (.int 0))) (dC (.str "but"))) [some (D.tup (.str w :: rest))] m = .ok (decide (w = "but")) m := by
      simp [wd_eq hw ok_but]
    rw [ev_seq, ev_ifS, t1, ev_goes]
    by_cases h1 : w = "or" ∨ w = "and"
    · rw [if_pos (decide_eq_true h1), if_pos h1, ev_ret]
      cases dBin opIxM (dVar 0) (dC (.int 1)) [some (D.tup (.str w :: rest))] m <;> rfl
    · rw [if_neg (by rw [decide_eq_false h1]; decide), if_neg h1, ev_next, ev_thn_nx, ev_ret, ev_if, t2, ev_bind]
      by_cases h2 : w = "but"
      · rw [if_pos (decide_eq_true h2), if_pos h2]; rfl
      · rw [if_neg (by rw [decide_eq_false h2]; decide), if_neg h2]; rfl
  rw [e0]
  cases h with
  | leaf2 h1 h2 =>
    have a1 : ¬ (w = "or" ∨ w = "and") := by rcases h1 with rfl | rfl <;> decide
    have a2 : ¬ w = "but" := by rcases h1 with rfl | rfl <;> decide
    rw [if_neg a1, if_neg a2]
    rfl
  | leaf3 h1 h2 =>
    have a1 : ¬ (("by" : Str) = "or" ∨ ("by" : Str) = "and") := by decide
    have a2 : ¬ ("by" : Str) = "but" := by decide
    rw [if_neg a1, if_neg a2]
    simp [inner, a2]
  | nary h1 h2 =>
    rw [if_pos h1]
    simp [inner, h1]
  | but h1 h2 =>
    have a1 : ¬ (("but" : Str) = "or" ∨ ("but" : Str) = "and") := by decide
    rw [if_neg a1, if_pos rfl]
    simp only [inner, if_true]
    rfl
theorem partAt_ok {d : D} (h : RuleOk d) : ∀ {p : List Int} {x : D}, partAt d p = some x → RuleOk x := fun {p} => by
  induction p generalizing d with
  | nil => intro x hx; cases hx; exact h
  | cons i p ih =>
    intro x hx
    unfold partAt at hx
    cases e : atI (inner d) i with
    | none => rw [e] at hx; cases hx
    | some y =>
      rw [e] at hx
      refine ih (inner_all h y ?_) hx
      unfold atI at e
      cases e2 : ixN (inner d).length i with
      | none => rw [e2] at e; cases e
      | some j => rw [e2] at e; exact List.mem_of_getElem? e
theorem part_loop {s : Src} (hs : s.lk = none) {x1 : Option D} {m : Mem} : ∀ (p : List Int) (d x : D) (y2 : Option D), RuleOk d → partAt d p = some x →
    ∃ z2, forF s (γName 2) (dSet 0 (dBin opIxM (dApp F_inner_rules [] (dCons (dVar 0) dNil)) (dVar 2))) (p.map .int) [some d, x1, y2] m = .nx [some x, x1, z2] m
  | [], d, x, y2, h, e => by cases e; exact ⟨y2, by simp [forF, Src.ok, hs]⟩
  | i :: p, d, x, y2, h, e => by
    have h0 := e
    unfold partAt at e
    cases e1 : atI (inner d) i with
    | none => rw [e1] at e; cases e
    | some y =>
      rw [e1] at e
      have oy : RuleOk y := partAt_ok h (p := [i]) (by show (match atI (inner d) i with | some x => partAt x [] | none => none) = _; rw [e1]; rfl)
      obtain ⟨z2, e2⟩ := part_loop hs p y x (some (.int i)) oy e
      refine ⟨z2, ?_⟩
      rw [List.map_cons, forF_none hs, ev_γName, ev_only]
      have e3 : dSet 0 (dBin opIxM (dApp F_inner_rules [] (dCons (dVar 0) dNil)) (dVar 2)) [some d, x1, some (.int i)] m = .nx [some y, x1, some (.int i)] m := by
        simp [inner_ok h, e1]
      show (dSet 0 _ [some d, x1, some (.int i)] m).turn _ = _
      rw [e3, ev_turn_nx]
      exact e2
theorem part_ok {d x : D} {p : List Int} (h : RuleOk d) (e : partAt d p = some x) (m : Mem) : F_part_at [d, plD p] m = .ok x m := by
  unfold F_part_at
  rw [run_eq (np := 2) rfl]
  show (g_part_at [some d, some (plD p), none] m).val = _
  unfold g_part_at
  obtain ⟨z2, e2⟩ := part_loop (s := ⟨p.map .int, none⟩) rfl (x1 := some (plD p)) (m := m) p d x none h e
  have t : dFor (dIt (dVar 1)) (γName 2) (dSet 0 (dBin opIxM (dApp F_inner_rules [] (dCons (dVar 0) dNil)) (dVar 2))) [some d, some (plD p), none] m = .nx [some x, some (plD p), z2] m := by
    rw [ev_for, ev_it]
    show forF ⟨p.map .int, none⟩ _ _ (p.map .int) _ m = _
    exact e2
  rw [ev_seq, t, ev_thn_nx]
  rfl
end DL.k01
/-! rule_parts. -/
namespace DL
open PySem PySem.Spec L2
/-- a comprehension whose body only reads -/
theorem lc_map {s : Src} {γ : D → En → Mem → R En} {f : DF} {ρw : En} {M : Mem} (h : D → D) (hs : ∀ acc, s.ok (M ++ [.lst acc]) = true) : ∀ (ds acc : List D), (∀ d ∈ ds, ∀ a, ∃ ρ1, γ d ρw (M ++ [.lst a]) = .ok ρ1 (M ++ [.lst a]) ∧ f ρ1 (M ++ [.lst a]) = .ok (h d) (M ++ [.lst a])) → acc.length + ds.length < 100000 →
    lcF M.length s γ dYes f ρw ds (M ++ [.lst acc]) = .ok () (M ++ [.lst (acc ++ ds.map h)])
  | [], acc, _, _ => by
    unfold lcF
    rw [if_pos (hs acc), List.map_nil, List.append_nil]
  | d :: ds, acc, hb, hz => by
    obtain ⟨ρ1, h1, h2⟩ := hb d List.mem_cons_self acc
    simp only [List.length_cons] at hz
    have ih := lc_map h hs ds (acc ++ [h d]) (fun x hx => hb x (List.mem_cons_of_mem _ hx)) (by simp; omega)
    have e1 : (M ++ [MO.lst acc]).set M.length (.lst (acc ++ [h d])) = M ++ [.lst (acc ++ [h d])] := by simp
    unfold lcF
    rw [if_pos (hs acc), h1, ev_bnd, ev_yes, ev_bnd, if_pos rfl, h2, ev_bnd, get_new]
    show (if acc.length < sizeLine then lcF M.length s γ dYes f ρw ds ((M ++ [MO.lst acc]).set M.length (.lst (acc ++ [h d]))) else .stk) = _
    rw [if_pos (sz63 (by omega)), e1, ih]
    simp
theorem dlc_map {φ : DFi} {γ : D → En → Mem → R En} {f : DF} {vs : List Nat} {ρ : En} {m M : Mem} {s : Src} (h : D → D) (hφ : φ ρ m = .ok s M) (hs : s.lk = none ∨ ∃ k o, s.lk = some (k, o) ∧ M[k]? = some o) (hb : ∀ d ∈ s.items, ∀ a, ∃ ρ1, γ d (wipeD ρ vs) (M ++ [.lst a]) = .ok ρ1 (M ++ [.lst a]) ∧ f ρ1 (M ++ [.lst a]) = .ok (h d) (M ++ [.lst a])) (hz : s.items.length < 100000) :
    dLc φ γ dYes f vs ρ m = .ok (.ref M.length) (M ++ [.lst (s.items.map h)]) := by
  have so : ∀ acc, s.ok (M ++ [.lst acc]) = true := fun acc => by
    rcases hs with h | ⟨k, o, h, hk⟩
    · simp [Src.ok, h]
    · simp [Src.ok, h, get_old hk]
  have := lc_map (γ := γ) (f := f) (ρw := wipeD ρ vs) h so s.items [] hb (by simpa using hz)
  rw [ev_lc, hφ, ev_bind, this, ev_bnd, List.nil_append]
theorem mt_ok {c : D → Mem → Bool} {o : D → List D → Mem → R D} {f : DF} {fs : DFs} {ρ : En} {m m1 m2 : Mem} {d : D} {ds : List D} {r : R D} (h1 : f ρ m = .ok d m1) (h2 : c d m1 = true) (h3 : fs ρ m1 = .ok ds m2) (h4 : o d ds m2 = r) : dMt c o f fs ρ m = r := by
  rw [ev_mt, h1, ev_bind, if_pos h2, h3, ev_bind, h4]
theorem enum_zip (xs : List D) : enumD xs = xs.zipIdx.map fun q => .tup [.int (q.2 : Nat), q.1] := by
  apply List.ext_getElem
  · simp [enumD]
  · intro i h1 h2
    simp at h2
    simp [enumD, h2]
def eD (e : List Int × D) : D := .tup [plD e.1, e.2]
def nds : List (List Int × D) → Nat
  | [] => 0
  | e :: es => e.2.nodes + nds es
theorem nds_app (a b : List (List Int × D)) : nds (a ++ b) = nds a + nds b := by
  induction a with
  | nil => simp [nds]
  | cons e es ih => simp [nds, ih]; omega
theorem nds_kids {e : List Int × D} (h : RuleOk e.2) : nds (kids e) + 1 ≤ e.2.nodes := by
  have h4 := inner_nodes h
  have go : ∀ (ds : List D) (j : Nat), nds ((ds.zipIdx j).map fun p => (e.1 ++ [(p.2 : Int)], p.1)) = D.nodesAll ds := by
    intro ds
    induction ds with
    | nil => intro j; rfl
    | cons d ds ih => intro j; simp [nds, D.nodesAll, ih]
  have : nds (kids e) = D.nodesAll (inner e.2) := go _ 0
  omega
theorem len_nds : ∀ (es : List (List Int × D)), (∀ e ∈ es, RuleOk e.2) → es.length ≤ nds es
  | [], _ => Nat.zero_le _
  | e :: es, h => by
    have h1 := inner_nodes (h e List.mem_cons_self)
    have h2 := len_nds es fun x hx => h x (List.mem_cons_of_mem _ hx)
    simp [nds]; omega
def hK (p : List Int) : D → D
  | .tup [.int i, x] => .tup [.tup (p.map .int ++ [.int i]), x]
  | d => d
theorem kids_map (e : List Int × D) : (enumD (inner e.2)).reverse.map (hK e.1) = ((kids e).map eD).reverse := by
  rw [enum_zip, ← List.map_reverse, ← List.map_reverse, List.map_map]
  unfold kids
  rw [← List.map_reverse, List.map_map]
  apply List.map_congr_left
  intro q hq
  simp [hK, eD, plD]
end DL
namespace DL.k01
open PySem PySem.Spec L2 DL
def partsB : DSt := (dSeq (dAsg (dMt0 isLst mPop (dVar 2)) (γTL 2 (γCons (γName 4) (γCons (γName 5) γNil))))
  (dSeq (dDrop (dMt isLst mAppend (dVar 1) (dCons (dTup (dCons (dVar 4) (dCons (dVar 5) dNil))) dNil)))
  (dSeq (dSet 3 (dUn opListEnum (dApp F_inner_rules [] (dCons (dVar 5) dNil))))
  (dDrop (dMt isLst mExtend (dVar 2) (dCons (dLc (dIt (dUn opRevL (dVar 3))) (γTL 2 (γCons (γName 6) (γCons (γName 7) γNil))) dYes (dTup (dCons (dBin opAdd (dVar 4) (dTup (dCons (dVar 6) dNil))) (dCons (dVar 7) dNil))) [6, 7]) dNil))))))
/-- one lap -/
theorem parts_lap {M0 m : Mem} {x0 y3 y4 y5 y6 y7 : Option D} {e : List Int × D} {rest dn : List (List Int × D)} (he : RuleOk e.2) (hp : e.1.length < 90000) (hd : dn.length < 90000) (hr : rest.length + e.2.nodes < 90000)
    (h1 : m[M0.length]? = some (.lst (dn.map eD))) (h2 : m[M0.length + 1]? = some (.lst ((e :: rest).map eD).reverse)) (hf : Frm [] M0 m) :
    ∃ z3 z4 z5 z6 z7 m', partsB [x0, some (.ref M0.length), some (.ref (M0.length + 1)), y3, y4, y5, y6, y7] m = .nx [x0, some (.ref M0.length), some (.ref (M0.length + 1)), z3, z4, z5, z6, z7] m' ∧
      m'[M0.length]? = some (.lst ((dn ++ [e]).map eD)) ∧ m'[M0.length + 1]? = some (.lst ((kids e ++ rest).map eD).reverse) ∧ Frm [] M0 m' := by
  have q1 : (((e :: rest).map eD).reverse)[((e :: rest).map eD).reverse.length - 1]? = some (eD e) := by simp
  have q2 : (((e :: rest).map eD).reverse).dropLast = (rest.map eD).reverse := by simp
  let m1 := m.set (M0.length + 1) (.lst (rest.map eD).reverse)
  let m2 := m1.set M0.length (.lst (dn.map eD ++ [eD e]))
  let m3 := m2 ++ [.lst (enumD (inner e.2))]
  let m4 := m3 ++ [.lst (enumD (inner e.2)).reverse]
  let m5 := m4 ++ [.lst ((kids e).map eD).reverse]
  have g1 : m1[M0.length]? = some (.lst (dn.map eD)) := get_set_ne h1 (by omega)
  have g2 : m1[M0.length + 1]? = some (.lst (rest.map eD).reverse) := get_set h2
  have g3 : m2[M0.length + 1]? = some (.lst (rest.map eD).reverse) := get_set_ne g2 (by omega)
  have g4 : m2[M0.length]? = some (.lst (dn.map eD ++ [eD e])) := get_set g1
  have g5 : m5[M0.length + 1]? = some (.lst (rest.map eD).reverse) := get_old (get_old (get_old g3))
  have g6 : m5[M0.length]? = some (.lst (dn.map eD ++ [eD e])) := get_old (get_old (get_old g4))
  have f5 : Frm [] M0 m5 := (((hf.set (Or.inr (by omega))).set (Or.inr (Nat.le_refl _))).more.more).more
  have hi := inner_nodes he
  have li : (inner e.2).length ≤ D.nodesAll (inner e.2) := by
    have : ∀ ds : List D, (∀ x ∈ ds, RuleOk x) → ds.length ≤ D.nodesAll ds := by
      intro ds
      induction ds with
      | nil => intro _; exact Nat.zero_le _
      | cons d ds ih =>
        intro ha
        have a1 := inner_nodes (ha d List.mem_cons_self)
        have a2 := ih fun x hx => ha x (List.mem_cons_of_mem _ hx)
        simp [D.nodesAll]; omega
    exact this _ (inner_all he)
  have lk : (kids e).length = (inner e.2).length := by simp [kids]
  have le : (enumD (inner e.2)).length = (inner e.2).length := by simp [enumD]
  have t1 : dAsg (dMt0 isLst mPop (dVar 2)) (γTL 2 (γCons (γName 4) (γCons (γName 5) γNil))) [x0, some (.ref M0.length), some (.ref (M0.length + 1)), y3, y4, y5, y6, y7] m = .nx [x0, some (.ref M0.length), some (.ref (M0.length + 1)), y3, some (plD e.1), some e.2, y6, y7] m1 := by
    rw [ev_asg, ev_mt0, ev_var]
    show ((if isLst (.ref (M0.length + 1)) m = true then mPop (.ref (M0.length + 1)) [] m else .stk).goes _ _) = _
    rw [ev_isLst, h2, if_pos rfl, ev_pop, h2]
    show ((match (((e :: rest).map eD).reverse)[((e :: rest).map eD).reverse.length - 1]? with | some y => R.ok y (m.set (M0.length + 1) (.lst (((e :: rest).map eD).reverse).dropLast)) | none => .stk).goes _ _) = _
    rw [q1, q2]
    rfl
  have t2 : dDrop (dMt isLst mAppend (dVar 1) (dCons (dTup (dCons (dVar 4) (dCons (dVar 5) dNil))) dNil)) [x0, some (.ref M0.length), some (.ref (M0.length + 1)), y3, some (plD e.1), some e.2, y6, y7] m1 = .nx [x0, some (.ref M0.length), some (.ref (M0.length + 1)), y3, some (plD e.1), some e.2, y6, y7] m2 := by
    have : (dn.map eD).length < sizeLine := sz63 (by simp; omega)
    have a1 : mAppend (.ref M0.length) [eD e] m1 = .ok .non m2 := by
      rw [ev_append, g1]
      show (if (dn.map eD).length < sizeLine then R.ok D.non (m1.set M0.length (.lst (dn.map eD ++ [eD e]))) else .stk) = _
      rw [if_pos this]
    have a2 : (dCons (dTup (dCons (dVar 4) (dCons (dVar 5) dNil))) dNil) [x0, some (.ref M0.length), some (.ref (M0.length + 1)), y3, some (plD e.1), some e.2, y6, y7] m1 = .ok [eD e] m1 := by
      simp [eD]
    rw [ev_drop, mt_ok (d := .ref M0.length) (m1 := m1) rfl (by rw [ev_isLst, g1]) a2 a1, ev_goes]
  have t3 : dSet 3 (dUn opListEnum (dApp F_inner_rules [] (dCons (dVar 5) dNil))) [x0, some (.ref M0.length), some (.ref (M0.length + 1)), y3, some (plD e.1), some e.2, y6, y7] m2 = .nx [x0, some (.ref M0.length), some (.ref (M0.length + 1)), some (.ref m2.length), some (plD e.1), some e.2, y6, y7] m3 := by
    have z : (inner e.2).length ≤ sizeLine := sz_le (by omega)
    have z2 : opListEnum (.tup (inner e.2)) m2 = .ok (.ref m2.length) m3 := by
      show (if (inner e.2).length ≤ sizeLine then R.ok (D.ref m2.length) (m2 ++ [MO.lst (enumD (inner e.2))]) else .stk) = _
      rw [if_pos z]
    simp [inner_ok he, z2]
  have t4 : dLc (dIt (dUn opRevL (dVar 3))) (γTL 2 (γCons (γName 6) (γCons (γName 7) γNil))) dYes (dTup (dCons (dBin opAdd (dVar 4) (dTup (dCons (dVar 6) dNil))) (dCons (dVar 7) dNil))) [6, 7] [x0, some (.ref M0.length), some (.ref (M0.length + 1)), some (.ref m2.length), some (plD e.1), some e.2, y6, y7] m3 = .ok (.ref m4.length) m5 := by
    have := dlc_map (φ := dIt (dUn opRevL (dVar 3))) (γ := γTL 2 (γCons (γName 6) (γCons (γName 7) γNil))) (f := (dTup (dCons (dBin opAdd (dVar 4) (dTup (dCons (dVar 6) dNil))) (dCons (dVar 7) dNil)))) (vs := [6, 7]) (ρ := [x0, some (.ref M0.length), some (.ref (M0.length + 1)), some (.ref m2.length), some (plD e.1), some e.2, y6, y7]) (m := m3) (M := m4) (s := ⟨(enumD (inner e.2)).reverse, some (m3.length, .lst (enumD (inner e.2)).reverse)⟩) (hK e.1) (by
        have z3 : m3[m2.length]? = some (.lst (enumD (inner e.2))) := get_new
        have z4 : opRevL (.ref m2.length) m3 = .ok (.ref m3.length) m4 := by
          show (match seqOf m3 (.ref m2.length) with | some xs => R.ok (D.ref m3.length) (m3 ++ [MO.lst xs.reverse]) | none => .stk) = _
          rw [ev_seq_r, z3]
        have z5 : m4[m3.length]? = some (.lst (enumD (inner e.2)).reverse) := get_new
        have z6 : srcOf (.ref m3.length) m4 = .ok ⟨(enumD (inner e.2)).reverse, some (m3.length, MO.lst (enumD (inner e.2)).reverse)⟩ m4 := by
          unfold srcOf
          simp only [z5]
        rw [ev_it, ev_un, ev_var]
        show ((opRevL (.ref m2.length) m3).bind srcOf) = _
        rw [z4, ev_bind, z6]) (Or.inr ⟨_, _, rfl, get_new⟩) (fun d hd a => by
        rw [enum_zip] at hd
        obtain ⟨q, _, rfl⟩ := List.mem_map.mp (List.mem_reverse.mp hd)
        refine ⟨[x0, some (.ref M0.length), some (.ref (M0.length + 1)), some (.ref m2.length), some (plD e.1), some e.2, some (.int (q.2 : Nat)), some q.1], rfl, ?_⟩
        have z6 : (e.1.map D.int).length + [D.int (q.2 : Nat)].length ≤ sizeLine := sz_le (by simp; omega)
        have z7 : opAdd (plD e.1) (.tup [.int (q.2 : Nat)]) (m4 ++ [.lst a]) = .ok (.tup (e.1.map D.int ++ [.int (q.2 : Nat)])) (m4 ++ [.lst a]) := by
          unfold plD
          rw [ev_add_t, if_pos z6]
        simp [z7, hK]) (by simp only [List.length_reverse]; omega)
    rw [this]
    show R.ok (D.ref m4.length) (m4 ++ [.lst ((enumD (inner e.2)).reverse.map (hK e.1))]) = _
    rw [kids_map]
  have t5 : dDrop (dMt isLst mExtend (dVar 2) (dCons (dLc (dIt (dUn opRevL (dVar 3))) (γTL 2 (γCons (γName 6) (γCons (γName 7) γNil))) dYes (dTup (dCons (dBin opAdd (dVar 4) (dTup (dCons (dVar 6) dNil))) (dCons (dVar 7) dNil))) [6, 7]) dNil)) [x0, some (.ref M0.length), some (.ref (M0.length + 1)), some (.ref m2.length), some (plD e.1), some e.2, y6, y7] m3 = .nx [x0, some (.ref M0.length), some (.ref (M0.length + 1)), some (.ref m2.length), some (plD e.1), some e.2, y6, y7] (m5.set (M0.length + 1) (.lst ((rest.map eD).reverse ++ ((kids e).map eD).reverse))) := by
    have z8 : m3[M0.length + 1]? = some (.lst (rest.map eD).reverse) := get_old g3
    have z9 : m5[m4.length]? = some (.lst ((kids e).map eD).reverse) := get_new
    have z10 : ((rest.map eD).reverse).length + (((kids e).map eD).reverse).length ≤ sizeLine := sz_le (by simp; omega)
    have z11 : mExtend (.ref (M0.length + 1)) [.ref m4.length] m5 = .ok .non (m5.set (M0.length + 1) (.lst ((rest.map eD).reverse ++ ((kids e).map eD).reverse))) := by
      unfold mExtend
      simp only [g5, z9]
      rw [if_pos z10]
    rw [ev_drop, mt_ok (d := .ref (M0.length + 1)) (m1 := m3) rfl (by rw [ev_isLst, z8]) (by rw [ev_cons, t4, ev_bind, ev_nil, ev_bind]) z11, ev_goes]
  refine ⟨some (.ref m2.length), some (plD e.1), some e.2, y6, y7, m5.set (M0.length + 1) (.lst ((rest.map eD).reverse ++ ((kids e).map eD).reverse)), ?_, ?_, ?_, f5.set (Or.inr (by omega))⟩
  · unfold partsB
    rw [ev_seq, t1, ev_thn_nx, ev_seq, t2, ev_thn_nx, ev_seq, t3, ev_thn_nx, t5]
  · rw [List.map_append]
    exact get_set_ne g6 (by omega)
  · rw [List.map_append, List.reverse_append]
    exact get_set g5
theorem parts_loop {M0 : Mem} {x0 : Option D} {N : Nat} (hN : N ≤ 80000) {all : List (List Int × D)} : ∀ (n k : Nat) (st dn : List (List Int × D)) (y3 y4 y5 y6 y7 : Option D) (m : Mem), k < n → nds st ≤ k → (∀ e ∈ st, RuleOk e.2 ∧ e.1.length + e.2.nodes ≤ N) → dn.length + k ≤ N → dn ++ st.flatMap (pre N) = all →
    m[M0.length]? = some (.lst (dn.map eD)) → m[M0.length + 1]? = some (.lst (st.map eD).reverse) → Frm [] M0 m →
    ∃ z3 z4 z5 z6 z7 m', whileF (dTru (dVar 2)) partsB n [x0, some (.ref M0.length), some (.ref (M0.length + 1)), y3, y4, y5, y6, y7] m = .nx [x0, some (.ref M0.length), some (.ref (M0.length + 1)), z3, z4, z5, z6, z7] m' ∧ m'[M0.length]? = some (.lst (all.map eD)) ∧ Frm [] M0 m'
  | 0, k, _, _, _, _, _, _, _, _, h, _, _, _, _, _, _, _ => absurd h (Nat.not_lt_zero _)
  | n + 1, k, [], dn, y3, y4, y5, y6, y7, m, _, _, _, _, ha, h1, h2, hf => by
    have t : dTru (dVar 2) [x0, some (.ref M0.length), some (.ref (M0.length + 1)), y3, y4, y5, y6, y7] m = .ok false m := by
      simp [truD, h2]
    refine ⟨y3, y4, y5, y6, y7, m, ?_, ?_, hf⟩
    · unfold whileF
      rw [t, ev_goes, if_neg (by decide)]
    · rw [← ha]; simpa using h1
  | n + 1, k, e :: st, dn, y3, y4, y5, y6, y7, m, hk, hs, hr, hd, ha, h1, h2, hf => by
    have t : dTru (dVar 2) [x0, some (.ref M0.length), some (.ref (M0.length + 1)), y3, y4, y5, y6, y7] m = .ok true m := by
      simp [truD, h2]
    obtain ⟨r1, r2⟩ := hr e List.mem_cons_self
    have hst : ∀ x ∈ st, RuleOk x.2 := fun x hx => (hr x (List.mem_cons_of_mem _ hx)).1
    have l1 := len_nds st hst
    have l2 := nds_kids r1
    simp only [nds] at hs
    obtain ⟨z3, z4, z5, z6, z7, m1, e1, g1, g2, f1⟩ := parts_lap (x0 := x0) (y3 := y3) (y4 := y4) (y5 := y5) (y6 := y6) (y7 := y7) (rest := st) r1 (by omega) (by omega) (by omega) h1 h2 hf
    have l3 : nds (kids e ++ st) ≤ k - 1 := by rw [nds_app]; omega
    have l4 := inner_nodes r1
    obtain ⟨w3, w4, w5, w6, w7, m2, e2, g3, f2⟩ := parts_loop (x0 := x0) hN (all := all) n (k - 1) (kids e ++ st) (dn ++ [e]) z3 z4 z5 z6 z7 m1 (by omega) l3 (fun x hx => by
      rcases List.mem_append.mp hx with hx | hx
      · obtain ⟨a1, a2⟩ := kids_ok r1 x hx
        obtain ⟨i, _, b2⟩ := kids_mem hx
        refine ⟨a1, ?_⟩
        rw [b2, List.length_append, List.length_singleton]
        omega
      · exact hr x (List.mem_cons_of_mem _ hx)) (by simp; omega) (by
      rw [← ha]
      have : pre N e = e :: (kids e).flatMap (pre N) := by
        rw [pre_fuel N e r1 (by omega)]; rfl
      simp [this]) g1 g2 f1
    refine ⟨w3, w4, w5, w6, w7, m2, ?_, g3, f2⟩
    unfold whileF
    rw [t, ev_goes, if_pos rfl, e1, ev_turn_nx, e2]
/-- rule_parts: every part with its place, from the top -/
theorem parts_ok {d : D} (h : RuleOk d) (hn : d.nodes ≤ 80000) (m : Mem) : ∃ m', F_rule_parts [d] m = .ok (.tup ((pre d.nodes ([], d)).map eD)) m' ∧ Frm [] m m' := by
  have i1 := inner_nodes h
  have hfu : d.nodes < FUEL := Nat.lt_of_le_of_lt hn (by decide)
  obtain ⟨z3, z4, z5, z6, z7, m', e, g1, f1⟩ := parts_loop (M0 := m) (x0 := some d) hn (all := pre d.nodes ([], d)) FUEL d.nodes [([], d)] [] none none none none none (m ++ [.lst []] ++ [.lst [eD ([], d)]]) hfu (by simp [nds]) (fun x hx => by
    rw [List.mem_singleton.mp hx]
    exact ⟨h, by simp⟩) (by simp) (by simp) (get_old get_new) (by rw [show m.length + 1 = (m ++ [MO.lst []]).length by simp]; exact get_new) (Frm.app.more)
  refine ⟨m', ?_, f1⟩
  unfold F_rule_parts
  rw [run_eq (np := 1) rfl]
  show (g_rule_parts [some d, none, none, none, none, none, none, none] m).val = _
  unfold g_rule_parts
  have t1 : dSet 1 (dLst dNil) [some d, none, none, none, none, none, none, none] m = .nx [some d, some (.ref m.length), none, none, none, none, none, none] (m ++ [.lst []]) := by simp
  have t2 : dSet 2 (dLst (dCons (dTup (dCons (dTup dNil) (dCons (dVar 0) dNil))) dNil)) [some d, some (.ref m.length), none, none, none, none, none, none] (m ++ [.lst []]) = .nx [some d, some (.ref m.length), some (.ref (m.length + 1)), none, none, none, none, none] (m ++ [.lst []] ++ [.lst [eD ([], d)]]) := by simp [eD, plD]
  rw [ev_seq, t1, ev_thn_nx, ev_seq, t2, ev_thn_nx, ev_seq, ev_while]
  change (((whileF (dTru (dVar 2)) partsB FUEL [some d, some (.ref m.length), some (.ref (m.length + 1)), none, none, none, none, none] (m ++ [.lst []] ++ [.lst [eD ([], d)]])).thn _).val) = _
  rw [e, ev_thn_nx]
  simp [g1]
end DL.k01
/-! rule_with, put_part. -/
namespace DL
open PySem PySem.Spec L2
theorem cut_to {xs : List D} {k : Nat} (h : k ≤ xs.length) : cutD xs none (some (k : Int)) = xs.take k := by
  unfold cutD
  rw [HT.sIx_none, HT.sIx_nat, Nat.min_eq_left h]
  simp
theorem cut_from {xs : List D} {k : Nat} (h : k ≤ xs.length) : cutD xs (some (k : Int)) none = xs.drop k := by
  unfold cutD
  rw [HT.sIx_none, HT.sIx_nat, Nat.min_eq_left h]
  exact List.take_of_length_le (by simp)
theorem cut_last {xs : List D} : cutD xs none (some (-1)) = xs.dropLast := by
  unfold cutD
  rw [HT.sIx_none]
  have : HT.sIx xs.length xs.length (some (-1)) = xs.length - 1 := by
    show (if (-1 : Int) < 0 then (-1 + (xs.length : Int)).toNat else min (-1 : Int).toNat xs.length) = _
    rw [if_pos (by decide : (-1 : Int) < 0)]
    omega
  rw [this, List.dropLast_eq_take]
  simp
/-- a rule with one of the rules inside changed -/
def withD (d : D) (i : Nat) (new : D) : D := match d with
  | .tup (.str w :: rest) => if w = "but" then .tup (.str w :: (inner (.tup (.str w :: rest))).set i new) else .tup [.str w, .tup ((inner (.tup (.str w :: rest))).set i new)]
  | d => d
def putAt : D → List Int → D → D
  | _, [], new => new
  | d, i :: p, new => match (inner d)[i.toNat]? with
    | some x => withD d i.toNat (putAt x p new)
    | none => d
def Pl (p : List Int) : Prop := ∀ i ∈ p, 0 ≤ i
theorem partAt_cons {d x : D} {i : Int} {p : List Int} (h0 : 0 ≤ i) (h : partAt d (i :: p) = some x) : ∃ y, (inner d)[i.toNat]? = some y ∧ partAt y p = some x := by
  unfold partAt at h
  cases e : atI (inner d) i with
  | none => rw [e] at h; cases h
  | some y =>
    rw [e] at h
    refine ⟨y, ?_, h⟩
    unfold atI ixN at e
    rw [if_pos h0] at e
    by_cases hl : i < (inner d).length
    · rw [if_pos hl] at e; exact e
    · rw [if_neg hl] at e; cases e
theorem partAt_nodes : ∀ {p : List Int} {d x : D}, RuleOk d → partAt d p = some x → RuleOk x ∧ x.nodes ≤ d.nodes
  | [], d, x, h, e => by cases e; exact ⟨h, Nat.le_refl _⟩
  | i :: p, d, x, h, e => by
    unfold partAt at e
    cases e1 : atI (inner d) i with
    | none => rw [e1] at e; cases e
    | some y =>
      rw [e1] at e
      have hm : y ∈ inner d := by
        unfold atI at e1
        cases e2 : ixN (inner d).length i with
        | none => rw [e2] at e1; cases e1
        | some j => rw [e2] at e1; exact List.mem_of_getElem? e1
      have a1 := nodesAll_mem hm
      have a2 := inner_nodes h
      obtain ⟨b1, b2⟩ := partAt_nodes (inner_all h y hm) e
      exact ⟨b1, by omega⟩
theorem Pl.tail {i : Int} {p : List Int} (h : Pl (i :: p)) : Pl p := fun j hj => h j (List.mem_cons_of_mem _ hj)
theorem pre_nn : ∀ (n : Nat) (e x : List Int × D), Pl e.1 → x ∈ pre n e → Pl x.1
  | 0, e, x, _, h => by cases h
  | n + 1, e, x, h0, h => by
    rcases List.mem_cons.mp h with rfl | h
    · exact h0
    · obtain ⟨k, hk, hx⟩ := List.mem_flatMap.mp h
      obtain ⟨i, h1, h2⟩ := kids_mem hk
      refine pre_nn n k x ?_ hx
      rw [h2]
      intro j hj
      rcases List.mem_append.mp hj with hj | hj
      · exact h0 j hj
      · rw [List.mem_singleton.mp hj]; exact Int.natCast_nonneg _
theorem pre_all : ∀ (q : List Int) (n : Nat) (e : List Int × D) (x : D), RuleOk e.2 → e.2.nodes ≤ n → Pl q → partAt e.2 q = some x → (e.1 ++ q, x) ∈ pre n e
  | [], 0, e, x, h, hn, _, hx => by have := inner_nodes h; omega
  | _ :: _, 0, e, x, h, hn, _, hx => by have := inner_nodes h; omega
  | [], n + 1, e, x, h, hn, _, hx => by
    cases hx
    rw [List.append_nil]
    exact List.mem_cons_self
  | i :: q, n + 1, e, x, h, hn, hq, hx => by
    obtain ⟨y, h1, h2⟩ := partAt_cons (hq i List.mem_cons_self) hx
    have hk : (e.1 ++ [i], y) ∈ kids e := by
      unfold kids
      refine List.mem_map.mpr ⟨(y, i.toNat), List.mem_zipIdx_iff_getElem?.mpr h1, ?_⟩
      rw [Int.toNat_of_nonneg (hq i List.mem_cons_self)]
    obtain ⟨a1, a2⟩ := kids_ok h _ hk
    have := pre_all q n (e.1 ++ [i], y) x a1 (Nat.le_of_lt_succ (Nat.lt_of_lt_of_le a2 hn)) hq.tail h2
    refine List.mem_cons_of_mem _ (List.mem_flatMap.mpr ⟨_, hk, ?_⟩)
    rw [List.append_assoc] at this
    exact this
theorem partAt_take {d x : D} {p : List Int} (h : partAt d p = some x) (k : Nat) : ∃ y, partAt d (p.take k) = some y ∧ partAt y (p.drop k) = some x := by
  have := h
  rw [← List.take_append_drop k p, partAt_app] at this
  cases e : partAt d (p.take k) with
  | none => rw [e] at this; cases this
  | some y => rw [e] at this; exact ⟨y, rfl, this⟩
theorem rngD_down (k : Nat) : rngD (((k + 1 : Nat) : Int) - 1) (-1) (k + 1) = .int (k : Nat) :: rngD ((k : Nat) - 1) (-1) k := by
  unfold rngD
  rw [List.range_succ_eq_map, List.map_cons, List.map_map]
  congr 1
  · congr 1; omega
  · apply List.map_congr_left
    intro i _
    show D.int _ = D.int _
    congr 1
    omega
/-- from the deepest to the top: new parts put in -/
theorem down {s : Src} (hs : s.lk = none) {i : Nat} {b : DSt} {d new0 x0 : D} {p : List Int} (hp : Pl p) (hx : partAt d p = some x0) (R : D → En → Mem → Prop)
    (step : ∀ (k : Nat) (y z new : D) (j : Nat) (ρ : En) (m : Mem), k < p.length → partAt d (p.take k) = some y → p[k]? = some (j : Int) → (inner y)[j]? = some z → R new ρ m → ∃ ρ' m', b (ρ.set i (some (.int k))) m = .nx ρ' m' ∧ R (withD y j new) ρ' m') :
    ∀ (k : Nat) (y : D) (ρ : En) (m : Mem), k ≤ p.length → partAt d (p.take k) = some y → R (putAt y (p.drop k) new0) ρ m → ∃ ρ' m', forF s (γName i) b (rngD ((k : Nat) - 1) (-1) k) ρ m = .nx ρ' m' ∧ R (putAt d p new0) ρ' m'
  | 0, y, ρ, m, _, hy, hr => by
    cases hy
    exact ⟨ρ, m, by simp [rngD, forF, Src.ok, hs], hr⟩
  | k + 1, y, ρ, m, hk, hy, hr => by
    obtain ⟨w, hw, hw2⟩ := partAt_take hx k
    have hpk : p.drop k = p[k] :: p.drop (k + 1) := List.drop_eq_getElem_cons (by omega)
    have h0 : 0 ≤ p[k] := hp _ (List.getElem_mem _)
    rw [hpk] at hw2
    obtain ⟨z, hz, hz2⟩ := partAt_cons h0 hw2
    have hzy : z = y := by
      have : p.take (k + 1) = p.take k ++ [p[k]] := by rw [List.take_succ_eq_append_getElem (by omega)]
      rw [this, partAt_app, hw] at hy
      have h3 : partAt w [p[k]] = some y := hy
      obtain ⟨z', hz', hz''⟩ := partAt_cons h0 h3
      rw [hz] at hz'
      cases hz'
      cases hz''
      rfl
    subst hzy
    have hj : p[k]? = some ((p[k].toNat : Nat) : Int) := by
      rw [Int.toNat_of_nonneg h0]
      exact List.getElem?_eq_getElem (by omega)
    obtain ⟨ρ1, m1, e1, r1⟩ := step k w z (putAt z (p.drop (k + 1)) new0) p[k].toNat ρ m (by omega) hw hj hz hr
    have e2 : withD w p[k].toNat (putAt z (p.drop (k + 1)) new0) = putAt w (p.drop k) new0 := by
      rw [hpk]
      simp only [putAt, hz]
    rw [e2] at r1
    obtain ⟨ρ2, m2, e3, r2⟩ := down hs hp hx R step k w ρ1 m1 (by omega) hw r1
    refine ⟨ρ2, m2, ?_, r2⟩
    rw [rngD_down, forF_none hs, ev_γName, ev_only, e1, ev_turn_nx, e3]
theorem inner_small {d : D} (h : RuleOk d) : (inner d).length < d.nodes := by
  have hi := inner_nodes h
  have : ∀ ds : List D, (∀ x ∈ ds, RuleOk x) → ds.length ≤ D.nodesAll ds := by
    intro ds
    induction ds with
    | nil => intro _; exact Nat.zero_le _
    | cons d ds ih =>
      intro ha
      have a1 := inner_nodes (ha d List.mem_cons_self)
      have a2 := ih fun x hx => ha x (List.mem_cons_of_mem _ hx)
      simp [D.nodesAll]; omega
  have := this _ (inner_all h)
  omega
theorem cut_set {xs : List D} {i : Nat} (h : i < xs.length) (new : D) : cutD xs none (some (i : Int)) ++ [new] ++ cutD xs (some ((i : Int) + 1)) none = xs.set i new := by
  rw [cut_to (by omega), show (i : Int) + 1 = ((i + 1 : Nat) : Int) by omega, cut_from (by omega), List.set_eq_take_append_cons_drop, if_pos h]
  simp
end DL
namespace DL.k01
open PySem PySem.Spec L2 DL
theorem with_ok {d new : D} {i : Nat} (h : RuleOk d) (hn : d.nodes ≤ 80000) (hi : i < (inner d).length) (m : Mem) : F_rule_with [d, .int i, new] m = .ok (withD d i new) m := by
  have hs := inner_small h
  obtain ⟨w, rest, rfl, hw⟩ := head_ok h
  unfold F_rule_with
  rw [run_eq (np := 3) rfl]
  show (g_rule_with [some (.tup (.str w :: rest)), some (.int i), some new, none, none] m).val = _
  unfold g_rule_with
  have t1 : dSet 3 (dApp F_inner_rules [] (dCons (dVar 0) dNil)) [some (.tup (.str w :: rest)), some (.int i), some new, none, none] m = .nx [some (.tup (.str w :: rest)), some (.int i), some new, some (.tup (inner (.tup (.str w :: rest)))), none] m := by
    simp [inner_ok h]
  generalize hI : inner (.tup (.str w :: rest)) = I at *
  have z1 : (cutD I none (some (i : Int))).length + [new].length ≤ sizeLine := sz_le (by rw [cut_to (by omega)]; simp; omega)
  have z2 : (cutD I none (some (i : Int)) ++ [new]).length + (cutD I (some ((i : Int) + 1)) none).length ≤ sizeLine := sz_le (by
    rw [cut_to (by omega), show (i : Int) + 1 = ((i + 1 : Nat) : Int) by omega, cut_from (by omega)]; simp; omega)
  have z3 : (I.set i new).length + 1 ≤ sizeLine := sz_le (by simp; omega)
  have t2 : dSet 4 (dBin opAdd (dBin opAdd (dSl opSl (dVar 3) dNoPt (dPt (dVar 1))) (dTup (dCons (dVar 2) dNil))) (dSl opSl (dVar 3) (dPt (dBin opAdd (dVar 1) (dC (.int 1)))) dNoPt)) [some (.tup (.str w :: rest)), some (.int i), some new, some (.tup I), none] m = .nx [some (.tup (.str w :: rest)), some (.int i), some new, some (.tup I), some (.tup (I.set i new))] m := by
    rw [← cut_set hi new]
    have a1 : (dBin opAdd (dSl opSl (dVar 3) dNoPt (dPt (dVar 1))) (dTup (dCons (dVar 2) dNil))) [some (.tup (.str w :: rest)), some (.int i), some new, some (.tup I), none] m = .ok (.tup (cutD I none (some (i : Int)) ++ [new])) m := by
      have : opAdd (.tup (cutD I none (some (i : Int)))) (.tup [new]) m = .ok (.tup (cutD I none (some (i : Int)) ++ [new])) m := by rw [ev_add_t, if_pos z1]
      simp [opSl, this]
    have a2 : (dSl opSl (dVar 3) (dPt (dBin opAdd (dVar 1) (dC (.int 1)))) dNoPt) [some (.tup (.str w :: rest)), some (.int i), some new, some (.tup I), none] m = .ok (.tup (cutD I (some ((i : Int) + 1)) none)) m := by
      simp [opSl]
    rw [ev_set, ev_bin, a1, ev_bind, a2, ev_bind, ev_add_t, if_pos z2, ev_goes]
    rfl
  have t3 : dTest (dBin opNe (dBin opIxM (dVar 0) (dC (.int 0))) (dC (.str "but"))) [some (.tup (.str w :: rest)), some (.int i), some new, some (.tup I), some (.tup (I.set i new))] m = .ok (!decide (w = "but")) m := by
    simp [wd_ne hw ok_but]
  rw [ev_seq, t1, ev_thn_nx, ev_seq, t2, ev_thn_nx, ev_ret, ev_if, t3, ev_bind]
  by_cases hb : w = "but"
  · rw [if_neg (by rw [decide_eq_true hb]; decide)]
    have : (dBin opAdd (dTup (dCons (dBin opIxM (dVar 0) (dC (.int 0))) dNil)) (dVar 4)) [some (.tup (.str w :: rest)), some (.int i), some new, some (.tup I), some (.tup (I.set i new))] m = .ok (.tup (.str w :: I.set i new)) m := by
      have e : opAdd (.tup [.str w]) (.tup (I.set i new)) m = .ok (.tup (.str w :: I.set i new)) m := by
        rw [ev_add_t, if_pos (by rw [List.length_singleton]; omega)]; rfl
      simp [e]
    rw [this]
    simp only [withD, hb, if_true]
    rw [hb] at hI
    rw [hI]; rfl
  · rw [if_pos (by rw [decide_eq_false hb]; decide)]
    simp [withD, hb, hI]
theorem put_ok {d new0 x0 : D} {p : List Int} (h : RuleOk d) (hn : d.nodes ≤ 80000) (hp : Pl p) (hl : p.length ≤ 80000) (hx : partAt d p = some x0) (m : Mem) : F_put_part [d, plD p, new0] m = .ok (putAt d p new0) m := by
  unfold F_put_part
  rw [run_eq (np := 3) rfl]
  show (g_put_part [some d, some (plD p), some new0, none] m).val = _
  unfold g_put_part
  have hsm : smallI (p.length : Int) = true := small_len (by omega)
  obtain ⟨ρ', m', e, y3, r1, r2⟩ := down (s := ⟨rngD ((p.length : Nat) - 1) (-1) p.length, none⟩) rfl (i := 3) (b := dSet 2 (dApp F_rule_with [] (dCons (dApp F_part_at [] (dCons (dVar 0) (dCons (dSl opSl (dVar 1) dNoPt (dPt (dVar 3))) dNil))) (dCons (dBin opIxM (dVar 1) (dVar 3)) (dCons (dVar 2) dNil))))) (d := d) (new0 := new0) hp hx
    (fun new ρ m' => ∃ y3, ρ = [some d, some (plD p), some new, y3] ∧ m' = m) (fun k y z new j ρ m' hk hy hj hz hr => by
      obtain ⟨y3, rfl, rfl⟩ := hr
      refine ⟨_, m', ?_, some (.int k), rfl, rfl⟩
      have oy := partAt_ok h hy
      have ny : y.nodes ≤ 80000 := Nat.le_trans (partAt_nodes h hy).2 hn
      have a1 : F_part_at [d, .tup (cutD (p.map D.int) none (some (k : Int)))] m' = .ok y m' := by
        rw [cut_to (by simp; omega), ← List.map_take]
        exact part_ok h hy m'
      have a2 : atI (p.map D.int) (k : Int) = some (.int j) := at_nat (by rw [List.getElem?_map, hj]; rfl)
      have a3 := with_ok (new := new) oy ny (lt_of_get hz) m'
      simp [plD, opSl, a1, a2, a3]) p.length x0 [some d, some (plD p), some new0, none] m (Nat.le_refl _) (by rw [List.take_length]; exact hx) (by rw [List.drop_length]; exact ⟨none, rfl, rfl⟩)
  subst r1 r2
  have t : dFor (dRevR (dCall (fn1 opLen) (dCons (dVar 1) dNil))) (γName 3) (dSet 2 (dApp F_rule_with [] (dCons (dApp F_part_at [] (dCons (dVar 0) (dCons (dSl opSl (dVar 1) dNoPt (dPt (dVar 3))) dNil))) (dCons (dBin opIxM (dVar 1) (dVar 3)) (dCons (dVar 2) dNil))))) [some d, some (plD p), some new0, none] m' = .nx [some d, some (plD p), some (putAt d p new0), y3] m' := by
    have f : dRevR (dCall (fn1 opLen) (dCons (dVar 1) dNil)) [some d, some (plD p), some new0, none] m' = .ok ⟨rngD ((p.length : Nat) - 1) (-1) p.length, none⟩ m' := by
      have : (dCall (fn1 opLen) (dCons (dVar 1) dNil)) [some d, some (plD p), some new0, none] m' = .ok (.int (p.length : Nat)) m' := by simp [plD]
      unfold dRevR
      rw [this, ev_bind]
      show (if smallI (p.length : Int) = true then _ else _) = _
      rw [if_pos hsm, Int.toNat_natCast]
    rw [ev_for, f, ev_goes]
    exact e
  rw [ev_seq, t, ev_thn_nx]
  rfl
end DL.k01
/-! without_part. -/
namespace DL
open PySem PySem.Spec L2
def lessD (a : D) (j : Nat) : Option D := match a with
  | .tup [.str w, .tup xs] => some (if (xs.eraseIdx j).length = 1 then (xs.eraseIdx j).getD 0 .non else .tup [.str w, .tup (xs.eraseIdx j)])
  | .tup [_, x, _] => if j = 0 then none else some x
  | _ => none
def wout (d : D) (p : List Int) : Option D := if p = [] then none else match partAt d p.dropLast with
  | some a => (lessD a (p.getLast?.getD 0).toNat).map (putAt d p.dropLast)
  | none => none
theorem at_last {xs : List D} {y : D} : atI (xs ++ [y]) (-1) = some y := by
  unfold atI ixN
  rw [if_neg (by decide : ¬ (0 : Int) ≤ -1)]
  have h2 : (-1 + ((xs.length : Int) + 1)).toNat = xs.length := by omega
  have h3 : (1 : Int) ≤ (xs.length : Int) + 1 := by omega
  simp [h2, h3]
theorem cut_era {xs : List D} {i : Nat} (h : i < xs.length) : cutD xs none (some (i : Int)) ++ cutD xs (some ((i : Int) + 1)) none = xs.eraseIdx i := by
  rw [cut_to (by omega), show (i : Int) + 1 = ((i + 1 : Nat) : Int) by omega, cut_from (by omega), List.eraseIdx_eq_take_drop_succ]
theorem place_last {d x : D} {p : List Int} (hp : Pl p) (hx : partAt d p = some x) (hne : p ≠ []) : ∃ (q : List Int) (j : Nat) (a : D), p = q ++ [(j : Int)] ∧ partAt d q = some a ∧ (inner a)[j]? = some x := by
  rcases List.eq_nil_or_concat p with h | ⟨q, i, h⟩
  · exact absurd h hne
  · rw [List.concat_eq_append] at h
    rw [h] at hx hp
    rw [partAt_app] at hx
    cases e : partAt d q with
    | none => rw [e] at hx; cases hx
    | some a =>
      rw [e] at hx
      have h0 : 0 ≤ i := hp i (by simp)
      obtain ⟨y, h1, h2⟩ := partAt_cons h0 (show partAt a [i] = some x from hx)
      cases h2
      exact ⟨q, i.toNat, a, by rw [Int.toNat_of_nonneg h0]; exact h, e, h1⟩
theorem Pl.init {q : List Int} {i : Int} (h : Pl (q ++ [i])) : Pl q := fun j hj => h j (List.mem_append_left _ hj)
end DL
namespace DL.k01
open PySem PySem.Spec L2 DL
theorem last_ok {F : List D → Mem → R D} {d a left r : D} {q : List Int} {j : Nat} {y4 : Option D} {m : Mem} (h : F [d, .tup (q.map D.int), left] m = .ok r m) : (dRet (dApp F [] (dCons (dVar 0) (dCons (dSl opSl (dVar 1) dNoPt (dPt (dUn opNeg (dC (.int 1))))) (dCons (dVar 3) dNil))))) [some d, some (.tup (q.map D.int ++ [.int j])), some a, some left, y4] m = .rt r m := by
  have z1 : cutD (q.map D.int ++ [.int j]) none (some (-1)) = q.map D.int := by rw [cut_last, List.dropLast_concat]
  simp [opSl, z1, h]
theorem without_ok {d x : D} {p : List Int} (h : RuleOk d) (hn : d.nodes ≤ 80000) (hp : Pl p) (hl : p.length ≤ 80000) (hx : partAt d p = some x) (m : Mem) :
    F_without_part [d, plD p] m = match wout d p with
      | some r => .ok r m
      | none => .exn "BadStep" [("word", .str "place")] m := by
  unfold F_without_part
  rw [run_eq (np := 2) rfl]
  show (g_without_part [some d, some (plD p), none, none, none] m).val = _
  unfold g_without_part
  by_cases hne : p = []
  · subst hne
    have t : dIfS (dNot (dTru (dVar 1))) (dRaise "BadStep" ["word"] (dCons (dC (.str "place")) dNil)) dNext [some d, some (plD []), none, none, none] m = .exn "BadStep" [("word", .str "place")] [some d, some (plD []), none, none, none] m := by
      simp [plD, truD]
    rw [ev_seq, t, ev_thn_ex]
    simp [wout]
  · obtain ⟨q, j, a, rfl, ha, hj⟩ := place_last hp hx hne
    have e1 : plD (q ++ [(j : Int)]) = .tup (q.map D.int ++ [.int j]) := by simp [plD]
    have e2 : wout d (q ++ [(j : Int)]) = (lessD a j).map (putAt d q) := by
      unfold wout
      rw [if_neg hne, List.dropLast_concat, ha]
      simp
    rw [e2, e1]
    have hlq : q.length ≤ 80000 := by rw [List.length_append] at hl; omega
    obtain ⟨oa, na⟩ := partAt_nodes h ha
    have hjl := lt_of_get hj
    have hs := inner_small oa
    have t1 : dIfS (dNot (dTru (dVar 1))) (dRaise "BadStep" ["word"] (dCons (dC (.str "place")) dNil)) dNext [some d, some (.tup (q.map D.int ++ [.int j])), none, none, none] m = .nx [some d, some (.tup (q.map D.int ++ [.int j])), none, none, none] m := by
      simp [truD]
    have z1 : cutD (q.map D.int ++ [.int j]) none (some (-1)) = q.map D.int := by rw [cut_last, List.dropLast_concat]
    have t2 : dSet 2 (dApp F_part_at [] (dCons (dVar 0) (dCons (dSl opSl (dVar 1) dNoPt (dPt (dUn opNeg (dC (.int 1))))) dNil))) [some d, some (.tup (q.map D.int ++ [.int j])), none, none, none] m = .nx [some d, some (.tup (q.map D.int ++ [.int j])), some a, none, none] m := by
      have := part_ok h ha m
      unfold plD at this
      simp [opSl, z1, this]
    rw [ev_seq, t1, ev_thn_nx, ev_seq, t2, ev_thn_nx, ev_seq]
    have put : ∀ left : D, F_put_part [d, .tup (q.map D.int), left] m = .ok (putAt d q left) m := fun left => put_ok h hn hp.init hlq ha m
    have last : ∀ (left : D) (y4 : Option D), (dRet (dApp F_put_part [] (dCons (dVar 0) (dCons (dSl opSl (dVar 1) dNoPt (dPt (dUn opNeg (dC (.int 1))))) (dCons (dVar 3) dNil))))) [some d, some (.tup (q.map D.int ++ [.int j])), some a, some left, y4] m = .rt (putAt d q left) m := fun left y4 => last_ok (put left)
    have lastix : atI (q.map D.int ++ [.int (j : Nat)]) (-1) = some (.int (j : Nat)) := at_last
    cases oa with
    | leaf2 h1 h2 => simp [inner] at hjl
    | leaf3 h1 h2 =>
      have : ¬ ("by" : Str) = "but" := by decide
      simp [inner, this] at hjl
    | nary h1 h2 =>
      rename_i w xs
      simp only [inner, h1, if_true] at hjl hs hj
      have hw : PyData.strOk w = true := by rcases h1 with rfl | rfl <;> first | exact ok_or | exact ok_and
      have hwb : ¬ w = "but" := by rcases h1 with rfl | rfl <;> decide
      have t3 : dTest (dBin opEq (dBin opIxM (dVar 2) (dC (.int 0))) (dC (.str "but"))) [some d, some (.tup (q.map D.int ++ [.int j])), some (.tup [.str w, .tup xs]), none, none] m = .ok false m := by
        simp [wd_eq hw ok_but, hwb]
      have z2 : (cutD xs none (some (j : Int))).length + (cutD xs (some ((j : Int) + 1)) none).length ≤ sizeLine := sz_le (by
        rw [cut_to (by omega), show (j : Int) + 1 = ((j + 1 : Nat) : Int) by omega, cut_from (by omega)]; simp; omega)
      have z3 : opAdd (.tup (cutD xs none (some (j : Int)))) (.tup (cutD xs (some ((j : Int) + 1)) none)) m = .ok (.tup (xs.eraseIdx j)) m := by
        rw [ev_add_t, if_pos z2, cut_era hjl]
      have t4 : dSet 4 (dBin opAdd (dSl opSl (dBin opIxM (dVar 2) (dC (.int 1))) dNoPt (dPt (dBin opIxM (dVar 1) (dUn opNeg (dC (.int 1)))))) (dSl opSl (dBin opIxM (dVar 2) (dC (.int 1))) (dPt (dBin opAdd (dBin opIxM (dVar 1) (dUn opNeg (dC (.int 1)))) (dC (.int 1)))) dNoPt)) [some d, some (.tup (q.map D.int ++ [.int j])), some (.tup [.str w, .tup xs]), none, none] m = .nx [some d, some (.tup (q.map D.int ++ [.int j])), some (.tup [.str w, .tup xs]), none, some (.tup (xs.eraseIdx j))] m := by
        simp [opSl, lastix, z3]
      have t5 : dSet 3 (dIf (dTest (dBin opEq (dCall (fn1 opLen) (dCons (dVar 4) dNil)) (dC (.int 1)))) (dBin opIxM (dVar 4) (dC (.int 0))) (dTup (dCons (dBin opIxM (dVar 2) (dC (.int 0))) (dCons (dVar 4) dNil)))) [some d, some (.tup (q.map D.int ++ [.int j])), some (.tup [.str w, .tup xs]), none, some (.tup (xs.eraseIdx j))] m = .nx [some d, some (.tup (q.map D.int ++ [.int j])), some (.tup [.str w, .tup xs]), some (if (xs.eraseIdx j).length = 1 then (xs.eraseIdx j).getD 0 .non else .tup [.str w, .tup (xs.eraseIdx j)]), some (.tup (xs.eraseIdx j))] m := by
        have b1 : dTest (dBin opEq (dCall (fn1 opLen) (dCons (dVar 4) dNil)) (dC (.int 1))) [some d, some (.tup (q.map D.int ++ [.int j])), some (.tup [.str w, .tup xs]), none, some (.tup (xs.eraseIdx j))] m = .ok (decide (((xs.eraseIdx j).length : Int) = 1)) m := by
          simp only [ev_test, ev_bin, ev_call, ev_cons, ev_var, ev_nil, ev_bind, List.getElem?_cons_succ, List.getElem?_cons_zero, ev_fn1, ev_len_t, ev_C, ev_eq_i]
        rw [ev_set, ev_if, b1, ev_bind]
        by_cases b : (xs.eraseIdx j).length = 1
        · have b2 : (((xs.eraseIdx j).length : Int) = 1) := by omega
          rw [if_pos (decide_eq_true b2), if_pos b]
          obtain ⟨y, hy⟩ := List.length_eq_one_iff.mp b
          rw [hy]
          simp
        · have b2 : ¬ (((xs.eraseIdx j).length : Int) = 1) := by omega
          rw [if_neg (by rw [decide_eq_false b2]; decide), if_neg b]
          simp
      have t6 : (dIfS (dTest (dBin opEq (dBin opIxM (dVar 2) (dC (.int 0))) (dC (.str "but")))) (dSeq (dIfS (dTest (dBin opEq (dBin opIxM (dVar 1) (dUn opNeg (dC (.int 1)))) (dC (.int 0)))) (dRaise "BadStep" ["word"] (dCons (dC (.str "place")) dNil)) dNext)
  (dSet 3 (dBin opIxM (dVar 2) (dC (.int 1))))) (dSeq (dSet 4 (dBin opAdd (dSl opSl (dBin opIxM (dVar 2) (dC (.int 1))) dNoPt (dPt (dBin opIxM (dVar 1) (dUn opNeg (dC (.int 1)))))) (dSl opSl (dBin opIxM (dVar 2) (dC (.int 1))) (dPt (dBin opAdd (dBin opIxM (dVar 1) (dUn opNeg (dC (.int 1)))) (dC (.int 1)))) dNoPt)))
  (dSet 3 (dIf (dTest (dBin opEq (dCall (fn1 opLen) (dCons (dVar 4) dNil)) (dC (.int 1)))) (dBin opIxM (dVar 4) (dC (.int 0))) (dTup (dCons (dBin opIxM (dVar 2) (dC (.int 0))) (dCons (dVar 4) dNil))))))) [some d, some (.tup (q.map D.int ++ [.int j])), some (.tup [.str w, .tup xs]), none, none] m = .nx [some d, some (.tup (q.map D.int ++ [.int j])), some (.tup [.str w, .tup xs]), some (if (xs.eraseIdx j).length = 1 then (xs.eraseIdx j).getD 0 .non else .tup [.str w, .tup (xs.eraseIdx j)]), some (.tup (xs.eraseIdx j))] m := by
        rw [ev_ifS, t3, ev_goes, if_neg (by decide), ev_seq, t4, ev_thn_nx, t5]
      rw [t6, ev_thn_nx, last]
      simp only [lessD, Option.map_some, ev_val_rt]
    | but h1 h2 =>
      rename_i b c
      have t3 : dTest (dBin opEq (dBin opIxM (dVar 2) (dC (.int 0))) (dC (.str "but"))) [some d, some (.tup (q.map D.int ++ [.int j])), some (.tup [.str "but", b, c]), none, none] m = .ok true m := by
        simp [wd_eq ok_but ok_but]
      have t4 : dTest (dBin opEq (dBin opIxM (dVar 1) (dUn opNeg (dC (.int 1)))) (dC (.int 0))) [some d, some (.tup (q.map D.int ++ [.int j])), some (.tup [.str "but", b, c]), none, none] m = .ok (decide (j = 0)) m := by
        simp [lastix]
      rw [ev_ifS, t3, ev_goes, if_pos rfl, ev_seq, ev_ifS, t4, ev_goes]
      by_cases hj0 : j = 0
      · rw [if_pos (decide_eq_true hj0)]
        simp [lessD, hj0]
      · rw [if_neg (by rw [decide_eq_false hj0]; decide), ev_next, ev_thn_nx]
        have t5 : dSet 3 (dBin opIxM (dVar 2) (dC (.int 1))) [some d, some (.tup (q.map D.int ++ [.int j])), some (.tup [.str "but", b, c]), none, none] m = .nx [some d, some (.tup (q.map D.int ++ [.int j])), some (.tup [.str "but", b, c]), some b, none] m := by simp
        rw [t5, ev_thn_nx, last]
        simp [lessD, hj0]
theorem told_ok {d x : D} {p : List Int} (h : RuleOk d) (hn : d.nodes ≤ 80000) (hp : Pl p) (hl : p.length ≤ 80000) (hx : partAt d p = some x) (m : Mem) :
    F__law_told [d, plD p] m = match wout d p with
      | some r => .ok r m
      | none => .ok (.ref m.length) (m ++ [.lst [.str "place"]]) := by
  unfold F__law_told
  rw [run_eq (np := 2) rfl]
  show (g__law_told [some d, some (plD p), none] m).val = _
  have e := without_ok h hn hp hl hx m
  unfold g__law_told dTry
  cases hw : wout d p with
  | some r =>
    rw [hw] at e
    simp [e]
  | none =>
    rw [hw] at e
    have t : dRet (dApp F_without_part [] (dCons (dVar 0) (dCons (dVar 1) dNil))) [some d, some (plD p), none] m = .exn "BadStep" [("word", .str "place")] [some d, some (plD p), none] m := by
      simp [e]
    rw [t]
    rfl
end DL.k01
/-! The law's own view of a rule. -/
namespace DL.k01
open PySem PySem.Spec L2 DL
theorem linner_ok {d : D} (h : RuleOk d) (m : Mem) : F__law_inner [d] m = .ok (.ref m.length) (m ++ [.lst (inner d)]) := by
  unfold F__law_inner
  rw [run_eq (np := 1) rfl]
  show (g__law_inner [some d] m).val = _
  unfold g__law_inner
  have tt : ∀ (w v : Str) (rest : List D), PyData.strOk w = true → PyData.strOk v = true → dTest (dBin opEq (dBin opIxM (dVar 0) (dC (.int 0))) (dC (.str v))) [some (.tup (.str w :: rest))] m = .ok (decide (w = v)) m := fun w v rest hw hv => by
    simp [wd_eq hw hv]
  cases h with
  | leaf2 h1 h2 =>
    rename_i w x
    have hw : PyData.strOk w = true := by rcases h1 with rfl | rfl <;> first | exact ok_direct | exact ok_same
    have a1 : decide (w = "or") = false := by rcases h1 with rfl | rfl <;> decide
    have a2 : decide (w = "and") = false := by rcases h1 with rfl | rfl <;> decide
    have a3 : decide (w = "but") = false := by rcases h1 with rfl | rfl <;> decide
    simp only [ev_seq, ev_ifS, ev_or, tt w _ _ hw ok_or, tt w _ _ hw ok_and, tt w _ _ hw ok_but, a1, a2, a3, ev_bind, ev_goes, Bool.false_eq_true, if_false, ev_next, ev_thn_nx, ev_ret, ev_lst, ev_nil, List.length_nil, sz_0, if_true, ev_val_rt, inner]
  | leaf3 h1 h2 =>
    rename_i x y
    have a1 : decide (("by" : Str) = "or") = false := by decide
    have a2 : decide (("by" : Str) = "and") = false := by decide
    have a3 : decide (("by" : Str) = "but") = false := by decide
    have a4 : ¬ (("by" : Str) = "but") := by decide
    simp only [ev_seq, ev_ifS, ev_or, tt "by" _ _ ok_by ok_or, tt "by" _ _ ok_by ok_and, tt "by" _ _ ok_by ok_but, a1, a2, a3, ev_bind, ev_goes, Bool.false_eq_true, if_false, ev_next, ev_thn_nx, ev_ret, ev_lst, ev_nil, List.length_nil, sz_0, if_true, ev_val_rt]
    have a5 : inner (.tup [.str "by", .str x, .str y]) = [] := by simp only [inner, a4, if_false]
    rw [a5]
  | nary h1 h2 =>
    rename_i w xs
    have hw : PyData.strOk w = true := by rcases h1 with rfl | rfl <;> first | exact ok_or | exact ok_and
    have t : (dOr (dTest (dBin opEq (dBin opIxM (dVar 0) (dC (.int 0))) (dC (.str "or")))) (dTest (dBin opEq (dBin opIxM (dVar 0) (dC (.int 0))) (dC (.str "and"))))) [some (.tup [.str w, .tup xs])] m = .ok true m := by
      rw [ev_or, tt w _ _ hw ok_or, ev_bind, tt w _ _ hw ok_and]
      rcases h1 with rfl | rfl <;> rfl
    rw [ev_seq, ev_ifS, t, ev_goes, if_pos rfl]
    simp [inner, h1]
  | but h1 h2 =>
    rename_i a b
    have a1 : decide (("but" : Str) = "or") = false := by decide
    have a2 : decide (("but" : Str) = "and") = false := by decide
    have a3 : decide (("but" : Str) = "but") = true := by decide
    simp only [ev_seq, ev_ifS, ev_or, tt "but" _ _ ok_but ok_or, tt "but" _ _ ok_but ok_and, tt "but" _ _ ok_but ok_but, a1, a2, a3, ev_bind, ev_goes, Bool.false_eq_true, if_false, ev_next, ev_thn_nx, if_true]
    simp [inner]
/-- the dict of all parts -/
def Found (m : Mem) (l : Nat) (d : D) : Prop := ∃ kvs, m[l]? = some (.dct kvs) ∧ ∀ p x, Pl p → partAt d p = some x → lookD kvs (plD p) = some x
theorem found_ix {m : Mem} {l : Nat} {d x : D} {p : List Int} (h : Found m l d) (hp : Pl p) (hx : partAt d p = some x) : opIxM (.ref l) (plD p) m = .ok x m := by
  obtain ⟨kvs, h1, h2⟩ := h
  unfold opIxM
  simp only [h1, h2 p x hp hx]
theorem Found.frm {m m' : Mem} {l : Nat} {d : D} (h : Found m l d) (f : Frm [] m m') : Found m' l d := by
  obtain ⟨kvs, h1, h2⟩ := h
  exact ⟨kvs, f.get h1 (by simp), h2⟩
end DL.k01
/-! _law_less. -/
namespace DL.k01
open PySem PySem.Spec L2 DL
def lessB : DSt := (dSeq (dSet 7 (dBin opIxM (dVar 0) (dSl opSl (dVar 1) dNoPt (dPt (dVar 4)))))
  (dSeq (dSet 8 (dBin opIxM (dVar 1) (dVar 4)))
  (dIfS (dTest (dBin opEq (dBin opIxM (dVar 7) (dC (.int 0))) (dC (.str "but")))) (dSet 5 (dBin opIxM (dLst (dCons (dTup (dCons (dC (.str "but")) (dCons (dVar 5) (dCons (dBin opIxM (dVar 7) (dC (.int 2))) dNil)))) (dCons (dTup (dCons (dC (.str "but")) (dCons (dBin opIxM (dVar 7) (dC (.int 1))) (dCons (dVar 5) dNil)))) dNil))) (dVar 8))) (dSet 5 (dTup (dCons (dBin opIxM (dVar 7) (dC (.int 0))) (dCons (dBin opAdd (dBin opAdd (dSl opSl (dBin opIxM (dVar 7) (dC (.int 1))) dNoPt (dPt (dVar 8))) (dTup (dCons (dVar 5) dNil))) (dSl opSl (dBin opIxM (dVar 7) (dC (.int 1))) (dPt (dBin opAdd (dVar 8) (dC (.int 1)))) dNoPt)) dNil)))))))
theorem less_lap {m : Mem} {l k j : Nat} {d y z new : D} {p : List Int} {x2 x3 x6 y7 y8 : Option D} (h : RuleOk d) (hn : d.nodes ≤ 80000) (hF : Found m l d) (hp : Pl p) (hk : k < p.length) (hy : partAt d (p.take k) = some y) (hj : p[k]? = some (j : Int)) (hz : (inner y)[j]? = some z) :
    ∃ m', lessB [some (.ref l), some (plD p), x2, x3, some (.int k), some new, x6, y7, y8] m = .nx [some (.ref l), some (plD p), x2, x3, some (.int k), some (withD y j new), x6, some y, some (.int j)] m' ∧ Frm [] m m' := by
  obtain ⟨oy, ny⟩ := partAt_nodes h hy
  have hjl := lt_of_get hz
  have hs := inner_small oy
  have pt : Pl (p.take k) := fun i hi => hp i (List.mem_of_mem_take hi)
  have t1 : dSet 7 (dBin opIxM (dVar 0) (dSl opSl (dVar 1) dNoPt (dPt (dVar 4)))) [some (.ref l), some (plD p), x2, x3, some (.int k), some new, x6, y7, y8] m = .nx [some (.ref l), some (plD p), x2, x3, some (.int k), some new, x6, some y, y8] m := by
    have a1 : cutD (p.map D.int) none (some (k : Int)) = (p.take k).map D.int := by rw [cut_to (by simp; omega), List.map_take]
    have a2 := found_ix hF pt hy
    unfold plD at a2
    simp [plD, opSl, a1, a2, -List.map_take]
  have t2 : dSet 8 (dBin opIxM (dVar 1) (dVar 4)) [some (.ref l), some (plD p), x2, x3, some (.int k), some new, x6, some y, y8] m = .nx [some (.ref l), some (plD p), x2, x3, some (.int k), some new, x6, some y, some (.int j)] m := by
    have a2 : atI (p.map D.int) (k : Int) = some (.int j) := at_nat (by rw [List.getElem?_map, hj]; rfl)
    simp [plD, a2]
  unfold lessB
  rw [ev_seq, t1, ev_thn_nx, ev_seq, t2, ev_thn_nx]
  cases oy with
  | leaf2 h1 h2 => simp [inner] at hjl
  | leaf3 h1 h2 =>
    have : ¬ ("by" : Str) = "but" := by decide
    simp [inner, this] at hjl
  | nary h1 h2 =>
    rename_i w xs
    have hw : PyData.strOk w = true := by rcases h1 with rfl | rfl <;> first | exact ok_or | exact ok_and
    have hwb : ¬ w = "but" := by rcases h1 with rfl | rfl <;> decide
    have hwd : withD (.tup [.str w, .tup xs]) j new = .tup [.str w, .tup (xs.set j new)] := by simp [withD, hwb, inner, h1]
    simp only [inner, h1, if_true] at hjl hs
    refine ⟨m, ?_, Frm.refl⟩
    rw [hwd]
    have t3 : dTest (dBin opEq (dBin opIxM (dVar 7) (dC (.int 0))) (dC (.str "but"))) [some (.ref l), some (plD p), x2, x3, some (.int k), some new, x6, some (.tup [.str w, .tup xs]), some (.int j)] m = .ok false m := by
      simp [wd_eq hw ok_but, hwb]
    have z1 : (cutD xs none (some (j : Int))).length + [new].length ≤ sizeLine := sz_le (by rw [cut_to (by omega)]; simp; omega)
    have z2 : (cutD xs none (some (j : Int)) ++ [new]).length + (cutD xs (some ((j : Int) + 1)) none).length ≤ sizeLine := sz_le (by
      rw [cut_to (by omega), show (j : Int) + 1 = ((j + 1 : Nat) : Int) by omega, cut_from (by omega)]; simp; omega)
    have z3 : opAdd (.tup (cutD xs none (some (j : Int)))) (.tup [new]) m = .ok (.tup (cutD xs none (some (j : Int)) ++ [new])) m := by rw [ev_add_t, if_pos z1]
    have z4 : opAdd (.tup (cutD xs none (some (j : Int)) ++ [new])) (.tup (cutD xs (some ((j : Int) + 1)) none)) m = .ok (.tup (xs.set j new)) m := by rw [ev_add_t, if_pos z2, cut_set hjl]
    rw [ev_ifS, t3, ev_goes, if_neg (by decide)]
    simp [opSl, z3, z4, -List.append_assoc, -ev_add_t]
  | but h1 h2 =>
    rename_i a b
    have hwd : withD (.tup [.str "but", a, b]) j new = .tup (.str "but" :: [a, b].set j new) := by simp [withD, inner]
    have t3 : dTest (dBin opEq (dBin opIxM (dVar 7) (dC (.int 0))) (dC (.str "but"))) [some (.ref l), some (plD p), x2, x3, some (.int k), some new, x6, some (.tup [.str "but", a, b]), some (.int j)] m = .ok true m := by
      simp [wd_eq ok_but ok_but]
    have hj2 : j = 0 ∨ j = 1 := by simp [inner] at hjl; omega
    rw [hwd, ev_ifS, t3, ev_goes, if_pos rfl]
    refine ⟨m ++ [.lst [.tup [.str "but", new, b], .tup [.str "but", a, new]]], ?_, Frm.app⟩
    rcases hj2 with rfl | rfl
    · simp
    · simp
end DL.k01
/-! _law_less, its loop. -/
namespace DL.k01
open PySem PySem.Spec L2 DL
theorem less_loop {M m : Mem} {l j : Nat} {d a left : D} {q : List Int} {x2 x3 x4 x6 x7 x8 : Option D} (h : RuleOk d) (hn : d.nodes ≤ 80000) (hF : Found m l d) (hp : Pl (q ++ [(j : Int)])) (ha : partAt d q = some a) (hf : Frm [] M m) (s : Src) (hs : s.lk = none) :
    ∃ z4 z6 z7 z8 m', forF s (γName 4) lessB (rngD ((q.length : Nat) - 1) (-1) q.length) [some (.ref l), some (plD (q ++ [(j : Int)])), x2, x3, x4, some left, x6, x7, x8] m = .nx [some (.ref l), some (plD (q ++ [(j : Int)])), x2, x3, z4, some (putAt d q left), z6, z7, z8] m' ∧ Frm [] M m' := by
  obtain ⟨ρ', m', e, z4, z6, z7, z8, r1, _, r2⟩ := down hs (i := 4) (b := lessB) (d := d) (new0 := left) hp.init ha
    (fun new ρ m' => ∃ z4 z6 z7 z8, ρ = [some (.ref l), some (plD (q ++ [(j : Int)])), x2, x3, z4, some new, z6, z7, z8] ∧ Found m' l d ∧ Frm [] M m') (fun k y z new i ρ m' hk hy hi hz hr => by
      obtain ⟨z4, z6, z7, z8, rfl, hF', hf'⟩ := hr
      have b1 : (q ++ [(j : Int)]).take k = q.take k := List.take_append_of_le_length (by omega)
      have b2 : (q ++ [(j : Int)])[k]? = some (i : Int) := by rw [List.getElem?_append_left hk]; exact hi
      obtain ⟨m2, e2, f2⟩ := less_lap (m := m') (x2 := x2) (x3 := x3) (x6 := z6) (y7 := z7) (y8 := z8) (new := new) h hn hF' hp (k := k) (by simp; omega) (by rw [b1]; exact hy) b2 hz
      exact ⟨_, m2, e2, _, _, _, _, rfl, hF'.frm f2, hf'.trans f2⟩) q.length a [some (.ref l), some (plD (q ++ [(j : Int)])), x2, x3, x4, some left, x6, x7, x8] m (Nat.le_refl _) (by rw [List.take_length]; exact ha) (by rw [List.drop_length]; exact ⟨x4, x6, x7, x8, rfl, hF, hf⟩)
  subst r1
  exact ⟨z4, z6, z7, z8, m', e, r2⟩
theorem less_for {ρ ρ' : En} {m m' : Mem} {q : List Int} {j : Nat} (hv : ρ[1]? = some (some (plD (q ++ [(j : Int)])))) (hl : q.length ≤ 80000) (e : forF ⟨rngD ((q.length : Nat) - 1) (-1) q.length, none⟩ (γName 4) lessB (rngD ((q.length : Nat) - 1) (-1) q.length) ρ m = .nx ρ' m') :
    dFor (dRangeD (dBin opSub (dCall (fn1 opLen) (dCons (dVar 1) dNil)) (dC (.int 2))) (dBin opSub (dC (.int 0)) (dC (.int 1))) (dBin opSub (dC (.int 0)) (dC (.int 1)))) (γName 4) lessB ρ m = .nx ρ' m' := by
  have a1 : (dBin opSub (dCall (fn1 opLen) (dCons (dVar 1) dNil)) (dC (.int 2))) ρ m = .ok (.int ((q.length : Nat) - 1)) m := by
    simp [hv, plD]
    omega
  have a2 : (dBin opSub (dC (.int 0)) (dC (.int 1))) ρ m = .ok (.int (-1)) m := by simp
  have s1 : smallI ((q.length : Int) - 1) = true := by
    cases hq : q.length with
    | zero => decide
    | succ n =>
      rw [show ((n + 1 : Nat) : Int) - 1 = (n : Nat) by omega]
      exact small_len (by omega)
  have f : dRangeD (dBin opSub (dCall (fn1 opLen) (dCons (dVar 1) dNil)) (dC (.int 2))) (dBin opSub (dC (.int 0)) (dC (.int 1))) (dBin opSub (dC (.int 0)) (dC (.int 1))) ρ m = .ok ⟨rngD ((q.length : Nat) - 1) (-1) q.length, none⟩ m := by
    unfold dRangeD
    rw [a1, ev_bind, a2, ev_bind, a2, ev_bind]
    show (if (-1 : Int) = -1 ∧ smallI ((q.length : Int) - 1) = true ∧ smallI (-1) = true then (R.ok (⟨rngD ((q.length : Int) - 1) (-1) (((q.length : Int) - 1) - (-1)).toNat, none⟩ : Src) m) else .stk) = _
    rw [if_pos ⟨rfl, s1, by decide⟩, show (((q.length : Int) - 1) - (-1)).toNat = q.length by omega]
  rw [ev_for, f, ev_goes]
  exact e
end DL.k01
/-! _law_less, whole. -/
namespace DL.k01
open PySem PySem.Spec L2 DL
theorem less_end {m : Mem} {l j : Nat} {d a left : D} {q : List Int} {x6 : Option D} (h : RuleOk d) (hn : d.nodes ≤ 80000) (hF : Found m l d) (hp : Pl (q ++ [(j : Int)])) (hl : q.length ≤ 80000) (ha : partAt d q = some a) :
    ∃ m', ((dSeq (dFor (dRangeD (dBin opSub (dCall (fn1 opLen) (dCons (dVar 1) dNil)) (dC (.int 2))) (dBin opSub (dC (.int 0)) (dC (.int 1))) (dBin opSub (dC (.int 0)) (dC (.int 1)))) (γName 4) lessB) (dRet (dVar 5))) [some (.ref l), some (plD (q ++ [(j : Int)])), some a, some (.int j), none, some left, x6, none, none] m) = .rt (putAt d q left) m' ∧ Frm [] m m' := by
  obtain ⟨z4, z6, z7, z8, m', e, f⟩ := less_loop (x2 := some a) (x3 := some (.int j)) (x4 := none) (x6 := x6) (x7 := none) (x8 := none) (left := left) h hn hF hp ha (Frm.refl (ls := []) (m := m)) ⟨rngD ((q.length : Nat) - 1) (-1) q.length, none⟩ rfl
  refine ⟨m', ?_, f⟩
  rw [ev_seq, less_for rfl hl e, ev_thn_nx]
  rfl
theorem less_ok {m : Mem} {l : Nat} {d x : D} {p : List Int} (h : RuleOk d) (hn : d.nodes ≤ 80000) (hF : Found m l d) (hp : Pl p) (hl : p.length ≤ 80000) (hx : partAt d p = some x) :
    ∃ m', F__law_less [.ref l, plD p] m = .ok ((wout d p).getD .non) m' ∧ Frm [] m m' := by
  unfold F__law_less
  rw [run_eq (np := 2) rfl]
  show ∃ m', (g__law_less [some (.ref l), some (plD p), none, none, none, none, none, none, none] m).val = _ ∧ _
  unfold g__law_less
  by_cases hne : p = []
  · subst hne
    refine ⟨m, ?_, Frm.refl⟩
    simp [plD, wout]
  · obtain ⟨q, j, a, rfl, ha, hj⟩ := place_last hp hx hne
    have e1 : plD (q ++ [(j : Int)]) = .tup (q.map D.int ++ [.int j]) := by simp [plD]
    have e2 : wout d (q ++ [(j : Int)]) = (lessD a j).map (putAt d q) := by
      unfold wout
      rw [if_neg hne, List.dropLast_concat, ha]
      simp
    have hlq : q.length ≤ 80000 := by rw [List.length_append] at hl; omega
    obtain ⟨oa, na⟩ := partAt_nodes h ha
    have hjl := lt_of_get hj
    have hs := inner_small oa
    have z1 : cutD (q.map D.int ++ [.int j]) none (some (-1)) = q.map D.int := by rw [cut_last, List.dropLast_concat]
    have fi := found_ix hF hp.init ha
    have t1 : dIfS (dTest (dBin opEq (dCall (fn1 opLen) (dCons (dVar 1) dNil)) (dC (.int 0)))) (dRet (dC .non)) dNext [some (.ref l), some (plD (q ++ [(j : Int)])), none, none, none, none, none, none, none] m = .nx [some (.ref l), some (plD (q ++ [(j : Int)])), none, none, none, none, none, none, none] m := by
      have : ¬ ((q.length : Int) + 1 = 0) := by omega
      simp [plD, this]
    have t2 : dSet 2 (dBin opIxM (dVar 0) (dSl opSl (dVar 1) dNoPt (dPt (dUn opNeg (dC (.int 1)))))) [some (.ref l), some (plD (q ++ [(j : Int)])), none, none, none, none, none, none, none] m = .nx [some (.ref l), some (plD (q ++ [(j : Int)])), some a, none, none, none, none, none, none] m := by
      unfold plD at fi
      simp [e1, opSl, z1, fi]
    have t3 : dSet 3 (dBin opIxM (dVar 1) (dBin opSub (dCall (fn1 opLen) (dCons (dVar 1) dNil)) (dC (.int 1)))) [some (.ref l), some (plD (q ++ [(j : Int)])), some a, none, none, none, none, none, none] m = .nx [some (.ref l), some (plD (q ++ [(j : Int)])), some a, some (.int j), none, none, none, none, none] m := by
      have b : atI (q.map D.int ++ [.int (j : Nat)]) (q.length : Int) = some (.int (j : Nat)) := at_nat (by simp)
      have c : (q.length : Int) + 1 - 1 = q.length := by omega
      simp [e1, b, c]
    rw [e2, ev_seq, t1, ev_thn_nx, ev_seq, t2, ev_thn_nx, ev_seq, t3, ev_thn_nx, ev_seq]
    cases oa with
    | leaf2 h1 h2 => simp [inner] at hjl
    | leaf3 h1 h2 =>
      have : ¬ ("by" : Str) = "but" := by decide
      simp [inner, this] at hjl
    | nary h1 h2 =>
      rename_i w xs
      simp only [inner, h1, if_true] at hjl hs hj
      have hw : PyData.strOk w = true := by rcases h1 with rfl | rfl <;> first | exact ok_or | exact ok_and
      have hwb : ¬ w = "but" := by rcases h1 with rfl | rfl <;> decide
      have t4 : dTest (dBin opEq (dBin opIxM (dVar 2) (dC (.int 0))) (dC (.str "but"))) [some (.ref l), some (plD (q ++ [(j : Int)])), some (.tup [.str w, .tup xs]), some (.int j), none, none, none, none, none] m = .ok false m := by
        simp [wd_eq hw ok_but, hwb]
      have z2 : (cutD xs none (some (j : Int))).length + (cutD xs (some ((j : Int) + 1)) none).length ≤ sizeLine := sz_le (by
        rw [cut_to (by omega), show (j : Int) + 1 = ((j + 1 : Nat) : Int) by omega, cut_from (by omega)]; simp; omega)
      have z3 : opAdd (.tup (cutD xs none (some (j : Int)))) (.tup (cutD xs (some ((j : Int) + 1)) none)) m = .ok (.tup (xs.eraseIdx j)) m := by
        rw [ev_add_t, if_pos z2, cut_era hjl]
      have t5 : dSet 6 (dBin opAdd (dSl opSl (dBin opIxM (dVar 2) (dC (.int 1))) dNoPt (dPt (dVar 3))) (dSl opSl (dBin opIxM (dVar 2) (dC (.int 1))) (dPt (dBin opAdd (dVar 3) (dC (.int 1)))) dNoPt)) [some (.ref l), some (plD (q ++ [(j : Int)])), some (.tup [.str w, .tup xs]), some (.int j), none, none, none, none, none] m = .nx [some (.ref l), some (plD (q ++ [(j : Int)])), some (.tup [.str w, .tup xs]), some (.int j), none, none, some (.tup (xs.eraseIdx j)), none, none] m := by
        simp [opSl, z3, -ev_add_t]
      have t6 : dSet 5 (dTup (dCons (dBin opIxM (dVar 2) (dC (.int 0))) (dCons (dVar 6) dNil))) [some (.ref l), some (plD (q ++ [(j : Int)])), some (.tup [.str w, .tup xs]), some (.int j), none, none, some (.tup (xs.eraseIdx j)), none, none] m = .nx [some (.ref l), some (plD (q ++ [(j : Int)])), some (.tup [.str w, .tup xs]), some (.int j), none, some (.tup [.str w, .tup (xs.eraseIdx j)]), some (.tup (xs.eraseIdx j)), none, none] m := by
        simp
      have t7 : dIfS (dTest (dBin opEq (dCall (fn1 opLen) (dCons (dVar 6) dNil)) (dC (.int 1)))) (dSet 5 (dBin opIxM (dVar 6) (dC (.int 0)))) dNext [some (.ref l), some (plD (q ++ [(j : Int)])), some (.tup [.str w, .tup xs]), some (.int j), none, some (.tup [.str w, .tup (xs.eraseIdx j)]), some (.tup (xs.eraseIdx j)), none, none] m = .nx [some (.ref l), some (plD (q ++ [(j : Int)])), some (.tup [.str w, .tup xs]), some (.int j), none, some (if (xs.eraseIdx j).length = 1 then (xs.eraseIdx j).getD 0 .non else .tup [.str w, .tup (xs.eraseIdx j)]), some (.tup (xs.eraseIdx j)), none, none] m := by
        have b1 : dTest (dBin opEq (dCall (fn1 opLen) (dCons (dVar 6) dNil)) (dC (.int 1))) [some (.ref l), some (plD (q ++ [(j : Int)])), some (.tup [.str w, .tup xs]), some (.int j), none, some (.tup [.str w, .tup (xs.eraseIdx j)]), some (.tup (xs.eraseIdx j)), none, none] m = .ok (decide (((xs.eraseIdx j).length : Int) = 1)) m := by
          simp only [ev_test, ev_bin, ev_call, ev_cons, ev_var, ev_nil, ev_bind, List.getElem?_cons_succ, List.getElem?_cons_zero, ev_fn1, ev_len_t, ev_C, ev_eq_i]
        rw [ev_ifS, b1, ev_goes]
        by_cases b : (xs.eraseIdx j).length = 1
        · have b2 : (((xs.eraseIdx j).length : Int) = 1) := by omega
          rw [if_pos (decide_eq_true b2), if_pos b]
          obtain ⟨y, hy⟩ := List.length_eq_one_iff.mp b
          rw [hy]
          simp
        · have b2 : ¬ (((xs.eraseIdx j).length : Int) = 1) := by omega
          rw [if_neg (by rw [decide_eq_false b2]; decide), if_neg b]
          rfl
      obtain ⟨m', e, f⟩ := less_end (x6 := some (.tup (xs.eraseIdx j))) (left := if (xs.eraseIdx j).length = 1 then (xs.eraseIdx j).getD 0 .non else .tup [.str w, .tup (xs.eraseIdx j)]) h hn hF hp hlq ha
      refine ⟨m', ?_, f⟩
      rw [ev_ifS, t4, ev_goes, if_neg (by decide), ev_seq, t5, ev_thn_nx, ev_seq, t6, ev_thn_nx, t7, ev_thn_nx]
      refine (congrArg O.val e).trans ?_
      simp only [lessD, Option.map_some, Option.getD_some, ev_val_rt]
    | but h1 h2 =>
      rename_i b c
      have t4 : dTest (dBin opEq (dBin opIxM (dVar 2) (dC (.int 0))) (dC (.str "but"))) [some (.ref l), some (plD (q ++ [(j : Int)])), some (.tup [.str "but", b, c]), some (.int j), none, none, none, none, none] m = .ok true m := by
        simp [wd_eq ok_but ok_but]
      have t5 : dTest (dBin opEq (dVar 3) (dC (.int 0))) [some (.ref l), some (plD (q ++ [(j : Int)])), some (.tup [.str "but", b, c]), some (.int j), none, none, none, none, none] m = .ok (decide (j = 0)) m := by
        simp
      by_cases hj0 : j = 0
      · refine ⟨m, ?_, Frm.refl⟩
        rw [ev_ifS, t4, ev_goes, if_pos rfl, ev_seq, ev_ifS, t5, ev_goes, if_pos (decide_eq_true hj0)]
        simp [lessD, hj0]
      · have t6 : dSet 5 (dBin opIxM (dVar 2) (dC (.int 1))) [some (.ref l), some (plD (q ++ [(j : Int)])), some (.tup [.str "but", b, c]), some (.int j), none, none, none, none, none] m = .nx [some (.ref l), some (plD (q ++ [(j : Int)])), some (.tup [.str "but", b, c]), some (.int j), none, some b, none, none, none] m := by simp
        obtain ⟨m', e, f⟩ := less_end (x6 := none) (left := b) h hn hF hp hlq ha
        refine ⟨m', ?_, f⟩
        rw [ev_ifS, t4, ev_goes, if_pos rfl, ev_seq, ev_ifS, t5, ev_goes, if_neg (by rw [decide_eq_false hj0]; decide), ev_next, ev_thn_nx, t6, ev_thn_nx]
        refine (congrArg O.val e).trans ?_
        simp [lessD, hj0]
end DL.k01
/-! What is left is a rule. -/
namespace DL
open PySem PySem.Spec L2
theorem nodesAll_set : ∀ (xs : List D) (i : Nat) (x y : D), xs[i]? = some x → D.nodesAll (xs.set i y) + x.nodes = D.nodesAll xs + y.nodes
  | [], i, x, y, h => by simp at h
  | z :: xs, 0, x, y, h => by
    simp at h
    subst h
    simp [D.nodesAll]; omega
  | z :: xs, i + 1, x, y, h => by
    simp at h
    have := nodesAll_set xs i x y h
    simp [D.nodesAll]; omega
theorem nodesAll_era : ∀ (xs : List D) (i : Nat), D.nodesAll (xs.eraseIdx i) ≤ D.nodesAll xs
  | [], i => by simp
  | z :: xs, 0 => by simp [D.nodesAll]
  | z :: xs, i + 1 => by
    have := nodesAll_era xs i
    simp [D.nodesAll]; omega
theorem withD_ok {d x new : D} {i : Nat} (h : RuleOk d) (hw : RuleOk new) (hx : (inner d)[i]? = some x) : RuleOk (withD d i new) ∧ (withD d i new).nodes + x.nodes ≤ d.nodes + new.nodes := by
  cases h with
  | leaf2 h1 h2 => simp [inner] at hx
  | leaf3 h1 h2 =>
    have : ¬ ("by" : Str) = "but" := by decide
    simp [inner, this] at hx
  | nary h1 h2 =>
    rename_i w xs
    have hwb : ¬ w = "but" := by rcases h1 with rfl | rfl <;> decide
    have e : withD (.tup [.str w, .tup xs]) i new = .tup [.str w, .tup (xs.set i new)] := by simp [withD, hwb, inner, h1]
    simp only [inner, h1, if_true] at hx
    rw [e]
    refine ⟨.nary h1 (RulesOk.of fun y hy => ?_), ?_⟩
    · rcases List.mem_or_eq_of_mem_set hy with hy | rfl
      · exact h2.all y hy
      · exact hw
    · have := nodesAll_set xs i x new hx
      simp only [D.nodes, D.nodesAll]
      omega
  | but h1 h2 =>
    rename_i a b
    have e : withD (.tup [.str "but", a, b]) i new = .tup (.str "but" :: [a, b].set i new) := by simp [withD, inner]
    rw [e]
    have hx' : [a, b][i]? = some x := by simpa [inner] using hx
    have := nodesAll_set [a, b] i x new hx'
    have hi : i = 0 ∨ i = 1 := by have := lt_of_get hx'; simp at this; omega
    refine ⟨?_, ?_⟩
    · rcases hi with rfl | rfl
      · exact .but hw h2
      · exact .but h1 hw
    · simp only [D.nodes, D.nodesAll] at this ⊢
      omega
theorem putAt_ok : ∀ {p : List Int} {d x new : D}, RuleOk d → RuleOk new → Pl p → partAt d p = some x → RuleOk (putAt d p new) ∧ (putAt d p new).nodes + x.nodes ≤ d.nodes + new.nodes
  | [], d, x, new, h, hw, _, hx => by cases hx; exact ⟨hw, by simp [putAt]; omega⟩
  | i :: p, d, x, new, h, hw, hp, hx => by
    obtain ⟨y, h1, h2⟩ := partAt_cons (hp i List.mem_cons_self) hx
    have oy := inner_all h y (List.mem_of_getElem? h1)
    obtain ⟨a1, a2⟩ := putAt_ok oy hw hp.tail h2
    obtain ⟨b1, b2⟩ := withD_ok h a1 h1
    simp only [putAt, h1]
    exact ⟨b1, by omega⟩
theorem lessD_ok {a x r : D} {j : Nat} (h : RuleOk a) (hx : (inner a)[j]? = some x) (hr : lessD a j = some r) : RuleOk r ∧ r.nodes ≤ a.nodes := by
  cases h with
  | leaf2 h1 h2 => simp [inner] at hx
  | leaf3 h1 h2 =>
    have : ¬ ("by" : Str) = "but" := by decide
    simp [inner, this] at hx
  | nary h1 h2 =>
    rename_i w xs
    simp only [lessD, Option.some.injEq] at hr
    have he := nodesAll_era xs j
    have oe : RulesOk (xs.eraseIdx j) := RulesOk.of fun y hy => h2.all y (List.mem_of_mem_eraseIdx hy)
    by_cases b : (xs.eraseIdx j).length = 1
    · rw [if_pos b] at hr
      obtain ⟨y, hy⟩ := List.length_eq_one_iff.mp b
      rw [hy] at hr he oe
      simp at hr
      subst hr
      refine ⟨oe.all _ (by simp), ?_⟩
      simp only [D.nodes, D.nodesAll] at he ⊢
      omega
    · rw [if_neg b] at hr
      subst hr
      refine ⟨.nary h1 oe, ?_⟩
      simp only [D.nodes, D.nodesAll]
      omega
  | but h1 h2 =>
    rename_i a b
    simp only [lessD] at hr
    split at hr
    · cases hr
    · cases hr
      refine ⟨h1, ?_⟩
      simp only [D.nodes, D.nodesAll]
      omega
theorem wout_ok {d x r : D} {p : List Int} (h : RuleOk d) (hp : Pl p) (hx : partAt d p = some x) (hr : wout d p = some r) : RuleOk r ∧ r.nodes ≤ d.nodes := by
  by_cases hne : p = []
  · simp [wout, hne] at hr
  · obtain ⟨q, j, a, rfl, ha, hj⟩ := place_last hp hx hne
    have e2 : wout d (q ++ [(j : Int)]) = (lessD a j).map (putAt d q) := by
      unfold wout
      rw [if_neg hne, List.dropLast_concat, ha]
      simp
    rw [e2] at hr
    obtain ⟨oa, na⟩ := partAt_nodes h ha
    cases e : lessD a j with
    | none => rw [e] at hr; cases hr
    | some left =>
      rw [e] at hr
      cases hr
      obtain ⟨b1, b2⟩ := lessD_ok oa hj e
      obtain ⟨c1, c2⟩ := putAt_ok h b1 hp.init ha
      exact ⟨c1, by omega⟩
end DL
/-! _law_leaf. -/
namespace DL.k01
open PySem PySem.Spec L2 DL
theorem name_at {m : Mem} {nm : Nat} {ns : List Str} (hm : m[nm]? = some (.lst (ns.map .str))) (hn : ∀ x ∈ ns, NmOk x) {i : Int} (h0 : 0 ≤ i) (h1 : i < ns.length) : ∃ x : Str, NmOk x ∧ opIxM (.ref nm) (.int i) m = .ok (.str x) m := by
  have hl : i.toNat < ns.length := by omega
  refine ⟨ns[i.toNat], hn _ (List.getElem_mem _), ?_⟩
  rw [ev_ix_l hm, at_int h0 (x := .str ns[i.toNat]) (by rw [List.getElem?_map, List.getElem?_eq_getElem hl]; rfl)]
theorem leaf_ok (hF : Next F__law_next) {m : Mem} {l p nm : Nat} {ns : List Str} (hd : Drw m l p) (hm : m[nm]? = some (.lst (ns.map .str))) (hnl : nm ≠ l) (hn : ∀ x ∈ ns, NmOk x) (hz : 0 < ns.length) :
    ∃ r m', F__law_leaf [.ref l, .ref nm] m = .ok r m' ∧ RuleOk r ∧ r.nodes ≤ 5 ∧ Drw m' l p ∧ Frm [l] m m' := by
  have hz' : 0 < (ns.length : Int) := by omega
  obtain ⟨k, m1, e1, a1, b1, f1, d1, _⟩ := hF.ok hd (many := 3) (by decide)
  have hm1 := f1.get hm (by simpa using hnl)
  obtain ⟨i, m2, e2, a2, b2, f2, d2, _⟩ := hF.ok d1 (many := ns.length) hz'
  have hm2 := f2.get hm1 (by simpa using hnl)
  obtain ⟨x, ox, ex⟩ := name_at hm2 hn a2 b2
  obtain ⟨i3, m3, e3, a3, b3, f3, d3, _⟩ := hF.ok d2 (many := ns.length) hz'
  have hm3 := f3.get hm2 (by simpa using hnl)
  obtain ⟨y, oy, ey⟩ := name_at hm3 hn a3 b3
  have hk : k = 0 ∨ k = 1 ∨ k = 2 := by omega
  let L : List D := [.tup [.str "direct", .str x], .tup [.str "same", .str x], .tup [.str "by", .str x, .str y]]
  have hr : ∃ r, atI L k = some r ∧ RuleOk r ∧ r.nodes ≤ 5 := by
    rcases hk with rfl | rfl | rfl
    · exact ⟨_, at_0 _ _, .leaf2 (.inl rfl) ox.1, by simp [D.nodes, D.nodesAll]⟩
    · exact ⟨_, at_1 _ _ _, .leaf2 (.inr rfl) ox.1, by simp [D.nodes, D.nodesAll]⟩
    · exact ⟨_, at_2 _ _ _ _, .leaf3 ox.1 oy.1, by simp [D.nodes, D.nodesAll]⟩
  obtain ⟨r, hr1, hr2, hr3⟩ := hr
  refine ⟨r, m3 ++ [.lst L], ?_, hr2, hr3, d3.frm (ls := []) Frm.app (by simp) (by simp), ((f1.trans f2).trans f3).more⟩
  unfold F__law_leaf
  rw [run_eq (np := 2) rfl]
  show (g__law_leaf [some (.ref l), some (.ref nm), none, none] m).val = _
  unfold g__law_leaf
  revert e1 e2 e3
  generalize F__law_next = F
  intro e1 e2 e3
  have ln : ∀ m', m'[nm]? = some (.lst (ns.map .str)) → opLen (.ref nm) m' = .ok (.int ns.length) m' := fun m' h => by simp [h]
  have t1 : dSet 2 (dApp F [] (dCons (dVar 0) (dCons (dC (.int 3)) dNil))) [some (.ref l), some (.ref nm), none, none] m = .nx [some (.ref l), some (.ref nm), some (.int k), none] m1 := by
    simp [e1]
  have t2 : dSet 3 (dBin opIxM (dVar 1) (dApp F [] (dCons (dVar 0) (dCons (dCall (fn1 opLen) (dCons (dVar 1) dNil)) dNil)))) [some (.ref l), some (.ref nm), some (.int k), none] m1 = .nx [some (.ref l), some (.ref nm), some (.int k), some (.str x)] m2 := by
    simp [ln m1 hm1, e2, ex, -ev_len_r]
  have t3 : (dTup (dCons (dC (.str "by")) (dCons (dVar 3) (dCons (dBin opIxM (dVar 1) (dApp F [] (dCons (dVar 0) (dCons (dCall (fn1 opLen) (dCons (dVar 1) dNil)) dNil)))) dNil)))) [some (.ref l), some (.ref nm), some (.int k), some (.str x)] m2 = .ok (.tup [.str "by", .str x, .str y]) m3 := by
    simp [ln m2 hm2, e3, ey, -ev_len_r]
  have t4 : (dLst (dCons (dTup (dCons (dC (.str "direct")) (dCons (dVar 3) dNil))) (dCons (dTup (dCons (dC (.str "same")) (dCons (dVar 3) dNil))) (dCons (dTup (dCons (dC (.str "by")) (dCons (dVar 3) (dCons (dBin opIxM (dVar 1) (dApp F [] (dCons (dVar 0) (dCons (dCall (fn1 opLen) (dCons (dVar 1) dNil)) dNil)))) dNil)))) dNil)))) [some (.ref l), some (.ref nm), some (.int k), some (.str x)] m2 = .ok (.ref m3.length) (m3 ++ [.lst L]) := by
    have q : ∀ w : Str, (dTup (dCons (dC (.str w)) (dCons (dVar 3) dNil))) [some (.ref l), some (.ref nm), some (.int k), some (.str x)] m2 = .ok (.tup [.str w, .str x]) m2 := fun w => by simp
    rw [ev_lst, ev_cons, q, ev_bind, ev_cons, q, ev_bind, ev_cons, t3, ev_bind, ev_nil, ev_bind, ev_bind, ev_bind, ev_bind]
    simp [L]
  have t5 : opIxM (.ref m3.length) (.int k) (m3 ++ [.lst L]) = .ok r (m3 ++ [.lst L]) := by
    rw [ev_ix_l get_new, hr1]
  rw [ev_seq, t1, ev_thn_nx, ev_seq, t2, ev_thn_nx, ev_ret, ev_bin, t4, ev_bind, ev_var]
  show (((opIxM (.ref m3.length) (.int k) (m3 ++ [.lst L])).goes _ _).val) = _
  rw [t5]
  rfl
end DL.k01
/-! A dict filled from a list of pairs. -/
namespace DL
open PySem PySem.Spec L2
theorem look_app {kvs : List (D × D)} {k v k' : D} : lookD (kvs ++ [(k, v)]) k' = match lookD kvs k' with
    | some x => some x
    | none => if k = k' then some v else none := by
  unfold lookD
  rw [List.find?_append]
  cases h : kvs.find? fun p => decide (p.1 = k') with
  | some y => simp [h]
  | none =>
    by_cases e : k = k'
    · simp [h, e]
    · simp [h, e]
theorem look_map {kvs : List (D × D)} {k v k' : D} : lookD (kvs.map fun p => if p.1 = k then (p.1, v) else p) k' = if k = k' then (lookD kvs k').map (fun _ => v) else lookD kvs k' := by
  unfold lookD
  induction kvs with
  | nil => simp
  | cons p kvs ih =>
    by_cases e1 : p.1 = k
    · by_cases e2 : k = k'
      · simp [e1, e2]
      · have : ¬ p.1 = k' := fun z => e2 (e1.symm.trans z)
        simp only [List.map_cons, e1, if_true, List.find?_cons, e2, decide_false, if_false] at ih ⊢
        exact ih
    · by_cases e2 : p.1 = k'
      · have : ¬ k = k' := fun z => e1 (e2.trans z.symm)
        have e3 : (if p.1 = k then (p.1, v) else p) = p := if_neg e1
        rw [if_neg this, List.map_cons, e3, List.find?_cons, List.find?_cons, decide_eq_true e2]
      · simp only [List.map_cons, e1, if_false, List.find?_cons, e2, decide_false] at ih ⊢
        exact ih
theorem look_put {kvs : List (D × D)} {k v k' : D} : lookD (putD kvs k v) k' = if k = k' then some v else lookD kvs k' := by
  unfold putD
  by_cases h : (lookD kvs k).isSome = true
  · rw [if_pos h, look_map]
    by_cases e : k = k'
    · subst e
      rw [if_pos rfl, if_pos rfl]
      obtain ⟨y, hy⟩ := Option.isSome_iff_exists.mp h
      rw [hy]; rfl
    · rw [if_neg e, if_neg e]
  · rw [if_neg h, look_app]
    by_cases e : k = k'
    · subst e
      have : lookD kvs k = none := by
        cases hk : lookD kvs k with
        | none => rfl
        | some y => rw [hk] at h; exact absurd rfl h
      rw [this, if_pos rfl]
    · rw [if_neg e]
      cases lookD kvs k' with
      | none => simp [e]
      | some y => simp [e]
end DL
/-! A dict filled from a list of parts with places. -/
namespace DL
open PySem PySem.Spec L2
theorem nks_ints : ∀ (p : List Int), ∃ ks, D.nks (p.map .int) = some ks ∧ NestedKey.depthAll ks ≤ 1
  | [] => ⟨[], rfl, by simp [NestedKey.depthAll]⟩
  | i :: p => by
    obtain ⟨ks, h1, h2⟩ := nks_ints p
    refine ⟨.num i :: ks, by simp [D.nks, D.nk, h1], ?_⟩
    simp only [NestedKey.depthAll, NestedKey.depth]
    omega
theorem nk_ints : ∀ (p : List Int), ∃ k, (plD p).nk = some k ∧ k.depth ≤ 8 := fun p => by
  obtain ⟨ks, h1, h2⟩ := nks_ints p
  refine ⟨.tup ks, by simp [plD, D.nk, h1], ?_⟩
  simp only [NestedKey.depth]
  omega
theorem tup_key (p : List Int) : tupK (plD p) = true := by
  obtain ⟨k, h1, h2⟩ := nk_ints p
  unfold plD at h1 ⊢
  unfold tupK
  simp only [h1]
  exact decide_eq_true h2
/-- after the loop: the entries of the list, and those from before -/
def fillD : List (D × D) → List (List Int × D) → List (D × D)
  | kvs, [] => kvs
  | kvs, e :: es => fillD (putD kvs (plD e.1) e.2) es
theorem fill_look : ∀ (es : List (List Int × D)) (kvs : List (D × D)) (p : List Int) (x : D), (∀ e ∈ es, e.1 = p → e.2 = x) → ((∃ e ∈ es, e.1 = p) ∨ lookD kvs (plD p) = some x) → lookD (fillD kvs es) (plD p) = some x
  | [], kvs, p, x, _, h => by
    rcases h with ⟨e, h, _⟩ | h
    · cases h
    · exact h
  | e :: es, kvs, p, x, hu, h => by
    refine fill_look es _ p x (fun e' he' => hu e' (List.mem_cons_of_mem _ he')) ?_
    by_cases c : e.1 = p
    · right
      rw [look_put, c, if_pos rfl, hu e List.mem_cons_self c]
    · rcases h with ⟨e', he', h'⟩ | h
      · rcases List.mem_cons.mp he' with rfl | he'
        · exact absurd h' c
        · exact .inl ⟨e', he', h'⟩
      · right
        rw [look_put, if_neg (fun z => c (plD_inj z)), h]
end DL
/-! The loop that fills the dict. -/
namespace DL
open PySem PySem.Spec L2
theorem fill_len : ∀ (es : List (List Int × D)) (kvs : List (D × D)), (fillD kvs es).length ≤ kvs.length + es.length
  | [], kvs => Nat.le_refl _
  | e :: es, kvs => by
    have h1 := fill_len es (putD kvs (plD e.1) e.2)
    have h2 : (putD kvs (plD e.1) e.2).length ≤ kvs.length + 1 := by
      unfold putD
      split <;> simp
    simp only [fillD, List.length_cons]
    omega
theorem put_keys {kvs : List (D × D)} {p : List Int} {v : D} (h : (kvs.all fun q => tupK q.1) = true) : ((putD kvs (plD p) v).all fun q => tupK q.1) = true := by
  rw [List.all_eq_true] at h ⊢
  intro q hq
  unfold putD at hq
  split at hq
  · obtain ⟨r, hr, rfl⟩ := List.mem_map.mp hq
    split
    · exact h r hr
    · exact h r hr
  · rcases List.mem_append.mp hq with hq | hq
    · exact h q hq
    · rw [List.mem_singleton.mp hq]
      exact tup_key p
end DL
/-! The loop that fills the dict, as the laws write it. -/
namespace DL
open PySem PySem.Spec L2
theorem set_ok {m : Mem} {l : Nat} {kvs : List (D × D)} {p : List Int} {v : D} (h : m[l]? = some (.dct kvs)) (hk : (kvs.all fun q => tupK q.1) = true) (hz : kvs.length < 100000) : opSetM (.ref l) (plD p) v m = .ok () (m.set l (.dct (putD kvs (plD p) v))) := by
  unfold opSetM
  simp only [h]
  rw [if_pos ⟨sz63 hz, Or.inr ⟨tup_key p, hk⟩⟩]
theorem fill_loop {s : Src} {l i j f : Nat} (hij : i ≠ j) (hif : i ≠ f) (hjf : j ≠ f) : ∀ (es : List (List Int × D)) (kvs : List (D × D)) (ρ : En) (m : Mem), m[l]? = some (.dct kvs) → (kvs.all fun q => tupK q.1) = true → kvs.length + es.length < 100000 → i < ρ.length → j < ρ.length → ρ[f]? = some (some (.ref l)) → (∀ o, s.ok (m.set l (.dct o)) = true) →
    ∃ y z, forF s (γTL 2 (γCons (γName i) (γCons (γName j) γNil))) (dSub (dVar j) (dVar f) (dVar i) opSetM) (es.map eD) ρ m = .nx ((ρ.set i y).set j z) (m.set l (.dct (fillD kvs es)))
  | [], kvs, ρ, m, h, hk, hz, hi, hj, hf, hs => by
    have e : m.set l (.dct kvs) = m := by
      apply List.ext_getElem?
      intro n
      by_cases c : n = l
      · subst c; rw [h]; exact List.getElem?_set_self (lt_of_get h)
      · exact List.getElem?_set_ne (fun z => c z.symm)
    have hs' := hs kvs
    rw [e] at hs'
    refine ⟨ρ[i], ρ[j], ?_⟩
    simp [forF, hs', fillD, e]
  | e :: es, kvs, ρ, m, h, hk, hz, hi, hj, hf, hs => by
    have hs0 : s.ok m = true := by
      have e : m.set l (.dct kvs) = m := by
        apply List.ext_getElem?
        intro n
        by_cases c : n = l
        · subst c; rw [h]; exact List.getElem?_set_self (lt_of_get h)
        · exact List.getElem?_set_ne (fun z => c z.symm)
      have := hs kvs
      rwa [e] at this
    simp only [List.length_cons] at hz
    have hl2 := fill_len [e] kvs
    simp only [fillD, List.length_cons, List.length_nil] at hl2
    obtain ⟨y, z, ih⟩ := fill_loop (s := s) (l := l) hij hif hjf es (putD kvs (plD e.1) e.2) ((ρ.set i (some (plD e.1))).set j (some e.2)) (m.set l (.dct (putD kvs (plD e.1) e.2))) (get_set h) (put_keys hk) (by omega) (by simpa using hi) (by simpa using hj) (by rw [List.getElem?_set_ne hjf, List.getElem?_set_ne hif]; exact hf) (fun o => by rw [List.set_set]; exact hs o)
    refine ⟨y, z, ?_⟩
    have e1 : (γTL 2 (γCons (γName i) (γCons (γName j) γNil))) (eD e) ρ m = .ok ((ρ.set i (some (plD e.1))).set j (some e.2)) m := by simp [eD]
    have e2 : dSub (dVar j) (dVar f) (dVar i) opSetM ((ρ.set i (some (plD e.1))).set j (some e.2)) m = .nx ((ρ.set i (some (plD e.1))).set j (some e.2)) (m.set l (.dct (putD kvs (plD e.1) e.2))) := by
      have v1 : ((ρ.set i (some (plD e.1))).set j (some e.2))[j]? = some (some e.2) := List.getElem?_set_self (by simpa using hj)
      have v2 : ((ρ.set i (some (plD e.1))).set j (some e.2))[f]? = some (some (.ref l)) := by rw [List.getElem?_set_ne hjf, List.getElem?_set_ne hif]; exact hf
      have v3 : ((ρ.set i (some (plD e.1))).set j (some e.2))[i]? = some (some (plD e.1)) := by rw [List.getElem?_set_ne (fun z => hij z.symm)]; exact List.getElem?_set_self hi
      simp only [ev_sub, ev_var, v1, v2, v3, ev_goes, set_ok h hk (show kvs.length < 100000 by omega)]
    rw [List.map_cons]
    unfold forF
    rw [if_pos hs0, e1, ev_only, e2, ev_turn_nx, ih, List.set_set]
    congr 1
    rw [List.set_comm _ _ (fun z => hij z.symm), List.set_set, List.set_set]
end DL
/-! Breadth first is a Perm of the preorder. -/
namespace DL
open PySem PySem.Spec L2
theorem bfs_lap {N : Nat} {all xs ys : List (List Int × D)} {e : List Int × D} (he : RuleOk e.2) (hn : e.2.nodes ≤ N) (h : (xs ++ (e :: ys).flatMap (pre N)).Perm all) : ((xs ++ [e]) ++ (ys ++ kids e).flatMap (pre N)).Perm all := by
  refine List.Perm.trans ?_ h
  have : pre N e = e :: (kids e).flatMap (pre N) := by
    rw [pre_fuel N e he hn]; rfl
  rw [List.flatMap_cons, this, List.flatMap_append, List.append_assoc]
  refine List.Perm.append_left xs ?_
  show ([e] ++ (ys.flatMap (pre N) ++ (kids e).flatMap (pre N))).Perm ([e] ++ (kids e).flatMap (pre N) ++ ys.flatMap (pre N))
  rw [List.append_assoc]
  exact List.Perm.append_left [e] List.perm_append_comm
end DL
/-! One lap of _law_placed. -/
namespace DL.k01
open PySem PySem.Spec L2 DL
def placedB : DSt := (dSeq (dIfS (dTest (dBin opGe (dVar 2) (dCall (fn1 opLen) (dCons (dVar 1) dNil)))) dBreak dNext)
  (dSeq (dAsg (dBin opIxM (dVar 1) (dVar 2)) (γTL 2 (γCons (γName 6) (γCons (γName 7) γNil))))
  (dSeq (dSet 5 (dApp F__law_inner [] (dCons (dVar 7) dNil)))
  (dSet 1 (dBin opAdd (dVar 1) (dLc (dRange1 (dCall (fn1 opLen) (dCons (dVar 5) dNil))) (γName 9) dYes (dTup (dCons (dBin opAdd (dVar 6) (dTup (dCons (dVar 9) dNil))) (dCons (dBin opIxM (dVar 5) (dVar 9)) dNil))) [9]))))))
def hI (e : List Int × D) : D → D
  | .int i => .tup [.tup (e.1.map .int ++ [.int i]), ((inner e.2)[i.toNat]?).getD .non]
  | d => d
theorem hI_map (e : List Int × D) : (rngD 0 1 (inner e.2).length).map (hI e) = (kids e).map eD := by
  rw [rngD_range', List.map_map]
  apply List.ext_getElem
  · simp [kids]
  · intro i h1 h2
    simp at h1
    simp [kids, hI, eD, plD, h1]
end DL.k01
/-! One lap of _law_placed. -/
namespace DL.k01
open PySem PySem.Spec L2 DL
theorem placed_lap {m : Mem} {r : Nat} {e : List Int × D} {xs ys : List (List Int × D)} {x0 x3 x4 x5 x6 x7 x8 x9 : Option D} (he : RuleOk e.2) (hn : e.2.nodes ≤ 80000) (hp : e.1.length < 80000) (hz : (xs ++ e :: ys).length < 10000) (hm : m[r]? = some (.lst ((xs ++ e :: ys).map eD))) :
    ∃ z5 r' m', placedB [x0, some (.ref r), some (.int xs.length), x3, x4, x5, x6, x7, x8, x9] m = .nx [x0, some (.ref r'), some (.int xs.length), x3, x4, z5, some (plD e.1), some e.2, x8, x9] m' ∧ m'[r']? = some (.lst ((xs ++ e :: ys ++ kids e).map eD)) ∧ Frm [] m m' := by
  have hs := inner_small he
  have a0 : (((xs ++ e :: ys).map eD))[xs.length]? = some (eD e) := by simp
  have t1 : dIfS (dTest (dBin opGe (dVar 2) (dCall (fn1 opLen) (dCons (dVar 1) dNil)))) dBreak dNext [x0, some (.ref r), some (.int xs.length), x3, x4, x5, x6, x7, x8, x9] m = .nx [x0, some (.ref r), some (.int xs.length), x3, x4, x5, x6, x7, x8, x9] m := by
    have : ¬ ((xs.length : Int) + ((ys.length : Int) + 1) ≤ xs.length) := by omega
    simp [hm, this]
  have t2 : dAsg (dBin opIxM (dVar 1) (dVar 2)) (γTL 2 (γCons (γName 6) (γCons (γName 7) γNil))) [x0, some (.ref r), some (.int xs.length), x3, x4, x5, x6, x7, x8, x9] m = .nx [x0, some (.ref r), some (.int xs.length), x3, x4, x5, some (plD e.1), some e.2, x8, x9] m := by
    have b : opIxM (.ref r) (.int (xs.length : Nat)) m = .ok (eD e) m := by rw [ev_ix_l hm, at_nat a0]
    simp [b, eD]
  let m1 := m ++ [MO.lst (inner e.2)]
  have t3 : dSet 5 (dApp F__law_inner [] (dCons (dVar 7) dNil)) [x0, some (.ref r), some (.int xs.length), x3, x4, x5, some (plD e.1), some e.2, x8, x9] m = .nx [x0, some (.ref r), some (.int xs.length), x3, x4, some (.ref m.length), some (plD e.1), some e.2, x8, x9] m1 := by
    have := linner_ok he m
    generalize F__law_inner = F at this ⊢
    simp [this, m1]
  have g1 : m1[m.length]? = some (.lst (inner e.2)) := get_new
  have g2 : m1[r]? = some (.lst ((xs ++ e :: ys).map eD)) := get_old hm
  have t4 : (dLc (dRange1 (dCall (fn1 opLen) (dCons (dVar 5) dNil))) (γName 9) dYes (dTup (dCons (dBin opAdd (dVar 6) (dTup (dCons (dVar 9) dNil))) (dCons (dBin opIxM (dVar 5) (dVar 9)) dNil))) [9]) [x0, some (.ref r), some (.int xs.length), x3, x4, some (.ref m.length), some (plD e.1), some e.2, x8, x9] m1 = .ok (.ref m1.length) (m1 ++ [.lst ((kids e).map eD)]) := by
    have hφ : dRange1 (dCall (fn1 opLen) (dCons (dVar 5) dNil)) [x0, some (.ref r), some (.int xs.length), x3, x4, some (.ref m.length), some (plD e.1), some e.2, x8, x9] m1 = .ok ⟨rngD 0 1 (inner e.2).length, none⟩ m1 := by
      have b : (dCall (fn1 opLen) (dCons (dVar 5) dNil)) [x0, some (.ref r), some (.int xs.length), x3, x4, some (.ref m.length), some (plD e.1), some e.2, x8, x9] m1 = .ok (.int (inner e.2).length) m1 := by simp [g1]
      rw [ev_range1, b, ev_bind]
      show (if smallI ((inner e.2).length : Int) = true then (R.ok (⟨rngD 0 1 ((inner e.2).length : Int).toNat, none⟩ : Src) m1) else .stk) = _
      rw [if_pos (small_len (by omega)), Int.toNat_natCast]
    have := dlc_map (vs := [9]) (γ := γName 9) (f := (dTup (dCons (dBin opAdd (dVar 6) (dTup (dCons (dVar 9) dNil))) (dCons (dBin opIxM (dVar 5) (dVar 9)) dNil)))) (hI e) hφ (Or.inl rfl) (fun d' hd' a => by
      rw [rngD_range'] at hd'
      obtain ⟨q, hq, rfl⟩ := List.mem_map.mp hd'
      have hq' : q < (inner e.2).length := by have := List.mem_range'.mp hq; omega
      refine ⟨[x0, some (.ref r), some (.int xs.length), x3, x4, some (.ref m.length), some (plD e.1), some e.2, x8, some (.int (q : Nat))], rfl, ?_⟩
      have z6 : (e.1.map D.int).length + [D.int (q : Nat)].length ≤ sizeLine := sz_le (by simp; omega)
      have z7 : opAdd (plD e.1) (.tup [.int (q : Nat)]) (m1 ++ [.lst a]) = .ok (.tup (e.1.map D.int ++ [.int (q : Nat)])) (m1 ++ [.lst a]) := by
        unfold plD
        rw [ev_add_t, if_pos z6]
      have z8 : opIxM (.ref m.length) (.int (q : Nat)) (m1 ++ [.lst a]) = .ok (inner e.2)[q] (m1 ++ [.lst a]) := by
        rw [ev_ix_l (get_old g1), at_nat (List.getElem?_eq_getElem hq')]
      simp [z7, z8, hI, hq']) (by rw [rngD_len]; omega)
    rw [this, hI_map]
  have lk : (kids e).length = (inner e.2).length := by simp [kids]
  refine ⟨some (.ref m.length), m1.length + 1, m1 ++ [.lst ((kids e).map eD)] ++ [.lst ((xs ++ e :: ys ++ kids e).map eD)], ?_, ?_, (Frm.app.more).more⟩
  · have t5 : opAdd (.ref r) (.ref m1.length) (m1 ++ [MO.lst ((kids e).map eD)]) = .ok (.ref (m1.length + 1)) (m1 ++ [.lst ((kids e).map eD)] ++ [.lst ((xs ++ e :: ys ++ kids e).map eD)]) := by
      have z : ((xs ++ e :: ys).map eD).length + ((kids e).map eD).length ≤ sizeLine := sz_le (by rw [List.length_map, List.length_map]; omega)
      rw [ev_add_r, get_old g2, get_new]
      show (if ((xs ++ e :: ys).map eD).length + ((kids e).map eD).length ≤ sizeLine then R.ok (D.ref (m1 ++ [MO.lst ((kids e).map eD)]).length) (m1 ++ [MO.lst ((kids e).map eD)] ++ [MO.lst ((xs ++ e :: ys).map eD ++ (kids e).map eD)]) else .stk) = _
      rw [if_pos z, List.length_append, List.length_singleton, ← List.map_append]
    unfold placedB
    rw [ev_seq, t1, ev_thn_nx, ev_seq, t2, ev_thn_nx, ev_seq, t3, ev_thn_nx, ev_set, ev_bin, ev_var]
    show (((dLc _ _ _ _ _ _ m1).bind fun y m2 => opAdd (.ref r) y m2).goes _ _) = _
    rw [t4, ev_bind, t5, ev_goes]
    rfl
  · rw [show m1.length + 1 = (m1 ++ [MO.lst ((kids e).map eD)]).length by simp]
    exact get_new
end DL.k01
/-! The laps of _law_placed. -/
namespace DL.k01
open PySem PySem.Spec L2 DL
theorem queue_len {N : Nat} (hN : 0 < N) : ∀ (qs : List (List Int × D)), qs.length ≤ (qs.flatMap (pre N)).length
  | [] => Nat.zero_le _
  | q :: qs => by
    have := queue_len hN qs
    have h1 : 0 < (pre N q).length := by
      cases N with
      | zero => omega
      | succ n => simp [pre]
    simp only [List.flatMap_cons, List.length_append, List.length_cons]
    omega
theorem placed_loop {s : Src} (hs : s.lk = none) {N : Nat} (hN : 0 < N) (hN2 : N ≤ 70000) {all : List (List Int × D)} (hall : all.length ≤ 400) {M : Mem} {x0 x3 x4 x8 x9 : Option D} : ∀ (k n r : Nat) (xs qs : List (List Int × D)) (x2 x5 x6 x7 : Option D) (m : Mem), n + k = 400 → xs.length = n → m[r]? = some (.lst ((xs ++ qs).map eD)) → (∀ e ∈ qs, RuleOk e.2 ∧ e.1.length + e.2.nodes ≤ N) → (xs ++ qs.flatMap (pre N)).Perm all → Frm [] M m →
    ∃ (z2 z5 z6 z7 : Option D) (r' : Nat) (full : List (List Int × D)) (m' : Mem), forF s (γName 2) placedB ((List.range' n k).map fun j => .int (j : Nat)) [x0, some (.ref r), x2, x3, x4, x5, x6, x7, x8, x9] m = .nx [x0, some (.ref r'), z2, x3, x4, z5, z6, z7, x8, x9] m' ∧ m'[r']? = some (.lst (full.map eD)) ∧ full.Perm all ∧ Frm [] M m'
  | 0, n, r, xs, qs, x2, x5, x6, x7, m, hn, hx, hm, hq, hp, hf => by
    have h1 := hp.length_eq
    rw [List.length_append] at h1
    have h2 := queue_len hN qs
    have h3 : qs = [] := List.length_eq_zero_iff.mp (by omega)
    subst h3
    exact ⟨x2, x5, x6, x7, r, xs, m, by simp [forF, Src.ok, hs], by simpa using hm, by simpa using hp, hf⟩
  | k + 1, n, r, xs, [], x2, x5, x6, x7, m, hn, hx, hm, hq, hp, hf => by
    refine ⟨some (.int n), x5, x6, x7, r, xs, m, ?_, by simpa using hm, by simpa using hp, hf⟩
    rw [List.range'_succ, List.map_cons, forF_none hs, ev_γName, ev_only]
    have hm' : m[r]? = some (.lst (xs.map eD)) := by simpa using hm
    have t : dIfS (dTest (dBin opGe (dVar 2) (dCall (fn1 opLen) (dCons (dVar 1) dNil)))) dBreak dNext [x0, some (.ref r), some (.int n), x3, x4, x5, x6, x7, x8, x9] m = .bk [x0, some (.ref r), some (.int n), x3, x4, x5, x6, x7, x8, x9] m := by
      simp [hm', hx]
    show (placedB [x0, some (.ref r), some (.int n), x3, x4, x5, x6, x7, x8, x9] m).turn _ = _
    unfold placedB
    rw [ev_seq, t, ev_thn_bk, ev_turn_bk]
  | k + 1, n, r, xs, e :: qs, x2, x5, x6, x7, m, hn, hx, hm, hq, hp, hf => by
    obtain ⟨r1, r2⟩ := hq e List.mem_cons_self
    have i1 := inner_nodes r1
    have h1 := hp.length_eq
    rw [List.length_append] at h1
    have h2 := queue_len hN (e :: qs)
    obtain ⟨z5, r', m1, e1, g1, f1⟩ := placed_lap (m := m) (r := r) (e := e) (xs := xs) (ys := qs) (x0 := x0) (x3 := x3) (x4 := x4) (x5 := x5) (x6 := x6) (x7 := x7) (x8 := x8) (x9 := x9) r1 (by omega) (by omega) (by rw [List.length_append]; omega) hm
    obtain ⟨w2, w5, w6, w7, r'', full, m2, e2, g2, p2, f2⟩ := placed_loop hs hN hN2 hall (x0 := x0) (x3 := x3) (x4 := x4) (x8 := x8) (x9 := x9) k (n + 1) r' (xs ++ [e]) (qs ++ kids e) (some (.int n)) z5 (some (plD e.1)) (some e.2) m1 (by omega) (by simp [hx]) (by rw [g1]; simp) (fun x hx => by
      rcases List.mem_append.mp hx with hx | hx
      · exact hq x (List.mem_cons_of_mem _ hx)
      · obtain ⟨a1, a2⟩ := kids_ok r1 x hx
        obtain ⟨i, _, b2⟩ := kids_mem hx
        refine ⟨a1, ?_⟩
        rw [b2, List.length_append, List.length_singleton]
        omega) (bfs_lap r1 (by omega) hp) (hf.trans f1)
    refine ⟨w2, w5, w6, w7, r'', full, m2, ?_, g2, p2, f2⟩
    rw [List.range'_succ, List.map_cons, forF_none hs, ev_γName, ev_only]
    show (placedB [x0, some (.ref r), some (.int n), x3, x4, x5, x6, x7, x8, x9] m).turn _ = _
    rw [← hx, e1, ev_turn_nx, hx, e2]
end DL.k01
/-! Places under sorted. -/
namespace DL
open PySem PySem.Spec L2
theorem dlts_ints : ∀ (p q : List Int), (dlts (p.map .int) (q.map .int)).isSome = true
  | [], [] => by simp [dlts]
  | [], j :: q => by simp [dlts]
  | i :: p, [] => by simp [dlts]
  | i :: p, j :: q => by
    simp only [List.map_cons]
    unfold dlts
    split
    · exact dlts_ints p q
    · simp [dlt]
theorem cmp_pls (ps : List (List Int)) : allCmp (ps.map plD) = true := by
  unfold allCmp
  rw [List.all_eq_true]
  intro x hx
  rw [List.all_eq_true]
  intro y hy
  obtain ⟨p, _, rfl⟩ := List.mem_map.mp hx
  obtain ⟨q, _, rfl⟩ := List.mem_map.mp hy
  show (dlt (.tup (p.map .int)) (.tup (q.map .int))).isSome = true
  simp only [dlt]
  exact dlts_ints p q
theorem deps_ints : ∀ (p : List Int), D.deps (p.map .int) = 0
  | [] => rfl
  | i :: p => by simp [D.deps, D.dep, deps_ints p]
theorem deps_pls : ∀ (ps : List (List Int)), D.deps (ps.map plD) ≤ 1
  | [] => by simp [D.deps]
  | p :: ps => by
    have := deps_pls ps
    simp only [List.map_cons, D.deps, plD, D.dep, deps_ints]
    omega
theorem okSs_ints : ∀ (p : List Int), D.okSs (p.map .int) = true
  | [] => rfl
  | i :: p => by simp [D.okSs, D.okS, okSs_ints p]
theorem okSs_pls : ∀ (ps : List (List Int)), D.okSs (ps.map plD) = true
  | [] => rfl
  | p :: ps => by simp [D.okSs, plD, D.okS, okSs_ints p]; exact okSs_pls ps
end DL
/-! _law_placed, whole. -/
namespace DL.k01
open PySem PySem.Spec L2 DL
theorem it_lst {ρ : En} {m : Mem} {i r : Nat} {xs : List D} (hv : ρ[i]? = some (some (.ref r))) (hm : m[r]? = some (.lst xs)) : dIt (dVar i) ρ m = .ok ⟨xs, some (r, .lst xs)⟩ m := by
  rw [ev_it, ev_var, hv, ev_bind]
  unfold srcOf
  simp only [hm]
theorem uniq_pre {d : D} {N : Nat} {full : List (List Int × D)} (hp : full.Perm (pre N ([], d))) : ∀ e ∈ full, ∀ x, partAt d e.1 = some x → e.2 = x := fun e he x hx => by
  have h1 := pre_at (root := d) N ([], d) e rfl (hp.mem_iff.mp he)
  rw [h1] at hx
  exact Option.some.inj hx
theorem placed_ok {d : D} (h : RuleOk d) (hn : d.nodes ≤ 400) (m : Mem) : ∃ r m', F__law_placed [d] m = .ok (.ref r) m' ∧ m'[r]? = some (.lst ((pre d.nodes ([], d)).map eD)) ∧ m.length ≤ r ∧ Frm [] m m' := by
  have i1 := inner_nodes h
  have hlen := pre_len d.nodes ([], d) h
  obtain ⟨z2, z5, z6, z7, r', full, m2, e, g2, p2, f2⟩ := placed_loop (s := ⟨rngD 0 1 400, none⟩) rfl (N := d.nodes) (by omega) (by omega) (all := pre d.nodes ([], d)) (by simp only at hlen; omega) (M := m) (x0 := some d) (x3 := none) (x4 := none) (x8 := none) (x9 := none) 400 0 m.length [] [([], d)] none none none none (m ++ [.lst [eD ([], d)]]) rfl rfl (by simp) (fun x hx => by
    rw [List.mem_singleton.mp hx]
    exact ⟨h, by simp⟩) (by simp) Frm.app
  have hfl : full.length ≤ 400 := by have := p2.length_eq; simp only at hlen; omega
  unfold F__law_placed
  rw [run_eq (np := 1) rfl]
  show ∃ r m', (g__law_placed [some d, none, none, none, none, none, none, none, none, none] m).val = _ ∧ _
  unfold g__law_placed
  have t1 : dSet 1 (dLst (dCons (dTup (dCons (dTup dNil) (dCons (dVar 0) dNil))) dNil)) [some d, none, none, none, none, none, none, none, none, none] m = .nx [some d, some (.ref m.length), none, none, none, none, none, none, none, none] (m ++ [.lst [eD ([], d)]]) := by simp [eD, plD]
  have t2 : dFor (dRange1 (dC (.int 400))) (γName 2) placedB [some d, some (.ref m.length), none, none, none, none, none, none, none, none] (m ++ [.lst [eD ([], d)]]) = .nx [some d, some (.ref r'), z2, none, none, z5, z6, z7, none, none] m2 := by
    rw [for_range1 (k := 400) (m' := m ++ [.lst [eD ([], d)]]) (by rfl) (by decide)]
    have q : ∀ s ρ m0, forF s (γName 2) placedB (rngD 0 1 400) ρ m0 = forF s (γName 2) placedB ((List.range' 0 400).map fun j => .int (j : Nat)) ρ m0 := fun s ρ m0 => by rw [rngD_range']
    rw [q]
    exact e
  let m3 := m2 ++ [MO.lst (full.map fun x => plD x.1)]
  let m4 := m3 ++ [MO.lst ((pre d.nodes ([], d)).map fun x => plD x.1)]
  let m5 := m4 ++ [MO.dct []]
  let m6 := m5.set m4.length (.dct (fillD [] full))
  have srt : isort (full.map fun x => plD x.1) = (pre d.nodes ([], d)).map fun x => plD x.1 :=
    up_uniq (isort_up _) (pre_up _ _) ((isort_perm _).trans (p2.map _))
  have t3 : dSet 3 (dCall (fn1 opSorted) (dCons (dLc (dIt (dVar 1)) (γName 8) dYes (dBin opIxM (dVar 8) (dC (.int 0))) [8]) dNil)) [some d, some (.ref r'), z2, none, none, z5, z6, z7, none, none] m2 = .nx [some d, some (.ref r'), z2, some (.ref m3.length), none, z5, z6, z7, none, none] m4 := by
    have a1 := dlc_map (vs := [8]) (γ := γName 8) (f := dBin opIxM (dVar 8) (dC (.int 0))) (fun x => match x with | .tup (y :: _) => y | x => x) (it_lst (ρ := [some d, some (.ref r'), z2, none, none, z5, z6, z7, none, none]) (i := 1) rfl g2) (Or.inr ⟨_, _, rfl, g2⟩) (fun d' hd' a => by
      obtain ⟨x, hx, rfl⟩ := List.mem_map.mp hd'
      refine ⟨[some d, some (.ref r'), z2, none, none, z5, z6, z7, some (eD x), none], rfl, ?_⟩
      simp [eD]) (by simp; omega)
    have a2 : (full.map eD).map (fun x => match x with | .tup (y :: _) => y | x => x) = full.map fun x => plD x.1 := by
      rw [List.map_map]; rfl
    have a3 : opSorted (.ref m2.length) m3 = .ok (.ref m3.length) m4 := by
      have b1 : seqOf m3 (.ref m2.length) = some (full.map fun x => plD x.1) := by rw [ev_seq_r, show m3[m2.length]? = _ from get_new]
      have b2 : full.map (fun x => plD x.1) = (full.map (·.1)).map plD := by rw [List.map_map]; rfl
      unfold opSorted
      simp only [b1]
      rw [srt, b2, if_pos ⟨okSs_pls _, cmp_pls _, Nat.le_trans (deps_pls _) (by decide)⟩]
    rw [ev_set, ev_call, ev_cons, a1, ev_bind, ev_nil, ev_bind, ev_bind, ev_fn1, a2, a3, ev_goes]
    rfl
  have t4 : dSet 4 dNewD [some d, some (.ref r'), z2, some (.ref m3.length), none, z5, z6, z7, none, none] m4 = .nx [some d, some (.ref r'), z2, some (.ref m3.length), some (.ref m4.length), z5, z6, z7, none, none] m5 := by
    rw [ev_set, ev_newD, ev_goes]; rfl
  have g5 : m5[r']? = some (.lst (full.map eD)) := get_old (get_old (get_old g2))
  have l2 := lt_of_get g2
  have l4 : r' < m4.length := by simp [m4, m3]; omega
  obtain ⟨y, z, e5⟩ := fill_loop (s := ⟨full.map eD, some (r', .lst (full.map eD))⟩) (l := m4.length) (i := 6) (j := 7) (f := 4) (by decide) (by decide) (by decide) full [] [some d, some (.ref r'), z2, some (.ref m3.length), some (.ref m4.length), z5, z6, z7, none, none] m5 get_new rfl (by simp; omega) (by simp) (by simp) rfl (fun o => by
    have : (m5.set m4.length (.dct o))[r']? = some (.lst (full.map eD)) := get_set_ne g5 (by omega)
    simp [Src.ok, this])
  have t5 : dFor (dIt (dVar 1)) (γTL 2 (γCons (γName 6) (γCons (γName 7) γNil))) (dSub (dVar 7) (dVar 4) (dVar 6) opSetM) [some d, some (.ref r'), z2, some (.ref m3.length), some (.ref m4.length), z5, z6, z7, none, none] m5 = .nx [some d, some (.ref r'), z2, some (.ref m3.length), some (.ref m4.length), z5, y, z, none, none] m6 := by
    rw [ev_for, it_lst (i := 1) rfl g5, ev_goes]
    exact e5
  have g6 : m6[m4.length]? = some (.dct (fillD [] full)) := get_set get_new
  have g7 : m6[m3.length]? = some (.lst ((pre d.nodes ([], d)).map fun x => plD x.1)) := get_set_ne (get_old get_new) (by simp [m4])
  have look : ∀ x ∈ pre d.nodes ([], d), lookD (fillD [] full) (plD x.1) = some x.2 := fun x hx => by
    have h1 := pre_at (root := d) d.nodes ([], d) x rfl hx
    exact fill_look full [] x.1 x.2 (fun e' he' h' => uniq_pre p2 e' he' x.2 (by rw [h']; exact h1)) (.inl ⟨x, p2.mem_iff.mpr hx, rfl⟩)
  have t6 : (dLc (dIt (dVar 3)) (γName 6) dYes (dTup (dCons (dVar 6) (dCons (dBin opIxM (dVar 4) (dVar 6)) dNil))) [6]) [some d, some (.ref r'), z2, some (.ref m3.length), some (.ref m4.length), z5, y, z, none, none] m6 = .ok (.ref m6.length) (m6 ++ [.lst ((pre d.nodes ([], d)).map eD)]) := by
    have a1 := dlc_map (vs := [6]) (γ := γName 6) (f := (dTup (dCons (dVar 6) (dCons (dBin opIxM (dVar 4) (dVar 6)) dNil)))) (fun x => .tup [x, (lookD (fillD [] full) x).getD .non]) (it_lst (ρ := [some d, some (.ref r'), z2, some (.ref m3.length), some (.ref m4.length), z5, y, z, none, none]) (i := 3) rfl g7) (Or.inr ⟨_, _, rfl, g7⟩) (fun d' hd' a => by
      obtain ⟨x, hx, rfl⟩ := List.mem_map.mp hd'
      refine ⟨[some d, some (.ref r'), z2, some (.ref m3.length), some (.ref m4.length), z5, some (plD x.1), z, none, none], rfl, ?_⟩
      have b : opIxM (.ref m4.length) (plD x.1) (m6 ++ [.lst a]) = .ok x.2 (m6 ++ [.lst a]) := by
        unfold opIxM
        simp only [get_old g6, look x hx]
      simp [b, look x hx]) (by simp only [List.length_map]; simp only at hlen; omega)
    rw [a1]
    congr 3
    rw [List.map_map]
    congr 1
    apply List.map_congr_left
    intro x hx
    simp [look x hx, eD]
  refine ⟨m6.length, m6 ++ [.lst ((pre d.nodes ([], d)).map eD)], ?_, get_new, ?_, ?_⟩
  · rw [ev_seq, t1, ev_thn_nx, ev_seq]
    change (((dFor (dRange1 (dC (.int 400))) (γName 2) placedB [some d, some (.ref m.length), none, none, none, none, none, none, none, none] (m ++ [.lst [eD ([], d)]])).thn _).val) = _
    rw [t2, ev_thn_nx, ev_seq, t3, ev_thn_nx, ev_seq, t4, ev_thn_nx, ev_seq, t5, ev_thn_nx, ev_ret, t6, ev_goes, ev_val_rt]
  · have := f2.le
    simp [m6, m5, m4, m3]; omega
  · exact (((f2.more.more).more).set (Or.inr (by have := f2.le; simp [m4, m3]; omega))).more
end DL.k01
/-! General: a draw from a list that is written there; a slice of a list. -/
namespace DL
open PySem PySem.Spec L2
theorem pick_ok {F : List D → Mem → R D} (hF : Next F) {m : Mem} {l p : Nat} (hd : Drw m l p) {L : List D} {fs : DFs} {ρ : En} {n : Int} (hfs : fs ρ m = .ok L m) (hL : L.length = n) (hn : 0 < n) (hz : L.length ≤ 1000) (hv : ρ[0]? = some (some (.ref l))) :
    ∃ j x m', dBin opIxM (dLst fs) (dApp F [] (dCons (dVar 0) (dCons (dC (.int n)) dNil))) ρ m = .ok x m' ∧ 0 ≤ j ∧ j < n ∧ atI L j = some x ∧ x ∈ L ∧ Drw m' l p ∧ Frm [l] m m' := by
  have hd1 : Drw (m ++ [.lst L]) l p := hd.frm (ls := []) Frm.app (by simp) (by simp)
  obtain ⟨j, m1, e1, a1, b1, f1, d1, _⟩ := hF.ok hd1 hn
  have hl : l < m.length := by obtain ⟨_, _, _, h, _⟩ := hd; exact lt_of_get h
  have g1 : m1[m.length]? = some (.lst L) := f1.get get_new (by simp; omega)
  have hj : j.toNat < L.length := by omega
  have h4 : atI L j = some L[j.toNat] := at_int a1 (List.getElem?_eq_getElem hj)
  refine ⟨j, L[j.toNat], m1, ?_, a1, b1, h4, List.getElem_mem _, d1, Frm.app.trans f1⟩
  rw [ev_bin, ev_lst, hfs, ev_bind, if_pos (sz_le (by omega)), ev_bind, ev_app, ev_cons, ev_var, hv]
  show (R.bind (F [.ref l, .int n] (m ++ [.lst L])) fun y m2 => opIxM (.ref m.length) y m2) = _
  rw [e1, ev_bind, ev_ix_l g1, h4]
theorem cut_mid {xs : List D} {a e : Nat} (h1 : a ≤ e) (h2 : e ≤ xs.length) : cutD xs (some (a : Int)) (some (e : Int)) = (xs.drop a).take (e - a) := by
  unfold cutD HT.sIx
  have : ¬ ((a : Int) < 0) := by omega
  have : ¬ ((e : Int) < 0) := by omega
  simp [*]
  rw [Nat.min_eq_left (by omega)]
theorem sl_l {m : Mem} {r : Nat} {xs : List D} {lo hi : Option Int} (h : m[r]? = some (.lst xs)) : opSl (.ref r) lo hi m = .ok (.ref m.length) (m ++ [.lst (cutD xs lo hi)]) := by
  unfold opSl
  simp only [ev_seq_r, h]
theorem max_l {m : Mem} {r : Nat} {i : Int} {is : List Int} (h : m[r]? = some (.lst ((i :: is).map .int))) : ∃ j, opMax (.ref r) m = .ok (.int j) m := by
  have hi : ∀ is : List Int, intsOf (is.map D.int) = some is := fun is => by
    induction is with
    | nil => rfl
    | cons i is ih => simp [intsOf, ih]
  refine ⟨is.foldl max i, ?_⟩
  unfold opMax opBest
  simp only [ev_seq_r, h, hi, bestI]
end DL
/-! One lap of _law_drawn. -/
namespace DL.k01
open PySem PySem.Spec L2 DL
def eR (e : D × Int) : D := .tup [e.1, .int e.2]
def pot : List (D × Int) → Nat
  | [] => 0
  | e :: es => e.1.nodes + 3 + pot es
theorem pot_app (a b : List (D × Int)) : pot (a ++ b) = pot a + pot b := by
  induction a with
  | nil => simp [pot]
  | cons e es ih => simp [pot, ih]; omega
theorem pot_nodes (a : List (D × Int)) : D.nodesAll (a.map (·.1)) + 3 * a.length = pot a := by
  induction a with
  | nil => simp [pot, D.nodesAll]
  | cons e es ih => simp [pot, D.nodesAll]; omega
def drawnB (F : List D → Mem → R D) : DSt := (dSeq (dIfS (dTest (dBin opLt (dCall (fn1 opLen) (dCons (dVar 3) dNil)) (dC (.int 2)))) dBreak dNext)
  (dSeq (dSet 5 (dBin opIxM (dLst (dCons (dC (.str "or")) (dCons (dC (.str "and")) (dCons (dC (.str "but")) dNil)))) (dApp F [] (dCons (dVar 0) (dCons (dC (.int 3)) dNil)))))
  (dSeq (dSet 6 (dApp F [] (dCons (dVar 0) (dCons (dBin opSub (dCall (fn1 opLen) (dCons (dVar 3) dNil)) (dC (.int 1))) dNil))))
  (dSeq (dSet 7 (dBin opAdd (dVar 6) (dC (.int 2))))
  (dSeq (dIfS (dTest (dBin opNe (dVar 5) (dC (.str "but")))) (dSet 7 (dBin opAdd (dVar 7) (dApp F [] (dCons (dVar 0) (dCons (dBin opSub (dBin opSub (dCall (fn1 opLen) (dCons (dVar 3) dNil)) (dVar 6)) (dC (.int 1))) dNil))))) dNext)
  (dSeq (dSet 8 (dBin opAdd (dC (.int 1)) (dCall (fn1 opMax) (dCons (dLc (dIt (dSl opSl (dVar 3) (dPt (dVar 6)) (dPt (dVar 7)))) (γName 11) dYes (dBin opIxM (dVar 11) (dC (.int 1))) [11]) dNil))))
  (dSeq (dIfS (dAnd (dTest (dBin opGt (dVar 8) (dC (.int 4)))) (dTest (dBin opLt (dBin opSub (dVar 7) (dVar 6)) (dCall (fn1 opLen) (dCons (dVar 3) dNil))))) (dSeq (dPar3 5 6 7 (dCons (dC (.str "or")) (dCons (dC (.int 0)) (dCons (dCall (fn1 opLen) (dCons (dVar 3) dNil)) dNil))))
  (dSet 8 (dC (.int 5)))) dNext)
  (dSeq (dSet 9 (dCall (fn1 opTuple) (dCons (dLc (dIt (dSl opSl (dVar 3) (dPt (dVar 6)) (dPt (dVar 7)))) (γName 11) dYes (dBin opIxM (dVar 11) (dC (.int 0))) [11]) dNil)))
  (dSeq (dSet 10 (dTup (dCons (dVar 5) (dCons (dVar 9) dNil))))
  (dSeq (dIfS (dTest (dBin opEq (dVar 5) (dC (.str "but")))) (dSet 10 (dTup (dCons (dC (.str "but")) (dCons (dBin opIxM (dVar 9) (dC (.int 0))) (dCons (dBin opIxM (dVar 9) (dC (.int 1))) dNil))))) dNext)
  (dSet 3 (dBin opAdd (dBin opAdd (dSl opSl (dVar 3) dNoPt (dPt (dVar 6))) (dLst (dCons (dTup (dCons (dVar 10) (dCons (dVar 8) dNil))) dNil))) (dSl opSl (dVar 3) (dPt (dVar 7)) dNoPt)))))))))))))
/-- [pair[i] for pair in rules[a:e]] -/
theorem slice_lc {m : Mem} {r i : Nat} {rs : List (D × Int)} {a e : Nat} (hm : m[r]? = some (.lst (rs.map eR))) (h1 : a ≤ e) (h2 : e ≤ rs.length) (hz : rs.length ≤ 1000) {h : D × Int → D} {f : DF}
    (hf : ∀ (ρ : En) (x : D × Int) (M : Mem), ρ[11]? = some (some (eR x)) → f ρ M = .ok (h x) M) {ρ : En} (hρ : ρ.length = 12) (h3 : ρ[3]? = some (some (.ref r))) (h6 : ρ[6]? = some (some (.int a))) (h7 : ρ[7]? = some (some (.int e))) :
    ∃ M, dLc (dIt (dSl opSl (dVar 3) (dPt (dVar 6)) (dPt (dVar 7)))) (γName 11) dYes f [11] ρ m = .ok (.ref M.length) (M ++ [.lst (((rs.drop a).take (e - a)).map h)]) ∧ Frm [] m M := by
  refine ⟨m ++ [.lst (((rs.drop a).take (e - a)).map eR)], ?_, Frm.app⟩
  have hφ : dIt (dSl opSl (dVar 3) (dPt (dVar 6)) (dPt (dVar 7))) ρ m = .ok ⟨((rs.drop a).take (e - a)).map eR, some (m.length, .lst (((rs.drop a).take (e - a)).map eR))⟩ (m ++ [.lst (((rs.drop a).take (e - a)).map eR)]) := by
    have b : dSl opSl (dVar 3) (dPt (dVar 6)) (dPt (dVar 7)) ρ m = .ok (.ref m.length) (m ++ [.lst (((rs.drop a).take (e - a)).map eR)]) := by
      rw [ev_sl, ev_var, h3, ev_bind, ev_pt, ev_var, h6, ev_bind]
      show ((dPt (dVar 7) ρ m).bind fun hi m3 => opSl (.ref r) (some (a : Int)) hi m3) = _
      rw [ev_pt, ev_var, h7, ev_bind]
      show opSl (.ref r) (some (a : Int)) (some (e : Int)) m = _
      rw [sl_l hm, cut_mid h1 (by simpa using h2), ← List.map_drop, ← List.map_take]
    rw [ev_it, b, ev_bind]
    unfold srcOf
    simp only [get_new]
  have := dlc_map (vs := [11]) (γ := γName 11) (f := f) (fun d => match d with | .tup [x, .int i] => h (x, i) | d => d) hφ (Or.inr ⟨_, _, rfl, get_new⟩) (fun d' hd' a' => by
    obtain ⟨x, hx, rfl⟩ := List.mem_map.mp hd'
    refine ⟨(wipeD ρ [11]).set 11 (some (eR x)), rfl, ?_⟩
    rw [hf _ x _ (by
      have : (wipeD ρ [11]).length = 12 := by simp [wipeD, hρ]
      rw [List.getElem?_set_self (by omega)])]
    rfl) (by simp; omega)
  rw [this]
  congr 3
  rw [List.map_map]
  congr 1
end DL.k01
/-! One lap of _law_drawn, whole. -/
namespace DL.k01
open PySem PySem.Spec L2 DL
theorem mid_split {α : Type} (rs : List α) {a e : Nat} (h1 : a ≤ e) (h2 : e ≤ rs.length) : rs = rs.take a ++ ((rs.drop a).take (e - a) ++ rs.drop e) := by
  have h3 : rs.drop e = (rs.drop a).drop (e - a) := by rw [List.drop_drop]; congr 1; omega
  rw [h3, List.take_append_drop, List.take_append_drop]
theorem opT_l {m : Mem} {r : Nat} {xs : List D} (h : m[r]? = some (.lst xs)) : opTuple (.ref r) m = .ok (.tup xs) m := by
  rw [ev_tuple_r, ev_seq_r, h]
theorem ln_l {m : Mem} {r : Nat} {xs : List D} (h : m[r]? = some (.lst xs)) : opLen (.ref r) m = .ok (.int xs.length) m := by
  rw [ev_len_r, ev_seq_r, h]
theorem max_ne {m : Mem} {r : Nat} {is : List Int} (h : m[r]? = some (.lst (is.map .int))) (hz : 0 < is.length) : ∃ j, opMax (.ref r) m = .ok (.int j) m := by
  cases is with
  | nil => simp at hz
  | cons i is => exact max_l h
theorem drawn_lap {F : List D → Mem → R D} (hF : Next F) {m : Mem} {l p nm r : Nat} {rs : List (D × Int)} {x1 x4 x5 x6 x7 x8 x9 x10 x11 : Option D} (hd : Drw m l p) (hm : m[r]? = some (.lst (rs.map eR))) (hlr : r ≠ l) (h2 : 2 ≤ rs.length) (hz : rs.length ≤ 1000) (ok : ∀ e ∈ rs, RuleOk e.1) :
    ∃ y5 y6 y7 y8 y9 y10 r' rs' m', drawnB F [some (.ref l), x1, some (.ref nm), some (.ref r), x4, x5, x6, x7, x8, x9, x10, x11] m = .nx [some (.ref l), x1, some (.ref nm), some (.ref r'), x4, y5, y6, y7, y8, y9, y10, x11] m' ∧ m'[r']? = some (.lst (rs'.map eR)) ∧ r' ≠ l ∧ 0 < rs'.length ∧ rs'.length ≤ rs.length ∧ pot rs' ≤ pot rs ∧ (∀ e ∈ rs', RuleOk e.1) ∧ Drw m' l p ∧ Frm [l] m m' := by
  have hll : l < m.length := by obtain ⟨_, _, _, h, _⟩ := hd; exact lt_of_get h
  have nl : ∀ {m0 m1 : Mem}, Frm [l] m0 m1 → m0[r]? = some (.lst (rs.map eR)) → m1[r]? = some (.lst (rs.map eR)) := fun f g => f.get g (by simpa using hlr)
  -- the way
  obtain ⟨jw, w0, m1, e1, _, _, hw0, hw1, d1, f1⟩ := pick_ok hF hd (L := [.str "or", .str "and", .str "but"]) (fs := (dCons (dC (.str "or")) (dCons (dC (.str "and")) (dCons (dC (.str "but")) dNil)))) (ρ := [some (.ref l), x1, some (.ref nm), some (.ref r), x4, x5, x6, x7, x8, x9, x10, x11]) (n := 3) (by simp) rfl (by decide) (by decide) rfl
  obtain ⟨w, rfl, hw⟩ : ∃ w : Str, w0 = .str w ∧ (w = "or" ∨ w = "and" ∨ w = "but") := by
    simp only [List.mem_cons, List.not_mem_nil, or_false] at hw1
    rcases hw1 with rfl | rfl | rfl
    · exact ⟨_, rfl, .inl rfl⟩
    · exact ⟨_, rfl, .inr (.inl rfl)⟩
    · exact ⟨_, rfl, .inr (.inr rfl)⟩
  clear hw0 hw1
  have wok : PyData.strOk w = true := by rcases hw with rfl | rfl | rfl <;> first | exact ok_or | exact ok_and | exact ok_but
  have g1 := nl f1 hm
  -- at
  obtain ⟨a0, m2, e2, a2, b2, f2, d2, _⟩ := hF.ok d1 (many := (rs.length : Int) - 1) (by omega)
  obtain ⟨a, rfl⟩ : ∃ a : Nat, a0 = a := ⟨a0.toNat, (Int.toNat_of_nonneg a2).symm⟩
  have g2 := nl f2 g1
  -- end
  have h3 : ∃ (e : Nat) (m3 : Mem), dIfS (dTest (dBin opNe (dVar 5) (dC (.str "but")))) (dSet 7 (dBin opAdd (dVar 7) (dApp F [] (dCons (dVar 0) (dCons (dBin opSub (dBin opSub (dCall (fn1 opLen) (dCons (dVar 3) dNil)) (dVar 6)) (dC (.int 1))) dNil))))) dNext [some (.ref l), x1, some (.ref nm), some (.ref r), x4, some (.str w), some (.int a), some (.int ((a : Int) + 2)), x8, x9, x10, x11] m2 = .nx [some (.ref l), x1, some (.ref nm), some (.ref r), x4, some (.str w), some (.int a), some (.int (e : Nat)), x8, x9, x10, x11] m3 ∧ a + 2 ≤ e ∧ e ≤ rs.length ∧ (w = "but" → e = a + 2) ∧ Drw m3 l p ∧ Frm [l] m2 m3 := by
    by_cases hb : w = "but"
    · subst hb
      refine ⟨a + 2, m2, ?_, by omega, by omega, fun _ => rfl, d2, Frm.refl⟩
      have : dTest (dBin opNe (dVar 5) (dC (.str "but"))) [some (.ref l), x1, some (.ref nm), some (.ref r), x4, some (.str "but"), some (.int a), some (.int ((a : Int) + 2)), x8, x9, x10, x11] m2 = .ok false m2 := by simp [wd_ne ok_but ok_but]
      rw [ev_ifS, this, ev_goes, if_neg (by decide)]
      simp
    · obtain ⟨j, m3, e3, a3, b3, f3, d3, _⟩ := hF.ok d2 (many := (rs.length : Int) - a - 1) (by omega)
      obtain ⟨jn, rfl⟩ : ∃ jn : Nat, j = jn := ⟨j.toNat, (Int.toNat_of_nonneg a3).symm⟩
      refine ⟨a + 2 + jn, m3, ?_, by omega, by omega, fun h => absurd h hb, d3, f3⟩
      have : dTest (dBin opNe (dVar 5) (dC (.str "but"))) [some (.ref l), x1, some (.ref nm), some (.ref r), x4, some (.str w), some (.int a), some (.int ((a : Int) + 2)), x8, x9, x10, x11] m2 = .ok true m2 := by simp [wd_ne wok ok_but, hb]
      rw [ev_ifS, this, ev_goes, if_pos rfl]
      have q := ln_l g2
      rw [List.length_map] at q
      simp [q, e3, -ev_len_r]
  obtain ⟨e, m3, t3, he1, he2, he3, d3, f3⟩ := h3
  have g3 := nl f3 g2
  -- deep
  obtain ⟨M1, e4, f4⟩ := slice_lc (i := 1) (a := a) (e := e) g3 (by omega) he2 hz (h := fun x => .int x.2) (f := dBin opIxM (dVar 11) (dC (.int 1))) (fun ρ x M h => by simp [h, eR]) (ρ := [some (.ref l), x1, some (.ref nm), some (.ref r), x4, some (.str w), some (.int a), some (.int e), x8, x9, x10, x11]) rfl rfl rfl rfl
  have e5 : ∃ dp, opMax (.ref M1.length) (M1 ++ [.lst (((rs.drop a).take (e - a)).map fun x => .int x.2)]) = .ok (.int dp) (M1 ++ [.lst (((rs.drop a).take (e - a)).map fun x => .int x.2)]) := by
    have : ((rs.drop a).take (e - a)).map (fun x => D.int x.2) = (((rs.drop a).take (e - a)).map (·.2)).map D.int := by rw [List.map_map]; rfl
    rw [this]
    exact max_ne get_new (by simp; omega)
  obtain ⟨dp, e5⟩ := e5
  let m4 := M1 ++ [MO.lst (((rs.drop a).take (e - a)).map fun x => D.int x.2)]
  have f34 : Frm [] m3 m4 := f4.more
  have d4 : Drw m4 l p := d3.frm f34 (by simp) (by simp)
  have g4 : m4[r]? = some (.lst (rs.map eR)) := f34.get g3 (by simp)
  have t4 : dSet 8 (dBin opAdd (dC (.int 1)) (dCall (fn1 opMax) (dCons (dLc (dIt (dSl opSl (dVar 3) (dPt (dVar 6)) (dPt (dVar 7)))) (γName 11) dYes (dBin opIxM (dVar 11) (dC (.int 1))) [11]) dNil))) [some (.ref l), x1, some (.ref nm), some (.ref r), x4, some (.str w), some (.int a), some (.int e), x8, x9, x10, x11] m3 = .nx [some (.ref l), x1, some (.ref nm), some (.ref r), x4, some (.str w), some (.int a), some (.int e), some (.int (1 + dp)), x9, x10, x11] m4 := by
    rw [ev_set, ev_bin, ev_C, ev_bind, ev_call, ev_cons, e4, ev_bind, ev_nil, ev_bind, ev_bind, ev_fn1, e5, ev_bind, ev_add_i, ev_goes]
    rfl
  -- all in one
  have h5 : ∃ (w' : Str) (a' e' : Nat) (dp' : Int), dIfS (dAnd (dTest (dBin opGt (dVar 8) (dC (.int 4)))) (dTest (dBin opLt (dBin opSub (dVar 7) (dVar 6)) (dCall (fn1 opLen) (dCons (dVar 3) dNil))))) (dSeq (dPar3 5 6 7 (dCons (dC (.str "or")) (dCons (dC (.int 0)) (dCons (dCall (fn1 opLen) (dCons (dVar 3) dNil)) dNil))))
  (dSet 8 (dC (.int 5)))) dNext [some (.ref l), x1, some (.ref nm), some (.ref r), x4, some (.str w), some (.int a), some (.int e), some (.int (1 + dp)), x9, x10, x11] m4 = .nx [some (.ref l), x1, some (.ref nm), some (.ref r), x4, some (.str w'), some (.int a'), some (.int e'), some (.int dp'), x9, x10, x11] m4 ∧ a' + 2 ≤ e' ∧ e' ≤ rs.length ∧ (w' = "but" → e' = a' + 2) ∧ (w' = "or" ∨ w' = "and" ∨ w' = "but") := by
    have q := ln_l g4
    rw [List.length_map] at q
    by_cases hb : 4 < 1 + dp ∧ (e : Int) - a < rs.length
    · exact ⟨"or", 0, rs.length, 5, by simp [q, hb.1, hb.2, -ev_len_r], by omega, Nat.le_refl _, fun h => absurd h (by decide), .inl rfl⟩
    · refine ⟨w, a, e, 1 + dp, ?_, he1, he2, he3, hw⟩
      by_cases hb1 : 4 < 1 + dp
      · have hb2 : ¬ (e : Int) - a < rs.length := fun h => hb ⟨hb1, h⟩
        simp [q, hb1, hb2, -ev_len_r]
      · simp [hb1]
  obtain ⟨w', a', e', dp', t5, he1', he2', he3', hw'⟩ := h5
  have wok' : PyData.strOk w' = true := by rcases hw' with rfl | rfl | rfl <;> first | exact ok_or | exact ok_and | exact ok_but
  -- some
  let S := (rs.drop a').take (e' - a')
  have hS : S.length = e' - a' := by simp [S]; omega
  obtain ⟨M2, e6, f6⟩ := slice_lc (i := 0) (a := a') (e := e') g4 (by omega) he2' hz (h := fun x => x.1) (f := dBin opIxM (dVar 11) (dC (.int 0))) (fun ρ x M h => by simp [h, eR]) (ρ := [some (.ref l), x1, some (.ref nm), some (.ref r), x4, some (.str w'), some (.int a'), some (.int e'), some (.int dp'), x9, x10, x11]) rfl rfl rfl rfl
  let m5 := M2 ++ [MO.lst (S.map fun x => x.1)]
  have f45 : Frm [] m4 m5 := f6.more
  have d5 : Drw m5 l p := d4.frm f45 (by simp) (by simp)
  have g5 : m5[r]? = some (.lst (rs.map eR)) := f45.get g4 (by simp)
  have t6 : dSet 9 (dCall (fn1 opTuple) (dCons (dLc (dIt (dSl opSl (dVar 3) (dPt (dVar 6)) (dPt (dVar 7)))) (γName 11) dYes (dBin opIxM (dVar 11) (dC (.int 0))) [11]) dNil)) [some (.ref l), x1, some (.ref nm), some (.ref r), x4, some (.str w'), some (.int a'), some (.int e'), some (.int dp'), x9, x10, x11] m4 = .nx [some (.ref l), x1, some (.ref nm), some (.ref r), x4, some (.str w'), some (.int a'), some (.int e'), some (.int dp'), some (.tup (S.map (·.1))), x10, x11] m5 := by
    rw [ev_set, ev_call, ev_cons, e6, ev_bind, ev_nil, ev_bind, ev_bind, ev_fn1, opT_l get_new, ev_goes]
    rfl
  -- made
  have oS : ∀ x ∈ S, RuleOk x.1 := fun x hx => ok x (List.mem_of_mem_drop (List.mem_of_mem_take hx))
  have h7 : ∃ mk : D, (dSeq (dSet 10 (dTup (dCons (dVar 5) (dCons (dVar 9) dNil))))
  (dIfS (dTest (dBin opEq (dVar 5) (dC (.str "but")))) (dSet 10 (dTup (dCons (dC (.str "but")) (dCons (dBin opIxM (dVar 9) (dC (.int 0))) (dCons (dBin opIxM (dVar 9) (dC (.int 1))) dNil))))) dNext)) [some (.ref l), x1, some (.ref nm), some (.ref r), x4, some (.str w'), some (.int a'), some (.int e'), some (.int dp'), some (.tup (S.map (·.1))), x10, x11] m5 = .nx [some (.ref l), x1, some (.ref nm), some (.ref r), x4, some (.str w'), some (.int a'), some (.int e'), some (.int dp'), some (.tup (S.map (·.1))), some mk, x11] m5 ∧ RuleOk mk ∧ mk.nodes ≤ D.nodesAll (S.map (·.1)) + 3 := by
    by_cases hb : w' = "but"
    · subst hb
      have : S.length = 2 := by rw [hS, he3' rfl]; omega
      match hSS : S, this with
      | [x, y], _ =>
        refine ⟨.tup [.str "but", x.1, y.1], ?_, .but (oS x (by rw [hSS]; simp)) (oS y (by rw [hSS]; simp)), by simp [D.nodes, D.nodesAll]; omega⟩
        simp [wd_eq ok_but ok_but]
    · refine ⟨.tup [.str w', .tup (S.map (·.1))], ?_, .nary (by rcases hw' with h | h | h <;> first | exact .inl h | exact .inr h | exact absurd h hb) (RulesOk.of fun x hx => by
        obtain ⟨y, hy, rfl⟩ := List.mem_map.mp hx
        exact oS y hy), by simp [D.nodes, D.nodesAll]; omega⟩
      simp [wd_eq wok' ok_but, hb]
  obtain ⟨mk, t7, okm, nmk⟩ := h7
  -- rules
  let rs' := rs.take a' ++ ((mk, dp') :: rs.drop e')
  have t8 : ∃ r' m6, dSet 3 (dBin opAdd (dBin opAdd (dSl opSl (dVar 3) dNoPt (dPt (dVar 6))) (dLst (dCons (dTup (dCons (dVar 10) (dCons (dVar 8) dNil))) dNil))) (dSl opSl (dVar 3) (dPt (dVar 7)) dNoPt)) [some (.ref l), x1, some (.ref nm), some (.ref r), x4, some (.str w'), some (.int a'), some (.int e'), some (.int dp'), some (.tup (S.map (·.1))), some mk, x11] m5 = .nx [some (.ref l), x1, some (.ref nm), some (.ref r'), x4, some (.str w'), some (.int a'), some (.int e'), some (.int dp'), some (.tup (S.map (·.1))), some mk, x11] m6 ∧ m6[r']? = some (.lst (rs'.map eR)) ∧ r' ≠ l ∧ Frm [] m5 m6 := by
    let n1 := m5 ++ [MO.lst ((rs.take a').map eR)]
    let n2 := n1 ++ [MO.lst [eR (mk, dp')]]
    let n3 := n2 ++ [MO.lst ((rs.take a' ++ [(mk, dp')]).map eR)]
    let n4 := n3 ++ [MO.lst ((rs.drop e').map eR)]
    let n5 := n4 ++ [MO.lst (rs'.map eR)]
    have b1 : (dSl opSl (dVar 3) dNoPt (dPt (dVar 6))) [some (.ref l), x1, some (.ref nm), some (.ref r), x4, some (.str w'), some (.int a'), some (.int e'), some (.int dp'), some (.tup (S.map (·.1))), some mk, x11] m5 = .ok (.ref m5.length) n1 := by
      have : opSl (.ref r) none (some (a' : Int)) m5 = .ok (.ref m5.length) n1 := by
        rw [sl_l g5, cut_to (by rw [List.length_map]; omega), ← List.map_take]
      simp [this]
    have b2 : (dLst (dCons (dTup (dCons (dVar 10) (dCons (dVar 8) dNil))) dNil)) [some (.ref l), x1, some (.ref nm), some (.ref r), x4, some (.str w'), some (.int a'), some (.int e'), some (.int dp'), some (.tup (S.map (·.1))), some mk, x11] n1 = .ok (.ref n1.length) n2 := by
      simp [n2, eR]
    have z1 : ((rs.take a').map eR).length + [eR (mk, dp')].length ≤ sizeLine := sz_le (by simp; omega)
    have b3 : opAdd (.ref m5.length) (.ref n1.length) n2 = .ok (.ref n2.length) n3 := by
      rw [ev_add_r, show n2[m5.length]? = some (.lst ((rs.take a').map eR)) from get_old get_new, show n2[n1.length]? = some (.lst [eR (mk, dp')]) from get_new]
      show (if ((rs.take a').map eR).length + [eR (mk, dp')].length ≤ sizeLine then R.ok (D.ref n2.length) (n2 ++ [MO.lst ((rs.take a').map eR ++ [eR (mk, dp')])]) else .stk) = _
      rw [if_pos z1]
      simp [n3]
    have g6 : n3[r]? = some (.lst (rs.map eR)) := get_old (get_old (get_old g5))
    have b4 : (dSl opSl (dVar 3) (dPt (dVar 7)) dNoPt) [some (.ref l), x1, some (.ref nm), some (.ref r), x4, some (.str w'), some (.int a'), some (.int e'), some (.int dp'), some (.tup (S.map (·.1))), some mk, x11] n3 = .ok (.ref n3.length) n4 := by
      have : opSl (.ref r) (some (e' : Int)) none n3 = .ok (.ref n3.length) n4 := by
        rw [sl_l g6, cut_from (by rw [List.length_map]; omega), ← List.map_drop]
      simp [this]
    have z2 : ((rs.take a' ++ [(mk, dp')]).map eR).length + ((rs.drop e').map eR).length ≤ sizeLine := sz_le (by simp; omega)
    have b5 : opAdd (.ref n2.length) (.ref n3.length) n4 = .ok (.ref n4.length) n5 := by
      rw [ev_add_r, show n4[n2.length]? = some (.lst ((rs.take a' ++ [(mk, dp')]).map eR)) from get_old get_new, show n4[n3.length]? = some (.lst ((rs.drop e').map eR)) from get_new]
      show (if ((rs.take a' ++ [(mk, dp')]).map eR).length + ((rs.drop e').map eR).length ≤ sizeLine then R.ok (D.ref n4.length) (n4 ++ [MO.lst ((rs.take a' ++ [(mk, dp')]).map eR ++ (rs.drop e').map eR)]) else .stk) = _
      rw [if_pos z2]
      simp [n5, rs']
    refine ⟨n4.length, n5, ?_, get_new, ?_, ((((Frm.app.more).more).more).more)⟩
    · rw [ev_set, ev_bin, ev_bin, b1, ev_bind, b2, ev_bind, b3, ev_bind, b4, ev_bind, b5, ev_goes]
      rfl
    · have := (f1.trans (f2.trans (f3.trans ((f34.trans f45).mono (by simp))))).le
      simp [n4, n3, n2, n1]; omega
  obtain ⟨r', m6, t8, g6, hrl, f56⟩ := t8
  have hpot : pot rs' ≤ pot rs := by
    have h := mid_split rs (a := a') (e := e') (by omega) he2'
    have h9 : pot rs = pot (rs.take a') + (pot S + pot (rs.drop e')) := by
      conv => lhs; rw [h]
      rw [pot_app, pot_app]
    have h10 := pot_nodes S
    simp only [rs', pot_app, pot]
    omega
  refine ⟨some (.str w'), some (.int a'), some (.int e'), some (.int dp'), some (.tup (S.map (·.1))), some mk, r', rs', m6, ?g1, g6, hrl, by simp [rs']; omega, by simp [rs']; omega, hpot, ?g2, d5.frm f56 (by simp) (by simp), f1.trans (f2.trans (f3.trans (((f34.trans f45).trans f56).mono (by simp))))⟩
  case g2 =>
    intro x hx
    rcases List.mem_append.mp hx with h | h
    · exact ok x (List.mem_of_mem_take h)
    · rcases List.mem_cons.mp h with rfl | h
      · exact okm
      · exact ok x (List.mem_of_mem_drop h)
  case g1 =>
    unfold drawnB
    have q1 := ln_l hm
    rw [List.length_map] at q1
    have q2 := ln_l g1
    rw [List.length_map] at q2
    have c0 : dIfS (dTest (dBin opLt (dCall (fn1 opLen) (dCons (dVar 3) dNil)) (dC (.int 2)))) dBreak dNext [some (.ref l), x1, some (.ref nm), some (.ref r), x4, x5, x6, x7, x8, x9, x10, x11] m = .nx [some (.ref l), x1, some (.ref nm), some (.ref r), x4, x5, x6, x7, x8, x9, x10, x11] m := by
      have : ¬ ((rs.length : Int) < 2) := by omega
      simp [q1, this, -ev_len_r]
    have c1 : dSet 5 (dBin opIxM (dLst (dCons (dC (.str "or")) (dCons (dC (.str "and")) (dCons (dC (.str "but")) dNil)))) (dApp F [] (dCons (dVar 0) (dCons (dC (.int 3)) dNil)))) [some (.ref l), x1, some (.ref nm), some (.ref r), x4, x5, x6, x7, x8, x9, x10, x11] m = .nx [some (.ref l), x1, some (.ref nm), some (.ref r), x4, some (.str w), x6, x7, x8, x9, x10, x11] m1 := by
      rw [ev_set, e1, ev_goes]; rfl
    have c2 : dSet 6 (dApp F [] (dCons (dVar 0) (dCons (dBin opSub (dCall (fn1 opLen) (dCons (dVar 3) dNil)) (dC (.int 1))) dNil))) [some (.ref l), x1, some (.ref nm), some (.ref r), x4, some (.str w), x6, x7, x8, x9, x10, x11] m1 = .nx [some (.ref l), x1, some (.ref nm), some (.ref r), x4, some (.str w), some (.int a), x7, x8, x9, x10, x11] m2 := by
      simp [q2, e2, -ev_len_r]
    have c3 : dSet 7 (dBin opAdd (dVar 6) (dC (.int 2))) [some (.ref l), x1, some (.ref nm), some (.ref r), x4, some (.str w), some (.int a), x7, x8, x9, x10, x11] m2 = .nx [some (.ref l), x1, some (.ref nm), some (.ref r), x4, some (.str w), some (.int a), some (.int ((a : Int) + 2)), x8, x9, x10, x11] m2 := by
      simp
    rw [ev_seq, c0, ev_thn_nx, ev_seq, c1, ev_thn_nx, ev_seq, c2, ev_thn_nx, ev_seq, c3, ev_thn_nx, ev_seq, t3, ev_thn_nx, ev_seq, t4, ev_thn_nx, ev_seq, t5, ev_thn_nx, ev_seq, t6, ev_thn_nx, ev_seq]
    rw [ev_seq] at t7
    cases c10 : dSet 10 (dTup (dCons (dVar 5) (dCons (dVar 9) dNil))) [some (.ref l), x1, some (.ref nm), some (.ref r), x4, some (.str w'), some (.int a'), some (.int e'), some (.int dp'), some (.tup (S.map (·.1))), x10, x11] m5 with
    | nx ρ9 m9 =>
      rw [c10, ev_thn_nx] at t7
      rw [ev_thn_nx, ev_seq, t7, ev_thn_nx, t8]
    | _ => rw [c10] at t7; cases t7
end DL.k01
/-! General: a comprehension whose items are drawn. -/
namespace DL
open PySem PySem.Spec L2
theorem lc_gen {s : Src} (hs : s.lk = none) {γ : D → En → Mem → R En} {f : DF} {ρw : En} {L l : Nat} (Good : D → Prop) (St : Mem → Prop) (hL : L ≠ l) (hset : ∀ m o, St m → St (m.set L o)) : ∀ (ds acc : List D) (m : Mem), (∀ d ∈ ds, ∀ m, St m → ∃ ρ1 y m', γ d ρw m = .ok ρ1 m ∧ f ρ1 m = .ok y m' ∧ Good y ∧ St m' ∧ Frm [l] m m') → St m → m[L]? = some (.lst acc) → acc.length + ds.length < 100000 →
    ∃ ys m', lcF L s γ dYes f ρw ds m = .ok () m' ∧ St m' ∧ m'[L]? = some (.lst (acc ++ ys)) ∧ ys.length = ds.length ∧ (∀ y ∈ ys, Good y) ∧ Frm [l, L] m m'
  | [], acc, m, hb, h1, h2, h3 => ⟨[], m, by unfold lcF; rw [if_pos (by simp [Src.ok, hs])], h1, by simpa using h2, rfl, by simp, Frm.refl⟩
  | d :: ds, acc, m, hb, h1, h2, h3 => by
    simp only [List.length_cons] at h3
    obtain ⟨ρ1, y, m1, e1, e2, g1, s1, f1⟩ := hb d List.mem_cons_self m h1
    have g2 : m1[L]? = some (.lst acc) := f1.get h2 (by simpa using hL)
    obtain ⟨ys, m2, e3, s2, g3, hl, hg, f2⟩ := lc_gen hs Good St hL hset ds (acc ++ [y]) (m1.set L (.lst (acc ++ [y]))) (fun x hx => hb x (List.mem_cons_of_mem _ hx)) (hset _ _ s1) (get_set g2) (by simp; omega)
    refine ⟨y :: ys, m2, ?_, s2, by rw [g3]; simp, by simp [hl], ?_, ?_⟩
    · unfold lcF
      rw [if_pos (by simp [Src.ok, hs]), e1, ev_bnd, ev_yes, ev_bnd, if_pos rfl, e2, ev_bnd, g2]
      show (if acc.length < sizeLine then lcF L s γ dYes f ρw ds (m1.set L (.lst (acc ++ [y]))) else .stk) = _
      rw [if_pos (sz63 (by omega)), e3]
    · intro x hx
      rcases List.mem_cons.mp hx with rfl | hx
      · exact g1
      · exact hg x hx
    · exact ((f1.mono (by simp)).set (.inl (by simp))).trans f2
theorem dlc_gen {φ : DFi} {γ : D → En → Mem → R En} {f : DF} {vs : List Nat} {ρ : En} {m : Mem} {s : Src} {l : Nat} (Good : D → Prop) (St : Mem → Prop) (hφ : φ ρ m = .ok s m) (hs : s.lk = none) (hl : l < m.length) (hset : ∀ m' o, St m' → St (m'.set m.length o)) (hnew : ∀ o, St (m ++ [o]))
    (hb : ∀ d ∈ s.items, ∀ m, St m → ∃ ρ1 y m', γ d (wipeD ρ vs) m = .ok ρ1 m ∧ f ρ1 m = .ok y m' ∧ Good y ∧ St m' ∧ Frm [l] m m') (hz : s.items.length < 100000) :
    ∃ ys m', dLc φ γ dYes f vs ρ m = .ok (.ref m.length) m' ∧ St m' ∧ m'[m.length]? = some (.lst ys) ∧ ys.length = s.items.length ∧ (∀ y ∈ ys, Good y) ∧ Frm [l] m m' := by
  obtain ⟨ys, m', e, s2, g, h1, h2, f2⟩ := lc_gen (γ := γ) (f := f) (ρw := wipeD ρ vs) hs (L := m.length) (l := l) Good St (by omega) hset s.items [] (m ++ [.lst []]) hb (hnew _) get_new (by simpa using hz)
  refine ⟨ys, m', ?_, s2, by simpa using g, h1, h2, ?_⟩
  · rw [ev_lc, hφ, ev_bind, e, ev_bnd]
  · have hle := f2.le
    simp only [List.length_append, List.length_singleton] at hle
    exact ⟨by omega, fun i hi n => by
      have := f2.old i (by simp; omega) (by simp only [List.mem_cons, List.not_mem_nil, or_false, not_or] at n ⊢; exact ⟨n, by omega⟩)
      rw [this, List.getElem?_append_left hi]⟩
end DL
namespace DL.k01
open PySem PySem.Spec L2 DL
/-- the leaves -/
theorem leaves_lc (hF : Next F__law_next) {m : Mem} {l p nm : Nat} {ns : List Str} (hd : Drw m l p) (hm : m[nm]? = some (.lst (ns.map .str))) (hnl : nm ≠ l) (hn : ∀ x ∈ ns, NmOk x) (hz : 0 < ns.length) {φ : DFi} {γ : D → En → Mem → R En} {f : DF} {vs : List Nat} {ρ : En} {s : Src} (h : D → D) (hφ : φ ρ m = .ok s m) (hs : s.lk = none)
    (hb : ∀ d ∈ s.items, ∀ m, ∃ ρ1, γ d (wipeD ρ vs) m = .ok ρ1 m ∧ ∀ r m', F__law_leaf [.ref l, .ref nm] m = .ok r m' → f ρ1 m = .ok (h r) m') (hlen : s.items.length < 100000) :
    ∃ (ys : List D) (m' : Mem), dLc φ γ dYes f vs ρ m = .ok (.ref m.length) m' ∧ m'[m.length]? = some (.lst (ys.map h)) ∧ ys.length = s.items.length ∧ (∀ y ∈ ys, RuleOk y ∧ y.nodes ≤ 5) ∧ Drw m' l p ∧ Frm [l] m m' := by
  have hl : l < m.length := by obtain ⟨_, _, _, h, _⟩ := hd; exact lt_of_get h
  have hp : p < m.length := by obtain ⟨_, _, _, h, _, _, _, h2⟩ := hd; exact lt_of_get h2
  have hnm := lt_of_get hm
  obtain ⟨ys, m', e1, s1, g1, h1, h2, f1⟩ := dlc_gen (γ := γ) (f := f) (vs := vs) (ρ := ρ) (l := l) (fun y => ∃ r, y = h r ∧ RuleOk r ∧ r.nodes ≤ 5) (fun m => Drw m l p ∧ m[nm]? = some (.lst (ns.map .str))) hφ hs hl (fun m' o hh => ⟨hh.1.frm (Frm.refl.set (ls := [m.length]) (.inl (by simp))) (by simp; omega) (by simp; omega), get_set_ne hh.2 (by omega)⟩) (fun o => ⟨hd.frm (ls := []) Frm.app (by simp) (by simp), get_old hm⟩) (fun d hd' m1 hh => by
    obtain ⟨ρ1, e2, e3⟩ := hb d hd' m1
    obtain ⟨r, m2, e4, o4, n4, d4, f4⟩ := leaf_ok hF hh.1 hh.2 hnl hn hz
    exact ⟨ρ1, h r, m2, e2, e3 r m2 e4, ⟨r, rfl, o4, n4⟩, ⟨d4, f4.get hh.2 (by simpa using hnl)⟩, f4⟩) hlen
  have : ∃ zs : List D, ys = zs.map h ∧ ∀ z ∈ zs, RuleOk z ∧ z.nodes ≤ 5 := by
    clear e1 g1 h1
    induction ys with
    | nil => exact ⟨[], rfl, by simp⟩
    | cons y ys ih =>
      obtain ⟨zs, rfl, hz⟩ := ih (fun y hy => h2 y (List.mem_cons_of_mem _ hy))
      obtain ⟨r, rfl, h3⟩ := h2 y List.mem_cons_self
      refine ⟨r :: zs, rfl, fun z hz' => ?_⟩
      rcases List.mem_cons.mp hz' with rfl | hz'
      · exact h3
      · exact hz z hz'
  obtain ⟨zs, rfl, hzs⟩ := this
  exact ⟨zs, m', e1, g1, by simpa using h1, hzs, s1.1, f1⟩
theorem drawn_for {F : List D → Mem → R D} (hF : Next F) {l p nm : Nat} {x1 x11 : Option D} {N : Nat} {M : Mem} (ds : List D) {s : Src} (hs : s.lk = none) {x4 x5 x6 x7 x8 x9 x10 : Option D} {m : Mem} {r : Nat} {rs : List (D × Int)} (hd : Drw m l p) (hm : m[r]? = some (.lst (rs.map eR))) (hlr : r ≠ l) (h0 : 0 < rs.length) (hz : rs.length ≤ 1000) (ok : ∀ e ∈ rs, RuleOk e.1) (hp : pot rs ≤ N) (hf : Frm [l] M m) :
    ∃ y4 y5 y6 y7 y8 y9 y10 r' rs' m', forF s (γName 4) (drawnB F) ds [some (.ref l), x1, some (.ref nm), some (.ref r), x4, x5, x6, x7, x8, x9, x10, x11] m = .nx [some (.ref l), x1, some (.ref nm), some (.ref r'), y4, y5, y6, y7, y8, y9, y10, x11] m' ∧ m'[r']? = some (.lst (rs'.map eR)) ∧ 0 < rs'.length ∧ pot rs' ≤ N ∧ (∀ e ∈ rs', RuleOk e.1) ∧ Drw m' l p ∧ Frm [l] M m' := by
  let Inv : List D → En → Mem → Prop := fun _ ρ m => ∃ x4 x5 x6 x7 x8 x9 x10 r rs, ρ = [some (.ref l), x1, some (.ref nm), some (.ref r), x4, x5, x6, x7, x8, x9, x10, x11] ∧ Drw m l p ∧ m[r]? = some (.lst (rs.map eR)) ∧ r ≠ l ∧ 0 < rs.length ∧ rs.length ≤ 1000 ∧ (∀ e ∈ rs, RuleOk e.1) ∧ pot rs ≤ N ∧ Frm [l] M m
  have := forF_inv (s := s) (γ := γName 4) (b := drawnB F) Inv (fun o => ∃ y4 y5 y6 y7 y8 y9 y10 r' rs' m', o = .nx [some (.ref l), x1, some (.ref nm), some (.ref r'), y4, y5, y6, y7, y8, y9, y10, x11] m' ∧ m'[r']? = some (.lst (rs'.map eR)) ∧ 0 < rs'.length ∧ pot rs' ≤ N ∧ (∀ e ∈ rs', RuleOk e.1) ∧ Drw m' l p ∧ Frm [l] M m') ?step ?fin ds _ _ ⟨x4, x5, x6, x7, x8, x9, x10, r, rs, rfl, hd, hm, hlr, h0, hz, ok, hp, hf⟩
  · exact this
  case fin =>
    rintro ρ m ⟨x4, x5, x6, x7, x8, x9, x10, r, rs, rfl, hd, hm, hlr, h0, hz, ok, hp, hf⟩
    exact ⟨by simp [Src.ok, hs], x4, x5, x6, x7, x8, x9, x10, r, rs, m, rfl, hm, h0, hp, ok, hd, hf⟩
  case step =>
    rintro d ds ρ m ⟨x4, x5, x6, x7, x8, x9, x10, r, rs, rfl, hd, hm, hlr, h0, hz, ok, hp, hf⟩
    refine ⟨by simp [Src.ok, hs], [some (.ref l), x1, some (.ref nm), some (.ref r), some d, x5, x6, x7, x8, x9, x10, x11], m, rfl, ?_⟩
    by_cases h2 : 2 ≤ rs.length
    · obtain ⟨y5, y6, y7, y8, y9, y10, r', rs', m', e, g, a1, a2, a3, a4, a5, a6, a7⟩ := drawn_lap hF (x1 := x1) (nm := nm) (x4 := some d) (x5 := x5) (x6 := x6) (x7 := x7) (x8 := x8) (x9 := x9) (x10 := x10) (x11 := x11) hd hm hlr h2 hz ok
      rw [e]
      exact ⟨some d, y5, y6, y7, y8, y9, y10, r', rs', rfl, a6, g, a1, a2, by omega, a5, by omega, hf.trans a7⟩
    · have q := ln_l hm
      rw [List.length_map] at q
      have c0 : dIfS (dTest (dBin opLt (dCall (fn1 opLen) (dCons (dVar 3) dNil)) (dC (.int 2)))) dBreak dNext [some (.ref l), x1, some (.ref nm), some (.ref r), some d, x5, x6, x7, x8, x9, x10, x11] m = .bk [some (.ref l), x1, some (.ref nm), some (.ref r), some d, x5, x6, x7, x8, x9, x10, x11] m := by
        have : ((rs.length : Int) < 2) := by omega
        simp [q, this, -ev_len_r]
      have e : drawnB F [some (.ref l), x1, some (.ref nm), some (.ref r), some d, x5, x6, x7, x8, x9, x10, x11] m = .bk [some (.ref l), x1, some (.ref nm), some (.ref r), some d, x5, x6, x7, x8, x9, x10, x11] m := by
        unfold drawnB
        rw [ev_seq, c0, ev_thn_bk]
      rw [e]
      exact ⟨_, _, _, _, _, _, _, r, rs, m, rfl, hm, h0, hp, ok, hd, hf⟩
theorem pot_leaves (ys : List D) (h : ∀ y ∈ ys, RuleOk y ∧ y.nodes ≤ 5) : pot (ys.map fun y => (y, (1 : Int))) ≤ 8 * ys.length := by
  induction ys with
  | nil => simp [pot]
  | cons y ys ih =>
    have := (h y List.mem_cons_self).2
    have := ih fun y hy => h y (List.mem_cons_of_mem _ hy)
    simp [pot]; omega
theorem pot_mem {rs : List (D × Int)} {e : D × Int} (h : e ∈ rs) : e.1.nodes ≤ pot rs := by
  induction rs with
  | nil => cases h
  | cons x xs ih =>
    rcases List.mem_cons.mp h with rfl | h
    · simp [pot]; omega
    · have := ih h; simp [pot]; omega
theorem drawn_ok (hF : Next F__law_next) {m : Mem} {l p nm k : Nat} {ns : List Str} (hd : Drw m l p) (hm : m[nm]? = some (.lst (ns.map .str))) (hnl : nm ≠ l) (hn : ∀ x ∈ ns, NmOk x) (hz : 0 < ns.length) (hk : 0 < k) (hk2 : k ≤ 12) :
    ∃ r m', F__law_drawn [.ref l, .int k, .ref nm] m = .ok r m' ∧ RuleOk r ∧ r.nodes ≤ 100 ∧ Drw m' l p ∧ Frm [l] m m' := by
  have hl : l < m.length := by obtain ⟨_, _, _, h, _⟩ := hd; exact lt_of_get h
  have hrng : ∀ (ρ : En) (m : Mem), ρ[1]? = some (some (.int k)) → dRange1 (dVar 1) ρ m = .ok ⟨rngD 0 1 k, none⟩ m := fun ρ m h => by
    rw [ev_range1, ev_var, h, ev_bind]
    show (if smallI (k : Int) = true then R.ok (⟨rngD 0 1 (k : Int).toNat, none⟩ : Src) m else .stk) = _
    rw [if_pos (small_len (by omega)), Int.toNat_natCast]
  obtain ⟨ys, m1, e1, g1, hy, oy, d1, f1⟩ := leaves_lc hF hd hm hnl hn hz (φ := dRange1 (dVar 1)) (γ := γName 4) (f := (dTup (dCons (dApp F__law_leaf [] (dCons (dVar 0) (dCons (dVar 2) dNil))) (dCons (dC (.int 1)) dNil)))) (vs := [4]) (ρ := [some (.ref l), some (.int k), some (.ref nm), none, none, none, none, none, none, none, none, none]) (fun y => eR (y, 1)) (hrng _ m rfl) rfl (fun d _ m' => by
    refine ⟨[some (.ref l), some (.int k), some (.ref nm), none, some d, none, none, none, none, none, none, none], rfl, fun r m2 e => ?_⟩
    revert e
    generalize F__law_leaf = F
    intro e
    simp [e, eR]) (by simp only [rngD_len]; omega)
  have ey : ys.map (fun y => eR (y, 1)) = (ys.map fun y => (y, (1 : Int))).map eR := by rw [List.map_map]; rfl
  rw [ey] at g1
  rw [rngD_len] at hy
  have hpl := pot_leaves ys oy
  obtain ⟨y4, y5, y6, y7, y8, y9, y10, r', rs', m2, e2, g2, z2, p2, o2, d2, f2⟩ := drawn_for hF (l := l) (p := p) (nm := nm) (x1 := some (.int k)) (x11 := none) (N := 100) (M := m) (rngD 0 1 k) (s := ⟨rngD 0 1 k, none⟩) rfl (x4 := none) (x5 := none) (x6 := none) (x7 := none) (x8 := none) (x9 := none) (x10 := none) d1 g1 (by omega) (by simp; omega) (by simp; omega) (fun e he => by
    obtain ⟨y, hy, rfl⟩ := List.mem_map.mp he
    exact (oy y hy).1) (by omega) f1
  match rs', z2, g2, p2, o2 with
  | x :: xs, _, g2, p2, o2 =>
    have nx := pot_mem (List.mem_cons_self (a := x) (l := xs))
    refine ⟨x.1, m2, ?_, o2 x List.mem_cons_self, by omega, d2, f2⟩
    unfold F__law_drawn
    rw [run_eq (np := 3) rfl]
    show (g__law_drawn [some (.ref l), some (.int k), some (.ref nm), none, none, none, none, none, none, none, none, none] m).val = _
    unfold g__law_drawn
    rw [ev_seq, ev_set, e1, ev_goes, ev_thn_nx, ev_seq]
    show (((dFor (dRange1 (dVar 1)) (γName 4) (drawnB F__law_next) [some (.ref l), some (.int k), some (.ref nm), some (.ref m.length), none, none, none, none, none, none, none, none] m1).thn _).val) = _
    rw [ev_for, hrng _ m1 rfl, ev_goes, e2, ev_thn_nx, ev_ret, ev_bin, ev_bin, ev_var]
    show (((R.bind (opIxM (.ref r') (.int 0) m2) fun x' m1 => opIxM x' (.int 0) m1).goes _ _).val) = _
    rw [ev_ix_l g2, List.map_cons, at_0, ev_bind]
    simp [eR]
end DL.k01
/-! _law_asked. -/
namespace DL.k01
open PySem PySem.Spec L2 DL
theorem pre_deep : ∀ (n : Nat) (e x : List Int × D), RuleOk e.2 → x ∈ pre n e → RuleOk x.2 ∧ x.1.length + x.2.nodes ≤ e.1.length + e.2.nodes
  | 0, e, x, _, h => by cases h
  | n + 1, e, x, h0, h => by
    rcases List.mem_cons.mp h with rfl | h
    · exact ⟨h0, Nat.le_refl _⟩
    · obtain ⟨k, hk, hx⟩ := List.mem_flatMap.mp h
      obtain ⟨h1, h2⟩ := kids_ok h0 k hk
      obtain ⟨i, _, h3⟩ := kids_mem hk
      obtain ⟨h4, h5⟩ := pre_deep n k x h1 hx
      rw [h3] at h5
      simp only [List.length_append, List.length_singleton] at h5
      exact ⟨h4, by omega⟩
theorem nodes_ints (p : List Int) : D.nodesAll (p.map .int) = p.length := by
  induction p with
  | nil => rfl
  | cons i p ih => simp [D.nodesAll, D.nodes, ih]; omega
theorem nodes_parts (N : Nat) : ∀ (es : List (List Int × D)), (∀ e ∈ es, e.1.length + e.2.nodes ≤ N) → D.nodesAll (es.map eD) ≤ (N + 2) * es.length
  | [], _ => by simp [D.nodesAll]
  | e :: es, h => by
    have h1 := h e List.mem_cons_self
    have h2 := nodes_parts N es fun x hx => h x (List.mem_cons_of_mem _ hx)
    have h3 : (eD e).nodes = e.1.length + e.2.nodes + 2 := by simp [eD, plD, D.nodes, D.nodesAll, nodes_ints]; omega
    simp only [List.map_cons, D.nodesAll, List.length_cons, Nat.mul_add, h3]
    omega
theorem okSs_parts : ∀ (es : List (List Int × D)), (∀ e ∈ es, RuleOk e.2) → D.okSs (es.map eD) = true
  | [], _ => rfl
  | e :: es, h => by
    have h2 := okSs_parts es fun x hx => h x (List.mem_cons_of_mem _ hx)
    simp [D.okSs, eD, D.okS, plD, okSs_ints, (h e List.mem_cons_self).okS, h2]
theorem same_fn : F__law_same = runB 2 7 sameG := rfl
/-- all parts, as a tuple, compared with itself -/
theorem same_parts {d : D} (h : RuleOk d) (hn : d.nodes ≤ 200) (m : Mem) : ∃ m', F__law_same [.tup ((pre d.nodes ([], d)).map eD), .tup ((pre d.nodes ([], d)).map eD)] m = .ok (.bl true) m' ∧ Frm [] m m' := by
  rw [same_fn]
  have h1 := pre_len d.nodes ([], d) h
  have h2 := fun x hx => pre_deep d.nodes ([], d) x h hx
  have h3 := nodes_parts 200 (pre d.nodes ([], d)) fun e he => by
    have := (h2 e he).2
    simp at this; omega
  simp only at h1
  refine same_self ?_ ?_
  · simp [D.okS, okSs_parts _ fun e he => (h2 e he).1]
  · simp only [D.nodes]
    have : (200 + 2) * (pre d.nodes ([], d)).length ≤ 202 * 200 := Nat.mul_le_mul (Nat.le_refl _) (by omega)
    omega
def askedB : DSt := (dSeq (dIfS (dNot (dTru (dApp F__law_same [] (dCons (dApp F_part_at [] (dCons (dVar 0) (dCons (dVar 3) dNil))) (dCons (dVar 4) dNil))))) (dRet (dC (.bl false))) dNext)
  (dSeq (dSet 5 (dApp F__law_less [] (dCons (dVar 2) (dCons (dVar 3) dNil))))
  (dSeq (dIfS (dTest (dBin opIsN (dVar 5) (dC .non))) (dSet 5 (dLst (dCons (dC (.str "place")) dNil))) dNext)
  (dIfS (dNot (dTru (dApp F__law_same [] (dCons (dApp F__law_told [] (dCons (dVar 0) (dCons (dVar 3) dNil))) (dCons (dVar 5) dNil))))) (dRet (dC (.bl false))) dNext))))
/-- a call that gives True under `if not` -/
theorem if_not_true {F : List D → Mem → R D} {fs : DFs} {ds : List D} {ρ : En} {m m1 m2 : Mem} (h1 : fs ρ m = .ok ds m1) (h2 : F ds m1 = .ok (.bl true) m2) : dIfS (dNot (dTru (dApp F [] fs))) (dRet (dC (.bl false))) dNext ρ m = .nx ρ m2 := by
  rw [ev_ifS, ev_not, ev_tru, ev_app, h1, ev_bind, List.append_nil, h2, ev_bind]
  rfl
theorem set_call {F : List D → Mem → R D} {i : Nat} {fs : DFs} {ds : List D} {d : D} {ρ : En} {m m1 m2 : Mem} (h1 : fs ρ m = .ok ds m1) (h2 : F ds m1 = .ok d m2) : dSet i (dApp F [] fs) ρ m = .nx (ρ.set i (some d)) m2 := by
  rw [ev_set, ev_app, h1, ev_bind, List.append_nil, h2, ev_goes]
theorem cons_call {F : List D → Mem → R D} {fs gs : DFs} {ds es : List D} {d : D} {ρ : En} {m m1 m2 m3 : Mem} (h1 : fs ρ m = .ok ds m1) (h2 : F ds m1 = .ok d m2) (h3 : gs ρ m2 = .ok es m3) : dCons (dApp F [] fs) gs ρ m = .ok (d :: es) m3 := by
  rw [ev_cons, ev_app, h1, ev_bind, List.append_nil, h2, ev_bind, h3, ev_bind]
theorem asked_lap {d x : D} (h : RuleOk d) (hn : d.nodes ≤ 200) {p : List Int} (hp : Pl p) (hl : p.length ≤ 80000) (hx : partAt d p = some x) {m : Mem} {r f : Nat} (hF : Found m f d) {y5 : Option D} :
    ∃ z5 m', askedB [some d, some (.ref r), some (.ref f), some (plD p), some x, y5] m = .nx [some d, some (.ref r), some (.ref f), some (plD p), some x, z5] m' ∧ Frm [] m m' := by
  obtain ⟨ox, nx⟩ := partAt_nodes h hx
  have e1 := part_ok h hx m
  obtain ⟨m1, e2, f1⟩ := same_self (M := m) ox.okS (by omega)
  have hF1 := hF.frm f1
  obtain ⟨m2, e3, f2⟩ := less_ok h (by omega) hF1 hp hl hx
  have e4 := told_ok h (by omega) hp hl hx
  rw [← same_fn] at e2
  have t1 : dIfS (dNot (dTru (dApp F__law_same [] (dCons (dApp F_part_at [] (dCons (dVar 0) (dCons (dVar 3) dNil))) (dCons (dVar 4) dNil))))) (dRet (dC (.bl false))) dNext [some d, some (.ref r), some (.ref f), some (plD p), some x, y5] m = .nx [some d, some (.ref r), some (.ref f), some (plD p), some x, y5] m1 :=
    if_not_true (cons_call (fs := (dCons (dVar 0) (dCons (dVar 3) dNil))) (ds := [d, plD p]) (es := [x]) (m1 := m) (m3 := m) (by simp) e1 (by simp)) e2
  have t2 : dSet 5 (dApp F__law_less [] (dCons (dVar 2) (dCons (dVar 3) dNil))) [some d, some (.ref r), some (.ref f), some (plD p), some x, y5] m1 = .nx [some d, some (.ref r), some (.ref f), some (plD p), some x, some ((wout d p).getD .non)] m2 :=
    set_call (ds := [.ref f, plD p]) (by simp) e3
  cases hw : wout d p with
  | some w =>
    obtain ⟨ow, nw⟩ := wout_ok h hp hx hw
    have e5 := e4 m2
    rw [hw] at e5
    obtain ⟨m3, e6, f3⟩ := same_self (M := m2) ow.okS (by omega)
    rw [← same_fn] at e6
    have t3 : dIfS (dTest (dBin opIsN (dVar 5) (dC .non))) (dSet 5 (dLst (dCons (dC (.str "place")) dNil))) dNext [some d, some (.ref r), some (.ref f), some (plD p), some x, some w] m2 = .nx [some d, some (.ref r), some (.ref f), some (plD p), some x, some w] m2 := by
      have : ¬ (w = D.non) := by intro e; subst e; cases ow
      simp [this]
    have t4 : (dIfS (dNot (dTru (dApp F__law_same [] (dCons (dApp F__law_told [] (dCons (dVar 0) (dCons (dVar 3) dNil))) (dCons (dVar 5) dNil))))) (dRet (dC (.bl false))) dNext) [some d, some (.ref r), some (.ref f), some (plD p), some x, some w] m2 = .nx [some d, some (.ref r), some (.ref f), some (plD p), some x, some w] m3 :=
      if_not_true (cons_call (fs := (dCons (dVar 0) (dCons (dVar 3) dNil))) (ds := [d, plD p]) (es := [w]) (m1 := m2) (m3 := m2) (by simp) e5 (by simp)) e6
    refine ⟨some w, m3, ?_, (f1.trans f2).trans f3⟩
    rw [hw] at t2
    unfold askedB
    rw [ev_seq, t1, ev_thn_nx, ev_seq, t2, ev_thn_nx, ev_seq]
    simp only [Option.getD_some]
    rw [t3, ev_thn_nx, t4]
  | none =>
    let m3 := m2 ++ [MO.lst [.str "place"]]
    have e5 := e4 m3
    rw [hw] at e5
    let m4 := m3 ++ [MO.lst [.str "place"]]
    have g3 : m4[m2.length]? = some (.lst [.str "place"]) := get_old get_new
    have g4 : m4[m3.length]? = some (.lst [.str "place"]) := get_new
    have pok : (D.str "place").okS = true := by decide +kernel
    obtain ⟨m5, e6, f5⟩ := same_ok (SameP.lst (ps := []) g4 g3 rfl (by
      show SameP m4 [(D.str "place", D.str "place")] 1
      exact .one rfl pok .nil)) (by omega)
    rw [← same_fn] at e6
    have t3 : dIfS (dTest (dBin opIsN (dVar 5) (dC .non))) (dSet 5 (dLst (dCons (dC (.str "place")) dNil))) dNext [some d, some (.ref r), some (.ref f), some (plD p), some x, some .non] m2 = .nx [some d, some (.ref r), some (.ref f), some (plD p), some x, some (.ref m2.length)] m3 := by
      simp [m3]
    have t4 : (dIfS (dNot (dTru (dApp F__law_same [] (dCons (dApp F__law_told [] (dCons (dVar 0) (dCons (dVar 3) dNil))) (dCons (dVar 5) dNil))))) (dRet (dC (.bl false))) dNext) [some d, some (.ref r), some (.ref f), some (plD p), some x, some (.ref m2.length)] m3 = .nx [some d, some (.ref r), some (.ref f), some (plD p), some x, some (.ref m2.length)] m5 :=
      if_not_true (cons_call (fs := (dCons (dVar 0) (dCons (dVar 3) dNil))) (ds := [d, plD p]) (es := [.ref m2.length]) (m1 := m3) (m3 := m4) (by simp) e5 (by simp [m4])) e6
    refine ⟨some (.ref m2.length), m5, ?_, (((f1.trans f2).trans Frm.app).trans Frm.app).trans f5⟩
    rw [hw] at t2
    unfold askedB
    rw [ev_seq, t1, ev_thn_nx, ev_seq, t2, ev_thn_nx, ev_seq]
    simp only [Option.getD_none]
    rw [t3, ev_thn_nx, t4]
theorem asked_loop {d : D} (h : RuleOk d) (hn : d.nodes ≤ 200) {r f : Nat} {P : List D} {M : Mem} (hr : M[r]? = some (.lst P)) (hF : Found M f d) : ∀ (es : List (List Int × D)) (y3 y4 y5 : Option D) (m : Mem), (∀ e ∈ es, Pl e.1 ∧ e.1.length ≤ 80000 ∧ partAt d e.1 = some e.2) → Frm [] M m →
    ∃ z3 z4 z5 m', forF ⟨P, some (r, .lst P)⟩ (γTL 2 (γCons (γName 3) (γCons (γName 4) γNil))) askedB (es.map eD) [some d, some (.ref r), some (.ref f), y3, y4, y5] m = .nx [some d, some (.ref r), some (.ref f), z3, z4, z5] m' ∧ Frm [] M m'
  | [], y3, y4, y5, m, _, hf => by
    have : m[r]? = some (.lst P) := hf.get hr (by simp)
    exact ⟨y3, y4, y5, m, by simp [forF, Src.ok, this], hf⟩
  | e :: es, y3, y4, y5, m, he, hf => by
    have g : m[r]? = some (.lst P) := hf.get hr (by simp)
    obtain ⟨h1, h2, h3⟩ := he e List.mem_cons_self
    obtain ⟨z5, m1, e1, f1⟩ := asked_lap h hn h1 h2 h3 (hF.frm hf) (r := r) (y5 := y5)
    obtain ⟨w3, w4, w5, m2, e2, f2⟩ := asked_loop h hn hr hF es (some (plD e.1)) (some e.2) z5 m1 (fun x hx => he x (List.mem_cons_of_mem _ hx)) (hf.trans f1)
    refine ⟨w3, w4, w5, m2, ?_, f2⟩
    rw [List.map_cons]
    unfold forF
    have so : (⟨P, some (r, .lst P)⟩ : Src).ok m = true := by simp [Src.ok, g]
    rw [if_pos so]
    have tg : γTL 2 (γCons (γName 3) (γCons (γName 4) γNil)) (eD e) [some d, some (.ref r), some (.ref f), y3, y4, y5] m = .ok [some d, some (.ref r), some (.ref f), some (plD e.1), some e.2, y5] m := by
      simp [eD]
    rw [tg, ev_only, e1, ev_turn_nx, e2]
end DL.k01
/-! _law_asked, whole. -/
namespace DL.k01
open PySem PySem.Spec L2 DL
theorem call_K {F : List D → Mem → R D} {ix : List Nat} {fs : DFs} {ds es : List D} {d : D} {ρ : En} {m m1 m2 : Mem} (h1 : fs ρ m = .ok ds m1) (hl : ds.length = ix.length) (hp : permL ix ds = es) (h2 : F es m1 = .ok d m2) : dAppK F ix fs ρ m = .ok d m2 := by
  rw [ev_appK, h1, ev_bind, if_pos hl, hp, h2]
theorem cons_any {f : DF} {gs : DFs} {es : List D} {d : D} {ρ : En} {m m1 m2 : Mem} (h1 : f ρ m = .ok d m1) (h2 : gs ρ m1 = .ok es m2) : dCons f gs ρ m = .ok (d :: es) m2 := by
  rw [ev_cons, h1, ev_bind, h2, ev_bind]
theorem nil_any {ρ : En} {m : Mem} : dNil ρ m = .ok [] m := rfl
theorem var_any {ρ : En} {m : Mem} {i : Nat} {d : D} (h : ρ[i]? = some (some d)) : dVar i ρ m = .ok d m := by
  rw [ev_var, h]
theorem app_any {F : List D → Mem → R D} {fs : DFs} {ds : List D} {d : D} {ρ : En} {m m1 m2 : Mem} (h1 : fs ρ m = .ok ds m1) (h2 : F ds m1 = .ok d m2) : dApp F [] fs ρ m = .ok d m2 := by
  rw [ev_app, h1, ev_bind, List.append_nil, h2]
theorem tup_of {ρ : En} {m : Mem} {i r : Nat} {xs : List D} (h : ρ[i]? = some (some (.ref r))) (g : m[r]? = some (.lst xs)) : dCall (fn1 opTuple) (dCons (dVar i) dNil) ρ m = .ok (.tup xs) m := by
  rw [ev_call, cons_any (var_any h) nil_any, ev_bind, ev_fn1, opT_l g]
theorem and_true {f g : DF} {ρ : En} {m m1 m2 : Mem} {d : D} (h1 : f ρ m = .ok (.bl true) m1) (h2 : g ρ m1 = .ok d m2) : dAndV f g ρ m = .ok d m2 := by
  rw [ev_andV, h1, ev_bind]
  exact h2
theorem asked_ok {d : D} (h : RuleOk d) (hn : d.nodes ≤ 200) (m : Mem) : ∃ m', F__law_asked [d] m = .ok (.bl true) m' ∧ Frm [] m m' := by
  have hpl := pre_len d.nodes ([], d) h
  simp only at hpl
  obtain ⟨r, m1, e1, g1, l1, f1⟩ := placed_ok h (by omega) m
  let P := (pre d.nodes ([], d)).map eD
  obtain ⟨m2, e2, f2⟩ := parts_ok h (by omega) m1
  have g2 : m2[r]? = some (.lst P) := f2.get g1 (by simp)
  obtain ⟨m3, e3, f3⟩ := same_parts h hn m2
  have g3 : m3[r]? = some (.lst P) := f3.get g2 (by simp)
  have t1 : dSet 1 (dApp F__law_placed [] (dCons (dVar 0) dNil)) [some d, none, none, none, none, none] m = .nx [some d, some (.ref r), none, none, none, none] m1 := set_call (ds := [d]) (by simp) e1
  have t2 : dIfS (dNot (dTru (dApp F__law_same [] (dCons (dApp F_rule_parts [] (dCons (dVar 0) dNil)) (dCons (dCall (fn1 opTuple) (dCons (dVar 1) dNil)) dNil))))) (dRet (dC (.bl false))) dNext [some d, some (.ref r), none, none, none, none] m1 = .nx [some d, some (.ref r), none, none, none, none] m3 := by
    refine if_not_true (m1 := m2) (ds := [.tup P, .tup P]) ?_ e3
    refine cons_call (ds := [d]) (m1 := m1) (m2 := m2) (by simp) e2 ?_
    exact cons_any (tup_of rfl g2) nil_any
  let m4 := m3 ++ [MO.dct []]
  have t3 : dSet 2 dNewD [some d, some (.ref r), none, none, none, none] m3 = .nx [some d, some (.ref r), some (.ref m3.length), none, none, none] m4 := by
    rw [ev_set, ev_newD, ev_goes]; rfl
  have g4 : m4[r]? = some (.lst P) := get_old g3
  have lr := lt_of_get g3
  let m5 := m4.set m3.length (.dct (fillD [] (pre d.nodes ([], d))))
  obtain ⟨y, z, e4⟩ := fill_loop (s := ⟨P, some (r, .lst P)⟩) (l := m3.length) (i := 3) (j := 4) (f := 2) (by decide) (by decide) (by decide) (pre d.nodes ([], d)) [] [some d, some (.ref r), some (.ref m3.length), none, none, none] m4 get_new rfl (by simp; omega) (by simp) (by simp) rfl (fun o => by
    have : (m4.set m3.length (.dct o))[r]? = some (.lst P) := get_set_ne g4 (by omega)
    simp [Src.ok, this])
  have t4 : dFor (dIt (dVar 1)) (γTL 2 (γCons (γName 3) (γCons (γName 4) γNil))) (dSub (dVar 4) (dVar 2) (dVar 3) opSetM) [some d, some (.ref r), some (.ref m3.length), none, none, none] m4 = .nx [some d, some (.ref r), some (.ref m3.length), y, z, none] m5 := by
    rw [ev_for, it_lst (i := 1) rfl g4, ev_goes]
    exact e4
  have g5 : m5[r]? = some (.lst P) := get_set_ne g4 (by omega)
  have hat : ∀ e ∈ pre d.nodes ([], d), Pl e.1 ∧ e.1.length ≤ 80000 ∧ partAt d e.1 = some e.2 := fun e he => by
    refine ⟨pre_nn d.nodes ([], d) e (fun i hi => by cases hi) he, ?_, pre_at d.nodes ([], d) e rfl he⟩
    have := (pre_deep d.nodes ([], d) e h he).2
    simp at this; omega
  have hF : Found m5 m3.length d := by
    refine ⟨fillD [] (pre d.nodes ([], d)), get_set get_new, fun p x hp hx => ?_⟩
    have h1 := pre_all p d.nodes ([], d) x h (Nat.le_refl _) hp hx
    rw [List.nil_append] at h1
    exact fill_look _ [] p x (fun e he h' => uniq_pre (List.Perm.refl _) e he x (by rw [h']; exact hx)) (.inl ⟨_, h1, rfl⟩)
  obtain ⟨z3, z4, z5, m6, e5, f6⟩ := asked_loop h hn g5 hF (pre d.nodes ([], d)) y z none m5 hat Frm.refl
  have t5 : dFor (dIt (dVar 1)) (γTL 2 (γCons (γName 3) (γCons (γName 4) γNil))) askedB [some d, some (.ref r), some (.ref m3.length), y, z, none] m5 = .nx [some d, some (.ref r), some (.ref m3.length), z3, z4, z5] m6 := by
    rw [ev_for, it_lst (i := 1) rfl g5, ev_goes]
    exact e5
  have g6 : m6[r]? = some (.lst P) := f6.get g5 (by simp)
  obtain ⟨m7, e6, f7⟩ := same_self (M := m6) h.okS (by omega)
  rw [← same_fn] at e6
  have g7 : m7[r]? = some (.lst P) := f7.get g6 (by simp)
  obtain ⟨m8, e7, f8⟩ := parts_ok h (by omega) m7
  have g8 : m8[r]? = some (.lst P) := f8.get g7 (by simp)
  obtain ⟨m9, e8, f9⟩ := same_parts h hn m8
  have t6 : (dApp F__law_same [] (dCons (dAppK F_part_at [1, 0] (dCons (dTup dNil) (dCons (dVar 0) dNil))) (dCons (dVar 0) dNil))) [some d, some (.ref r), some (.ref m3.length), z3, z4, z5] m6 = .ok (.bl true) m7 := by
    exact app_any (cons_any (call_K (ds := [.tup [], d]) (es := [d, .tup []]) (cons_any (by rw [ev_tup, ev_nil, ev_bind]; rfl) (cons_any (var_any rfl) nil_any)) rfl rfl (part_ok h (p := []) (x := d) rfl m6)) (cons_any (var_any rfl) nil_any)) e6
  have t7 : (dApp F__law_same [] (dCons (dAppK F_rule_parts [0] (dCons (dVar 0) dNil)) (dCons (dCall (fn1 opTuple) (dCons (dVar 1) dNil)) dNil))) [some d, some (.ref r), some (.ref m3.length), z3, z4, z5] m7 = .ok (.bl true) m9 := by
    exact app_any (cons_any (call_K (ds := [d]) (es := [d]) (cons_any (var_any rfl) nil_any) rfl rfl e7) (cons_any (tup_of rfl g8) nil_any)) e8
  refine ⟨m9, ?_, ?_⟩
  · unfold F__law_asked
    rw [run_eq (np := 1) rfl]
    show (g__law_asked [some d, none, none, none, none, none] m).val = _
    unfold g__law_asked
    rw [ev_seq, t1, ev_thn_nx, ev_seq, t2, ev_thn_nx, ev_seq, t3, ev_thn_nx, ev_seq, t4, ev_thn_nx, ev_seq]
    change ((dFor (dIt (dVar 1)) (γTL 2 (γCons (γName 3) (γCons (γName 4) γNil))) askedB [some d, some (.ref r), some (.ref m3.length), y, z, none] m5).thn _).val = _
    rw [t5, ev_thn_nx, ev_ret, and_true t6 t7, ev_goes, ev_val_rt]
  · have a1 : Frm [] m m3 := (f1.trans f2).trans f3
    have a2 : Frm [] m m5 := (a1.more).set (.inr a1.le)
    exact (((a2.trans f6).trans f7).trans f8).trans f9
end DL.k01
/-! The law, whole. -/
namespace DL.k01
open PySem PySem.Spec L2 DL
theorem hNext : Next F__law_next := ⟨fun {m l p many} h hm => next_ok (a := 27103) (b := 6133) (c := 2147483399) (d := 691) (e := 61) (f := 2147483033) (g := 8) (by decide) (by decide) (by decide) (by decide) (by decide) (by decide) (by decide) h hm⟩
/-- the rule that the law writes down -/
def innerD (a b c d : Str) : D := .tup [.str "but", .tup [.str "but", .tup [.str "direct", .str a], .tup [.str "same", .str b]], .tup [.str "and", .tup [.tup [.str "by", .str c, .str d], .tup [.str "direct", .str a]]]]
theorem innerD_ok {a b c d : Str} (ha : NmOk a) (hb : NmOk b) (hc : NmOk c) (hd : NmOk d) : RuleOk (innerD a b c d) := .but (.but (.leaf2 (.inl rfl) ha.1) (.leaf2 (.inr rfl) hb.1)) (.nary (.inr rfl) (.cons (.leaf3 hc.1 hd.1) (.cons (.leaf2 (.inl rfl) ha.1) .nil)))
theorem innerD_nodes {a b c d : Str} : (innerD a b c d).nodes ≤ 30 := by simp [innerD, D.nodes, D.nodesAll]
theorem tst_true {F : List D → Mem → R D} {fs : DFs} {ds : List D} {ρ : En} {m m1 m2 : Mem} (h1 : fs ρ m = .ok ds m1) (h2 : F ds m1 = .ok (.bl true) m2) : dNot (dTru (dApp F [] fs)) ρ m = .ok false m2 := by
  rw [ev_not, ev_tru, ev_app, h1, ev_bind, List.append_nil, h2, ev_bind]
  rfl
theorem or_false_ {t u : DFb} {ρ : En} {m m1 : Mem} {r : R Bool} (h1 : t ρ m = .ok false m1) (h2 : u ρ m1 = r) : dOr t u ρ m = r := by
  rw [ev_or, h1, ev_bind, if_neg (by decide), h2]
theorem if_false {t : DFb} {a b : DSt} {ρ : En} {m m1 : Mem} (h1 : t ρ m = .ok false m1) : dIfS t a b ρ m = b ρ m1 := by
  rw [ev_ifS, h1, ev_goes, if_neg (by decide)]
theorem tup_any {fs : DFs} {ds : List D} {ρ : En} {m m1 : Mem} (h : fs ρ m = .ok ds m1) (hz : ds.length ≤ 1000) : dTup fs ρ m = .ok (.tup ds) m1 := by
  rw [ev_tup, h, ev_bind, if_pos (sz_le (by omega))]
theorem C_any {d : D} {ρ : En} {m : Mem} : dC d ρ m = .ok d m := rfl
theorem bin_any {o : O2} {f g : DF} {x y d : D} {ρ : En} {m m1 m2 m3 : Mem} (h1 : f ρ m = .ok x m1) (h2 : g ρ m1 = .ok y m2) (h3 : o x y m2 = .ok d m3) : dBin o f g ρ m = .ok d m3 := by
  rw [ev_bin, h1, ev_bind, h2, ev_bind, h3]
theorem set_any {f : DF} {i : Nat} {d : D} {ρ : En} {m m1 : Mem} (h : f ρ m = .ok d m1) : dSet i f ρ m = .nx (ρ.set i (some d)) m1 := by
  rw [ev_set, h, ev_goes]
/-- one drawn rule asked -/
theorem one_ask {m : Mem} {l p nm : Nat} {ns : List Str} (hd : Drw m l p) (hm : m[nm]? = some (.lst (ns.map .str))) (hnl : nm ≠ l) (hn : ∀ x ∈ ns, NmOk x) (hz : 0 < ns.length) {ρ : En} (h1 : ρ[1]? = some (some (.ref l))) (h2 : ρ[2]? = some (some (.ref nm))) {b k : Nat} (hb : 0 < b) (hk : 0 < k) (hbk : b + k ≤ 12) :
    ∃ m', dNot (dTru (dApp F__law_asked [] (dCons (dApp F__law_drawn [] (dCons (dVar 1) (dCons (dBin opAdd (dC (.int b)) (dApp F__law_next [] (dCons (dVar 1) (dCons (dC (.int k)) dNil)))) (dCons (dVar 2) dNil)))) dNil))) ρ m = .ok false m' ∧ Drw m' l p ∧ Frm [l] m m' := by
  obtain ⟨j, m1, e1, a1, b1, f1, d1, _⟩ := hNext.ok hd (many := k) (by omega)
  obtain ⟨jn, rfl⟩ : ∃ jn : Nat, j = jn := ⟨j.toNat, (Int.toNat_of_nonneg a1).symm⟩
  obtain ⟨r, m2, e2, o2, n2, d2, f2⟩ := drawn_ok hNext d1 (f1.get hm (by simpa using hnl)) hnl hn hz (k := b + jn) (by omega) (by omega)
  obtain ⟨m3, e3, f3⟩ := asked_ok o2 (by omega) m2
  refine ⟨m3, ?_, d2.frm f3 (by simp) (by simp), (f1.trans f2).trans (f3.mono (by simp))⟩
  refine tst_true (m1 := m2) (ds := [r]) (cons_any (app_any (ds := [.ref l, .int (b + jn : Nat), .ref nm]) (m1 := m1) ?_ e2) nil_any) e3
  exact cons_any (var_any h1) (cons_any (bin_any C_any (app_any (ds := [.ref l, .int k]) (m1 := m) (cons_any (var_any h1) (cons_any C_any nil_any)) e1) (by simp)) (cons_any (var_any h2) nil_any))
theorem pure_law : ∀ (ns : List Int) (o : MO), (o = .lst (ns.map .int) ∨ o = .frl (ns.map .int)) → ns.length ≤ 63 → ∃ m', F_law [.ref 0] [o] = .ok (.bl true) m' := by
  intro zs o ho hlen
  obtain ⟨l, p, m1, e1, d1⟩ : ∃ l p m', F__law_start [.ref 0] [o] = .ok (.ref l) m' ∧ Drw m' l p := start_ok (x := 12007) (a := 31121) (c := 2147483477) (d := 4211) (e := 2147483549) (q := 9587) (by decide) (by decide) (by decide) (by decide) (by decide) (by decide) ho hlen
  obtain ⟨nm, ns, m2, e2, d2, g2, hn, hl4, hle, f2⟩ : ∃ (r : Nat) (ns : List Str) (m' : Mem), F__law_names [.ref l, .int (4 : Nat)] m1 = .ok (.ref r) m' ∧ Drw m' l p ∧ m'[r]? = some (.lst (ns.map .str)) ∧ (∀ x ∈ ns, NmOk x) ∧ ns.length = 4 ∧ m1.length ≤ r ∧ Frm [l] m1 m' := names_ok hNext d1 (many := 4) (by decide)
  have hl : l < m1.length := by obtain ⟨_, _, _, h, _⟩ := id d1; exact lt_of_get h
  have hnl : nm ≠ l := by omega
  match ns, hl4 with
  | [w1, w2, w3, w4], _ =>
  have o1 : NmOk w1 := hn _ (by simp)
  have o2 : NmOk w2 := hn _ (by simp)
  have o3 : NmOk w3 := hn _ (by simp)
  have o4 : NmOk w4 := hn _ (by simp)
  have t1 : dSet 1 (dApp F__law_start [] (dCons (dVar 0) dNil)) [some (.ref 0), none, none, none, none, none, none, none, none, none] [o] = .nx [some (.ref 0), some (.ref l), none, none, none, none, none, none, none, none] m1 := set_call (ds := [.ref 0]) (cons_any (var_any rfl) nil_any) e1
  have t2 : dSet 2 (dApp F__law_names [] (dCons (dVar 1) (dCons (dC (.int 4)) dNil))) [some (.ref 0), some (.ref l), none, none, none, none, none, none, none, none] m1 = .nx [some (.ref 0), some (.ref l), some (.ref nm), none, none, none, none, none, none, none] m2 := set_call (ds := [.ref l, .int (4 : Nat)]) (cons_any (var_any rfl) (cons_any C_any nil_any)) e2
  have t3 : dAsg (dVar 2) (γTL 4 (γCons (γName 5) (γCons (γName 6) (γCons (γName 7) (γCons (γName 8) γNil))))) [some (.ref 0), some (.ref l), some (.ref nm), none, none, none, none, none, none, none] m2 = .nx [some (.ref 0), some (.ref l), some (.ref nm), none, none, some (.str w1), some (.str w2), some (.str w3), some (.str w4), none] m2 := by
    simp [g2]
  obtain ⟨m3, e3, d3, f3⟩ := one_ask d2 g2 hnl hn (by simp) (ρ := [some (.ref 0), some (.ref l), some (.ref nm), none, none, some (.str w1), some (.str w2), some (.str w3), some (.str w4), none]) rfl rfl (b := 1) (k := 6) (by decide) (by decide) (by decide)
  have g3 := f3.get g2 (by simpa using hnl)
  obtain ⟨m4, e4, d4, f4⟩ := one_ask d3 g3 hnl hn (by simp) (ρ := [some (.ref 0), some (.ref l), some (.ref nm), none, none, some (.str w1), some (.str w2), some (.str w3), some (.str w4), none]) rfl rfl (b := 3) (k := 4) (by decide) (by decide) (by decide)
  have g4 := f4.get g3 (by simpa using hnl)
  let I := innerD w1 w2 w3 w4
  have oI : RuleOk I := innerD_ok o1 o2 o3 o4
  have nI : I.nodes ≤ 30 := innerD_nodes
  let J : D := .tup [.str "or", .tup [.tup [.str "same", .str w4], I]]
  have oJ : RuleOk J := .nary (.inl rfl) (.cons (.leaf2 (.inr rfl) o4.1) (.cons oI .nil))
  have nJ : J.nodes ≤ 60 := by simp only [J, D.nodes, D.nodesAll]; omega
  obtain ⟨m5, e5, f5⟩ := asked_ok oJ (by omega) m4
  have ne1 : ("but" : Str) ≠ "or" := by decide
  have ne2 : ("but" : Str) ≠ "and" := by decide
  let B : D := .tup [.str "but", .tup [.str "direct", .str w1], .tup [.str "same", .str w2]]
  let A : D := .tup [.str "and", .tup [.tup [.str "by", .str w3, .str w4], .tup [.str "direct", .str w1]]]
  have hI : I = .tup [.str "but", B, A] := rfl
  have p1 : partAt I [1] = some A := by rw [hI]; simp [partAt, inner]
  have p0 : partAt I [0] = some B := by rw [hI]; simp [partAt, inner]
  have p01 : partAt I [0, 1] = some (.tup [.str "same", .str w2]) := by rw [hI]; simp [partAt, inner, B]
  have u1 : wout I [1] = some B := by rw [hI]; simp [wout, partAt, lessD, putAt]
  have u0 : wout I [0] = none := by rw [hI]; simp [wout, partAt, lessD]
  have u01 : wout I [0, 1] = some (.tup [.str "but", .tup [.str "direct", .str w1], A]) := by rw [hI]; simp [wout, partAt, lessD, putAt, inner, B, withD]
  have pl : ∀ p : List Int, (p.all fun i => decide (0 ≤ i)) = true → Pl p := fun p h i hi => by
    have := List.all_eq_true.mp h i hi
    exact of_decide_eq_true this
  have e6 := without_ok oI (by omega) (pl [1] rfl) (by decide) p1 m5
  rw [u1] at e6
  have oB : RuleOk B := .but (.leaf2 (.inl rfl) o1.1) (.leaf2 (.inr rfl) o2.1)
  have nB : B.nodes ≤ 30 := by simp [B, D.nodes, D.nodesAll]
  obtain ⟨m6, e7, f6⟩ := same_self (M := m5) oB.okS (by omega)
  rw [← same_fn] at e7
  have e8 := told_ok oI (by omega) (pl [0] rfl) (by decide) p0 m6
  rw [u0] at e8
  let m7 := m6 ++ [MO.lst [D.str "place"]]
  let m8 := m7 ++ [MO.lst [D.str "place"]]
  have pok : (D.str "place").okS = true := by decide +kernel
  obtain ⟨m9, e9, f9⟩ := same_ok (M := m8) (a := .ref m6.length) (b := .ref m7.length) (SameP.lst (ps := []) (xs := [.str "place"]) (ys := [.str "place"]) (get_old get_new) get_new rfl (by
    show SameP m8 [(D.str "place", D.str "place")] 1
    exact .one rfl pok .nil)) (by omega)
  rw [← same_fn] at e9
  have e10 := without_ok oI (by omega) (pl [0, 1] rfl) (by decide) p01 m9
  rw [u01] at e10
  let C : D := .tup [.str "but", .tup [.str "direct", .str w1], A]
  have oC : RuleOk C := .but (.leaf2 (.inl rfl) o1.1) (.nary (.inr rfl) (.cons (.leaf3 o3.1 o4.1) (.cons (.leaf2 (.inl rfl) o1.1) .nil)))
  have nC : C.nodes ≤ 30 := by simp [C, A, D.nodes, D.nodesAll]
  obtain ⟨m10, e11, f10⟩ := same_self (M := m9) oC.okS (by omega)
  rw [← same_fn] at e11
  have f4_10 : Frm [] m4 m10 := ((((f5.trans f6).trans Frm.app).trans Frm.app).trans f9).trans f10
  have d10 : Drw m10 l p := d4.frm f4_10 (by simp) (by simp)
  have g10 := f4_10.get g4 (by simp)
  obtain ⟨j, w, m11, e12, a12, b12, h12, hw12, d11, f11⟩ : ∃ j x m', dBin opIxM (dLst (dCons (dC (.str "or")) (dCons (dC (.str "and")) dNil))) (dApp F__law_next [] (dCons (dVar 1) (dCons (dC (.int 2)) dNil))) [some (.ref 0), some (.ref l), some (.ref nm), some I, none, some (.str w1), some (.str w2), some (.str w3), some (.str w4), none] m10 = .ok x m' ∧ 0 ≤ j ∧ j < (2 : Int) ∧ atI [D.str "or", .str "and"] j = some x ∧ x ∈ [D.str "or", .str "and"] ∧ Drw m' l p ∧ Frm [l] m10 m' := by
    have hd1 : Drw (m10 ++ [.lst [D.str "or", .str "and"]]) l p := d10.frm (ls := []) Frm.app (by simp) (by simp)
    obtain ⟨j, m11, e1, a1, b1, f1, d1, _⟩ := hNext.ok hd1 (many := 2) (by decide)
    have hl' : l < m10.length := by obtain ⟨_, _, _, h, _⟩ := id d10; exact lt_of_get h
    have g1 : m11[m10.length]? = some (.lst [D.str "or", .str "and"]) := f1.get get_new (by simp; omega)
    have hj : j.toNat < [D.str "or", .str "and"].length := by simp; omega
    have h4 : atI [D.str "or", .str "and"] j = some [D.str "or", .str "and"][j.toNat] := at_int a1 (List.getElem?_eq_getElem hj)
    refine ⟨j, _, m11, ?_, a1, b1, h4, List.getElem_mem _, d1, Frm.app.trans f1⟩
    refine bin_any (x := .ref m10.length) (y := .int j) (m1 := m10 ++ [.lst [D.str "or", .str "and"]]) (m2 := m11) ?_ (app_any (cons_any (var_any rfl) (cons_any C_any nil_any)) e1) (by rw [ev_ix_l g1, h4])
    rw [ev_lst, cons_any C_any (cons_any C_any nil_any), ev_bind, if_pos (by decide)]
  obtain ⟨wy, rfl, hwy⟩ : ∃ wy : Str, w = .str wy ∧ (wy = "or" ∨ wy = "and") := by
    simp only [List.mem_cons, List.not_mem_nil, or_false] at hw12
    rcases hw12 with rfl | rfl
    · exact ⟨_, rfl, .inl rfl⟩
    · exact ⟨_, rfl, .inr rfl⟩
  have g11 := f11.get g10 (by simpa using hnl)
  obtain ⟨ys, m12, e13, g13, hy, oy, d12, f12⟩ := leaves_lc hNext d11 g11 hnl hn (by simp) (φ := dRange1 (dC (.int 11))) (γ := γName 9) (f := dApp F__law_leaf [] (dCons (dVar 1) (dCons (dVar 2) dNil))) (vs := [9]) (ρ := [some (.ref 0), some (.ref l), some (.ref nm), some I, none, some (.str w1), some (.str w2), some (.str w3), some (.str w4), none]) (s := ⟨rngD 0 1 11, none⟩) (fun y => y) (by rfl) rfl (fun d _ m' => ⟨[some (.ref 0), some (.ref l), some (.ref nm), some I, none, some (.str w1), some (.str w2), some (.str w3), some (.str w4), some d], rfl, fun r m2 e => app_any (ds := [.ref l, .ref nm]) (cons_any (var_any rfl) (cons_any (var_any rfl) nil_any)) e⟩) (by rw [rngD_len]; decide)
  rw [List.map_id'] at g13
  rw [rngD_len] at hy
  let W : D := .tup [.str wy, .tup ys]
  have oW : RuleOk W := .nary hwy (RulesOk.of fun y hy => (oy y hy).1)
  have nW : W.nodes ≤ 60 := by
    have : ∀ ys : List D, (∀ y ∈ ys, RuleOk y ∧ y.nodes ≤ 5) → D.nodesAll ys ≤ 5 * ys.length := fun ys => by
      induction ys with
      | nil => simp [D.nodesAll]
      | cons y ys ih =>
        intro h
        have h1 := (h y List.mem_cons_self).2
        have h2 := ih fun y hy => h y (List.mem_cons_of_mem _ hy)
        simp [D.nodesAll]; omega
    have := this ys oy
    simp only [W, D.nodes, D.nodesAll]; omega
  obtain ⟨m13, e14, _⟩ := asked_ok oW (by omega) m12
  refine ⟨m13, ?_⟩
  let ρ0 : En := [some (.ref 0), some (.ref l), some (.ref nm), none, none, some (.str w1), some (.str w2), some (.str w3), some (.str w4), none]
  let ρ1 : En := [some (.ref 0), some (.ref l), some (.ref nm), some I, none, some (.str w1), some (.str w2), some (.str w3), some (.str w4), none]
  have t4 : dIfS (dOr (dNot (dTru (dApp F__law_asked [] (dCons (dApp F__law_drawn [] (dCons (dVar 1) (dCons (dBin opAdd (dC (.int 1)) (dApp F__law_next [] (dCons (dVar 1) (dCons (dC (.int 6)) dNil)))) (dCons (dVar 2) dNil)))) dNil)))) (dNot (dTru (dApp F__law_asked [] (dCons (dApp F__law_drawn [] (dCons (dVar 1) (dCons (dBin opAdd (dC (.int 3)) (dApp F__law_next [] (dCons (dVar 1) (dCons (dC (.int 4)) dNil)))) (dCons (dVar 2) dNil)))) dNil))))) (dRet (dC (.bl false))) dNext ρ0 m2 = .nx ρ0 m4 :=
    if_false (or_false_ e3 e4)
  have t5 : dSet 3 (dTup (dCons (dC (.str "but")) (dCons (dTup (dCons (dC (.str "but")) (dCons (dTup (dCons (dC (.str "direct")) (dCons (dVar 5) dNil))) (dCons (dTup (dCons (dC (.str "same")) (dCons (dVar 6) dNil))) dNil)))) (dCons (dTup (dCons (dC (.str "and")) (dCons (dTup (dCons (dTup (dCons (dC (.str "by")) (dCons (dVar 7) (dCons (dVar 8) dNil)))) (dCons (dTup (dCons (dC (.str "direct")) (dCons (dVar 5) dNil))) dNil))) dNil))) dNil)))) ρ0 m4 = .nx ρ1 m4 := by
    refine set_any (d := I) ?_
    simp [ρ0, I, innerD]
  have i1 : ∀ m, opIxM I (.int 1) m = .ok B m := fun m => by rw [hI, ev_ix_t, at_1]
  have i2 : ∀ m, opIxM I (.int 2) m = .ok A m := fun m => by rw [hI, ev_ix_t, at_2]
  have t6 : dIfS (dOr (dNot (dTru (dApp F__law_asked [] (dCons (dTup (dCons (dC (.str "or")) (dCons (dTup (dCons (dTup (dCons (dC (.str "same")) (dCons (dVar 8) dNil))) (dCons (dVar 3) dNil))) dNil))) dNil)))) (dOr (dNot (dTru (dApp F__law_same [] (dCons (dApp F_without_part [] (dCons (dVar 3) (dCons (dTup (dCons (dC (.int 1)) dNil)) dNil))) (dCons (dBin opIxM (dVar 3) (dC (.int 1))) dNil))))) (dNot (dTru (dApp F__law_same [] (dCons (dApp F__law_told [] (dCons (dVar 3) (dCons (dTup (dCons (dC (.int 0)) dNil)) dNil))) (dCons (dLst (dCons (dC (.str "place")) dNil)) dNil))))))) (dRet (dC (.bl false))) dNext ρ1 m4 = .nx ρ1 m9 := by
    refine if_false (or_false_ (m1 := m5) (tst_true (ds := [J]) (m1 := m4) ?_ e5) (or_false_ (m1 := m6) (tst_true (ds := [B, B]) (m1 := m5) ?_ e7) (tst_true (ds := [.ref m6.length, .ref m7.length]) (m1 := m8) ?_ e9)))
    · exact cons_any (tup_any (cons_any C_any (cons_any (tup_any (cons_any (tup_any (cons_any C_any (cons_any (var_any rfl) nil_any)) (by simp)) (cons_any (var_any rfl) nil_any)) (by simp)) nil_any)) (by simp)) nil_any
    · exact cons_any (app_any (ds := [I, plD [1]]) (cons_any (var_any rfl) (cons_any (tup_any (cons_any C_any nil_any) (by simp)) nil_any)) e6) (cons_any (bin_any (var_any rfl) C_any (i1 m5)) nil_any)
    · refine cons_any (m1 := m7) (app_any (ds := [I, plD [0]]) (m1 := m6) (cons_any (var_any rfl) (cons_any (tup_any (cons_any C_any nil_any) (by simp)) nil_any)) e8) (cons_any (m1 := m8) ?_ nil_any)
      rw [ev_lst, cons_any C_any nil_any, ev_bind, if_pos (by decide)]
  have t7 : dIfS (dNot (dTru (dApp F__law_same [] (dCons (dAppK F_without_part [1, 0] (dCons (dTup (dCons (dC (.int 0)) (dCons (dC (.int 1)) dNil))) (dCons (dVar 3) dNil))) (dCons (dTup (dCons (dC (.str "but")) (dCons (dTup (dCons (dC (.str "direct")) (dCons (dVar 5) dNil))) (dCons (dBin opIxM (dVar 3) (dC (.int 2))) dNil)))) dNil))))) (dRet (dC (.bl false))) dNext ρ1 m9 = .nx ρ1 m10 := by
    refine if_false (tst_true (ds := [C, C]) (m1 := m9) ?_ e11)
    refine cons_any (call_K (ds := [plD [0, 1], I]) (es := [I, plD [0, 1]]) (m1 := m9) (cons_any (tup_any (cons_any C_any (cons_any C_any nil_any)) (by simp)) (cons_any (var_any rfl) nil_any)) rfl rfl e10) (cons_any ?_ nil_any)
    exact tup_any (cons_any C_any (cons_any (tup_any (cons_any C_any (cons_any (var_any rfl) nil_any)) (by simp)) (cons_any (bin_any (var_any rfl) C_any (i2 m9)) nil_any))) (by simp)
  have t8 : dSet 4 (dTup (dCons (dBin opIxM (dLst (dCons (dC (.str "or")) (dCons (dC (.str "and")) dNil))) (dApp F__law_next [] (dCons (dVar 1) (dCons (dC (.int 2)) dNil)))) (dCons (dCall (fn1 opTuple) (dCons (dLc (dRange1 (dC (.int 11))) (γName 9) dYes (dApp F__law_leaf [] (dCons (dVar 1) (dCons (dVar 2) dNil))) [9]) dNil)) dNil))) ρ1 m10 = .nx (ρ1.set 4 (some W)) m12 := by
    refine set_any (tup_any (ds := [.str wy, .tup ys]) (cons_any e12 (cons_any ?_ nil_any)) (by simp))
    rw [ev_call, cons_any e13 nil_any, ev_bind, ev_fn1, opT_l g13]
  have t9 : dRet (dApp F__law_asked [] (dCons (dVar 4) dNil)) (ρ1.set 4 (some W)) m12 = .rt (.bl true) m13 := by
    rw [ev_ret, app_any (ds := [W]) (cons_any (var_any rfl) nil_any) e14, ev_goes]
  unfold F_law
  rw [run_eq (np := 1) rfl]
  show (g_law [some (.ref 0), none, none, none, none, none, none, none, none, none] [o]).val = _
  unfold g_law
  rw [ev_seq, t1, ev_thn_nx, ev_seq, t2, ev_thn_nx, ev_seq, t3, ev_thn_nx, ev_seq]
  rw [t4, ev_thn_nx, ev_seq, t5, ev_thn_nx, ev_seq, t6, ev_thn_nx, ev_seq, t7, ev_thn_nx, ev_seq, t8, ev_thn_nx, t9, ev_val_rt]
end DL.k01
namespace DL.k01
open PySem PySem.Spec L2 PyProof.Rows DL
abbrev i_BadStep : Stmt := clsS (topS 2) 0
theorem si_BadStep : FnScope ["self", "word"] ["self", "word"] (defScope i_BadStep) := ⟨rfl, rfl, rfl, by decide +kernel, rfl, by decide +kernel, by decide +kernel⟩
def spLaw (K : PySem.W.Frag) : Sp := fun vs H Q _ => ∃ (a : Addr) (ns : List Int), vs = [.ref a] ∧ SqL K H a (ns.map V.int) ∧ ns.length ≤ 63 ∧ ∀ H', Q (.bl true) H'
theorem sp_law {K : PySem.W.Frag} {w : World} {mg : Str → Option Value} {vs : List V} {H : Hp} {Q : VK} {E : XK} (h : spLaw K vs H Q E) : spD K w mg 1 F_law vs H Q E := by
  obtain ⟨a, ns, rfl, hS, hl, q⟩ := h
  exact law_start (fun o ho => pure_law ns o ho hl) hS q
theorem all_mk {P : Program} {w : World} {K : PySem.W.Frag} {h : Heap} {mg : Str → Option Value} {fa : Addr} (X : K.In h) (G : h.Ns mainGlobals mg) (hfa : mg "law" = some (.ref fa))
    {C0 I0 N0 : Addr} {nm0 q0 : Str} {bs0 bm0 : List Value} {sn0 : List Str} {sub0 : List Value} {ab0 : Bool} {col0 : Option Bool} {dd0 : Option Addr} {x00 x10 x20 x30 x50 : Option Value} {iod0 ian0 : Option Addr} {isl0 : Array (Option Value)} {ioc0 ikV0 idc0 ipm0 icd0 ict0 : Value}
    {f0 : Addr} {od0 an0 : Option Addr} {sl0 : Array (Option Value)} {oc0 kV0 dc0 pm0 cd0 ct0 : Value}
    {f1 : Addr} {od1 an1 : Option Addr} {sl1 : Array (Option Value)} {oc1 kV1 dc1 pm1 cd1 ct1 : Value}
    {f2 : Addr} {od2 an2 : Option Addr} {sl2 : Array (Option Value)} {oc2 kV2 dc2 pm2 cd2 ct2 : Value}
    {f3 : Addr} {od3 an3 : Option Addr} {sl3 : Array (Option Value)} {oc3 kV3 dc3 pm3 cd3 ct3 : Value}
    {f4 : Addr} {od4 an4 : Option Addr} {sl4 : Array (Option Value)} {oc4 kV4 dc4 pm4 cd4 ct4 : Value}
    {f5 : Addr} {od5 an5 : Option Addr} {sl5 : Array (Option Value)} {oc5 kV5 dc5 pm5 cd5 ct5 : Value}
    {f6 : Addr} {od6 an6 : Option Addr} {sl6 : Array (Option Value)} {oc6 kV6 dc6 pm6 cd6 ct6 : Value}
    {f7 : Addr} {od7 an7 : Option Addr} {sl7 : Array (Option Value)} {oc7 kV7 dc7 pm7 cd7 ct7 : Value}
    {f8 : Addr} {od8 an8 : Option Addr} {sl8 : Array (Option Value)} {oc8 kV8 dc8 pm8 cd8 ct8 : Value}
    {f9 : Addr} {od9 an9 : Option Addr} {sl9 : Array (Option Value)} {oc9 kV9 dc9 pm9 cd9 ct9 : Value}
    {f10 : Addr} {od10 an10 : Option Addr} {sl10 : Array (Option Value)} {oc10 kV10 dc10 pm10 cd10 ct10 : Value}
    {f11 : Addr} {od11 an11 : Option Addr} {sl11 : Array (Option Value)} {oc11 kV11 dc11 pm11 cd11 ct11 : Value}
    {f12 : Addr} {od12 an12 : Option Addr} {sl12 : Array (Option Value)} {oc12 kV12 dc12 pm12 cd12 ct12 : Value}
    {f13 : Addr} {od13 an13 : Option Addr} {sl13 : Array (Option Value)} {oc13 kV13 dc13 pm13 cd13 ct13 : Value}
    {f14 : Addr} {od14 an14 : Option Addr} {sl14 : Array (Option Value)} {oc14 kV14 dc14 pm14 cd14 ct14 : Value}
    {f15 : Addr} {od15 an15 : Option Addr} {sl15 : Array (Option Value)} {oc15 kV15 dc15 pm15 cd15 ct15 : Value}
    {f16 : Addr} {od16 an16 : Option Addr} {sl16 : Array (Option Value)} {oc16 kV16 dc16 pm16 cd16 ct16 : Value}
    {f17 : Addr} {od17 an17 : Option Addr} {sl17 : Array (Option Value)} {oc17 kV17 dc17 pm17 cd17 ct17 : Value}
    (aC0 : PySem.W.nsIn K mainGlobals "BadStep" = some (some (.ref C0)))
    (xL0 : K.lookup C0 = some (excClassObj nm0 q0 C0 N0 bs0 bm0 true sn0 sub0 ab0 col0 dd0 x00 x10 x20 x30 x50 "ValueError.__new__"))
    (bm_0 : PySem.HandSPX.refsVE bm0 = true)
    (sa0 : PySem.W.findIn K (.ref C0) "__setattr__" = some (some (.builtin "object.__setattr__")))
    (ga0 : PySem.W.findIn K (.ref C0) "__getattribute__" = some (some (.builtin "BaseException.__getattribute__")))
    (gg0 : PySem.W.findIn K (.ref C0) "__getattr__" = some none)
    (no0_word : PySem.W.findIn K (.ref C0) "word" = some none)
    (in0 : PySem.W.findIn K (.ref C0) "__init__" = some (some (.ref I0)))
    (ti0 : PySem.W.typeIn K (.ref I0) = some (.type "function"))
    (kC0 : PySem.W.keepIn K (.ref C0) = true)
    (eC0 : PySem.W.subIn K (.ref C0) (.type "BaseException") = some true)
    (tC0 : PySem.W.typeIn K (.ref C0) = some (.type "type"))
    (hC0 : PySem.W.hasDictIn K C0 = true)
    (te0 : PySem.W.exmOne K (.ref C0) (.ref C0) = some true)
    (il0 : K.lookup I0 = some ⟨ioc0, iod0, .func (PySem.W.fnOf "__init__" "BadStep.__init__" (defArgs i_BadStep) (defBody i_BadStep) (defScope i_BadStep) .none ikV0 idc0 ipm0 ian0 icd0 ict0), isl0⟩)
    (ic0 : PySem.W.codeIn K icd0 "BadStep.__init__" = true)
    (ik0 : PySem.W.keepIn K (.ref I0) = true)
    (a0 : PySem.W.nsIn K mainGlobals "inner_rules" = some (some (.ref f0)))
    (l0 : K.lookup f0 = some ⟨oc0, od0, .func (PySem.W.fnOf "inner_rules" "inner_rules" (defArgs s_inner_rules) (defBody s_inner_rules) (defScope s_inner_rules) .none kV0 dc0 pm0 an0 cd0 ct0), sl0⟩)
    (c0 : PySem.W.codeIn K cd0 "inner_rules" = true)
    (k0 : PySem.W.keepIn K (.ref f0) = true)
    (a1 : PySem.W.nsIn K mainGlobals "rule_parts" = some (some (.ref f1)))
    (l1 : K.lookup f1 = some ⟨oc1, od1, .func (PySem.W.fnOf "rule_parts" "rule_parts" (defArgs s_rule_parts) (defBody s_rule_parts) (defScope s_rule_parts) .none kV1 dc1 pm1 an1 cd1 ct1), sl1⟩)
    (c1 : PySem.W.codeIn K cd1 "rule_parts" = true)
    (k1 : PySem.W.keepIn K (.ref f1) = true)
    (a2 : PySem.W.nsIn K mainGlobals "part_at" = some (some (.ref f2)))
    (l2 : K.lookup f2 = some ⟨oc2, od2, .func (PySem.W.fnOf "part_at" "part_at" (defArgs s_part_at) (defBody s_part_at) (defScope s_part_at) .none kV2 dc2 pm2 an2 cd2 ct2), sl2⟩)
    (c2 : PySem.W.codeIn K cd2 "part_at" = true)
    (k2 : PySem.W.keepIn K (.ref f2) = true)
    (a3 : PySem.W.nsIn K mainGlobals "rule_with" = some (some (.ref f3)))
    (l3 : K.lookup f3 = some ⟨oc3, od3, .func (PySem.W.fnOf "rule_with" "rule_with" (defArgs s_rule_with) (defBody s_rule_with) (defScope s_rule_with) .none kV3 dc3 pm3 an3 cd3 ct3), sl3⟩)
    (c3 : PySem.W.codeIn K cd3 "rule_with" = true)
    (k3 : PySem.W.keepIn K (.ref f3) = true)
    (a4 : PySem.W.nsIn K mainGlobals "put_part" = some (some (.ref f4)))
    (l4 : K.lookup f4 = some ⟨oc4, od4, .func (PySem.W.fnOf "put_part" "put_part" (defArgs s_put_part) (defBody s_put_part) (defScope s_put_part) .none kV4 dc4 pm4 an4 cd4 ct4), sl4⟩)
    (c4 : PySem.W.codeIn K cd4 "put_part" = true)
    (k4 : PySem.W.keepIn K (.ref f4) = true)
    (a5 : PySem.W.nsIn K mainGlobals "without_part" = some (some (.ref f5)))
    (l5 : K.lookup f5 = some ⟨oc5, od5, .func (PySem.W.fnOf "without_part" "without_part" (defArgs s_without_part) (defBody s_without_part) (defScope s_without_part) .none kV5 dc5 pm5 an5 cd5 ct5), sl5⟩)
    (c5 : PySem.W.codeIn K cd5 "without_part" = true)
    (k5 : PySem.W.keepIn K (.ref f5) = true)
    (a6 : PySem.W.nsIn K mainGlobals "_law_start" = some (some (.ref f6)))
    (l6 : K.lookup f6 = some ⟨oc6, od6, .func (PySem.W.fnOf "_law_start" "_law_start" (defArgs s__law_start) (defBody s__law_start) (defScope s__law_start) .none kV6 dc6 pm6 an6 cd6 ct6), sl6⟩)
    (c6 : PySem.W.codeIn K cd6 "_law_start" = true)
    (k6 : PySem.W.keepIn K (.ref f6) = true)
    (a7 : PySem.W.nsIn K mainGlobals "_law_next" = some (some (.ref f7)))
    (l7 : K.lookup f7 = some ⟨oc7, od7, .func (PySem.W.fnOf "_law_next" "_law_next" (defArgs s__law_next) (defBody s__law_next) (defScope s__law_next) .none kV7 dc7 pm7 an7 cd7 ct7), sl7⟩)
    (c7 : PySem.W.codeIn K cd7 "_law_next" = true)
    (k7 : PySem.W.keepIn K (.ref f7) = true)
    (a8 : PySem.W.nsIn K mainGlobals "_law_same" = some (some (.ref f8)))
    (l8 : K.lookup f8 = some ⟨oc8, od8, .func (PySem.W.fnOf "_law_same" "_law_same" (defArgs s__law_same) (defBody s__law_same) (defScope s__law_same) .none kV8 dc8 pm8 an8 cd8 ct8), sl8⟩)
    (c8 : PySem.W.codeIn K cd8 "_law_same" = true)
    (k8 : PySem.W.keepIn K (.ref f8) = true)
    (a9 : PySem.W.nsIn K mainGlobals "_law_names" = some (some (.ref f9)))
    (l9 : K.lookup f9 = some ⟨oc9, od9, .func (PySem.W.fnOf "_law_names" "_law_names" (defArgs s__law_names) (defBody s__law_names) (defScope s__law_names) .none kV9 dc9 pm9 an9 cd9 ct9), sl9⟩)
    (c9 : PySem.W.codeIn K cd9 "_law_names" = true)
    (k9 : PySem.W.keepIn K (.ref f9) = true)
    (a10 : PySem.W.nsIn K mainGlobals "_law_leaf" = some (some (.ref f10)))
    (l10 : K.lookup f10 = some ⟨oc10, od10, .func (PySem.W.fnOf "_law_leaf" "_law_leaf" (defArgs s__law_leaf) (defBody s__law_leaf) (defScope s__law_leaf) .none kV10 dc10 pm10 an10 cd10 ct10), sl10⟩)
    (c10 : PySem.W.codeIn K cd10 "_law_leaf" = true)
    (k10 : PySem.W.keepIn K (.ref f10) = true)
    (a11 : PySem.W.nsIn K mainGlobals "_law_drawn" = some (some (.ref f11)))
    (l11 : K.lookup f11 = some ⟨oc11, od11, .func (PySem.W.fnOf "_law_drawn" "_law_drawn" (defArgs s__law_drawn) (defBody s__law_drawn) (defScope s__law_drawn) .none kV11 dc11 pm11 an11 cd11 ct11), sl11⟩)
    (c11 : PySem.W.codeIn K cd11 "_law_drawn" = true)
    (k11 : PySem.W.keepIn K (.ref f11) = true)
    (a12 : PySem.W.nsIn K mainGlobals "_law_inner" = some (some (.ref f12)))
    (l12 : K.lookup f12 = some ⟨oc12, od12, .func (PySem.W.fnOf "_law_inner" "_law_inner" (defArgs s__law_inner) (defBody s__law_inner) (defScope s__law_inner) .none kV12 dc12 pm12 an12 cd12 ct12), sl12⟩)
    (c12 : PySem.W.codeIn K cd12 "_law_inner" = true)
    (k12 : PySem.W.keepIn K (.ref f12) = true)
    (a13 : PySem.W.nsIn K mainGlobals "_law_placed" = some (some (.ref f13)))
    (l13 : K.lookup f13 = some ⟨oc13, od13, .func (PySem.W.fnOf "_law_placed" "_law_placed" (defArgs s__law_placed) (defBody s__law_placed) (defScope s__law_placed) .none kV13 dc13 pm13 an13 cd13 ct13), sl13⟩)
    (c13 : PySem.W.codeIn K cd13 "_law_placed" = true)
    (k13 : PySem.W.keepIn K (.ref f13) = true)
    (a14 : PySem.W.nsIn K mainGlobals "_law_less" = some (some (.ref f14)))
    (l14 : K.lookup f14 = some ⟨oc14, od14, .func (PySem.W.fnOf "_law_less" "_law_less" (defArgs s__law_less) (defBody s__law_less) (defScope s__law_less) .none kV14 dc14 pm14 an14 cd14 ct14), sl14⟩)
    (c14 : PySem.W.codeIn K cd14 "_law_less" = true)
    (k14 : PySem.W.keepIn K (.ref f14) = true)
    (a15 : PySem.W.nsIn K mainGlobals "_law_told" = some (some (.ref f15)))
    (l15 : K.lookup f15 = some ⟨oc15, od15, .func (PySem.W.fnOf "_law_told" "_law_told" (defArgs s__law_told) (defBody s__law_told) (defScope s__law_told) .none kV15 dc15 pm15 an15 cd15 ct15), sl15⟩)
    (c15 : PySem.W.codeIn K cd15 "_law_told" = true)
    (k15 : PySem.W.keepIn K (.ref f15) = true)
    (a16 : PySem.W.nsIn K mainGlobals "_law_asked" = some (some (.ref f16)))
    (l16 : K.lookup f16 = some ⟨oc16, od16, .func (PySem.W.fnOf "_law_asked" "_law_asked" (defArgs s__law_asked) (defBody s__law_asked) (defScope s__law_asked) .none kV16 dc16 pm16 an16 cd16 ct16), sl16⟩)
    (c16 : PySem.W.codeIn K cd16 "_law_asked" = true)
    (k16 : PySem.W.keepIn K (.ref f16) = true)
    (a17 : PySem.W.nsIn K mainGlobals "law" = some (some (.ref f17)))
    (l17 : K.lookup f17 = some ⟨oc17, od17, .func (PySem.W.fnOf "law" "law" (defArgs s_law) (defBody s_law) (defScope s_law) .none kV17 dc17 pm17 an17 cd17 ct17), sl17⟩)
    (c17 : PySem.W.codeIn K cd17 "law" = true)
    (k17 : PySem.W.keepIn K (.ref f17) = true)
    (z_len : PySem.W.nsIn K mainGlobals "len" = some none)
    (z_abs : PySem.W.nsIn K mainGlobals "abs" = some none)
    (z_int : PySem.W.nsIn K mainGlobals "int" = some none)
    (z_str : PySem.W.nsIn K mainGlobals "str" = some none)
    (z_list : PySem.W.nsIn K mainGlobals "list" = some none)
    (z_tuple : PySem.W.nsIn K mainGlobals "tuple" = some none)
    (z_max : PySem.W.nsIn K mainGlobals "max" = some none)
    (z_min : PySem.W.nsIn K mainGlobals "min" = some none)
    (z_sorted : PySem.W.nsIn K mainGlobals "sorted" = some none)
    (z_bool : PySem.W.nsIn K mainGlobals "bool" = some none)
    (z_dict : PySem.W.nsIn K mainGlobals "dict" = some none)
    (z_range : PySem.W.nsIn K mainGlobals "range" = some none)
    (z_reversed : PySem.W.nsIn K mainGlobals "reversed" = some none)
    (z_enumerate : PySem.W.nsIn K mainGlobals "enumerate" = some none)
    (z_isinstance : PySem.W.nsIn K mainGlobals "isinstance" = some none)
    (z_any : PySem.W.nsIn K mainGlobals "any" = some none)
    (z_all : PySem.W.nsIn K mainGlobals "all" = some none) :
    ∃ fd : FuncData, (∀ (s : Shared) (v : Value), BindsTo s fd ⟨[v], []⟩ [("script", v)]) ∧ ∀ base : Heap, K.In base → base.Ns mainGlobals mg → FnOk P w K mg base (L2.CX P w) 7 fa fd ["script"] (spLaw K) := by
  have e := hfa.symm.trans (PySem.W.mg_of X G a17)
  cases e
  have B : Bi mg := ⟨PySem.W.mg_none_of X G z_len, PySem.W.mg_none_of X G z_abs, PySem.W.mg_none_of X G z_int, PySem.W.mg_none_of X G z_str, PySem.W.mg_none_of X G z_list, PySem.W.mg_none_of X G z_tuple, PySem.W.mg_none_of X G z_max, PySem.W.mg_none_of X G z_min, PySem.W.mg_none_of X G z_sorted, PySem.W.mg_none_of X G z_bool, PySem.W.mg_none_of X G z_dict, PySem.W.mg_none_of X G z_range, PySem.W.mg_none_of X G z_reversed, PySem.W.mg_none_of X G z_enumerate, PySem.W.mg_none_of X G z_isinstance, PySem.W.mg_none_of X G z_any, PySem.W.mg_none_of X G z_all⟩
  have F0 := fun_mk (st := s_inner_rules) l0 c0 k0
  have F1 := fun_mk (st := s_rule_parts) l1 c1 k1
  have F2 := fun_mk (st := s_part_at) l2 c2 k2
  have F3 := fun_mk (st := s_rule_with) l3 c3 k3
  have F4 := fun_mk (st := s_put_part) l4 c4 k4
  have F5 := fun_mk (st := s_without_part) l5 c5 k5
  have F6 := fun_mk (st := s__law_start) l6 c6 k6
  have F7 := fun_mk (st := s__law_next) l7 c7 k7
  have F8 := fun_mk (st := s__law_same) l8 c8 k8
  have F9 := fun_mk (st := s__law_names) l9 c9 k9
  have F10 := fun_mk (st := s__law_leaf) l10 c10 k10
  have F11 := fun_mk (st := s__law_drawn) l11 c11 k11
  have F12 := fun_mk (st := s__law_inner) l12 c12 k12
  have F13 := fun_mk (st := s__law_placed) l13 c13 k13
  have F14 := fun_mk (st := s__law_less) l14 c14 k14
  have F15 := fun_mk (st := s__law_told) l15 c15 k15
  have F16 := fun_mk (st := s__law_asked) l16 c16 k16
  have F17 := fun_mk (st := s_law) l17 c17 k17
  have IF0 := fun_mk (st := i_BadStep) il0 ic0 ik0
  refine ⟨PySem.W.fnOf "law" "law" (defArgs s_law) (defBody s_law) (defScope s_law) .none kV17 dc17 pm17 an17 cd17 ct17, fun s v => .of_eq rfl, fun base _ _ => ?_⟩
  have nn0 : ∀ f ∈ (["word"] : List Str), PySem.W.findIn K (.ref C0) f = some none := fun f hf => by
    simp only [List.mem_cons, List.not_mem_nil, or_false] at hf
    subst hf
    · exact no0_word
  have ib0 := IF0.binds (ps := ["self", "word"]) fun _ _ _ _ _ _ us hl => match us, hl with | [_, _], _ => rfl
  have x_BadStep := exc1_mk (P := P) (w := w) (base := base) (fns := ["word"]) (N := ["self", "word"]) (PySem.W.mg_of X G aC0) xL0 bm_0 sa0 ga0 gg0 nn0 in0 ti0 kC0 eC0 tC0 hC0 te0 IF0 si_BadStep ib0 (by decide) (by decide) fun cdv A outer s H E => (pss_cons (ps_ost (pv 0) (pv 1)) pss_nil)
  have c_inner_rules := ok_inner_rules (P := P) (w := w) (base := base) B  (PySem.W.mg_of X G a0) F0
  have c_rule_parts := ok_rule_parts (P := P) (w := w) (base := base) B c_inner_rules (PySem.W.mg_of X G a1) F1
  have c_part_at := ok_part_at (P := P) (w := w) (base := base) B c_inner_rules (PySem.W.mg_of X G a2) F2
  have c_rule_with := ok_rule_with (P := P) (w := w) (base := base) B c_inner_rules (PySem.W.mg_of X G a3) F3
  have c_put_part := ok_put_part (P := P) (w := w) (base := base) B c_rule_with c_part_at (PySem.W.mg_of X G a4) F4
  have c_without_part := ok_without_part (P := P) (w := w) (base := base) B x_BadStep c_part_at c_put_part (PySem.W.mg_of X G a5) F5
  have c__law_start := ok__law_start (P := P) (w := w) (base := base) B  (PySem.W.mg_of X G a6) F6
  have c__law_next := ok__law_next (P := P) (w := w) (base := base) B  (PySem.W.mg_of X G a7) F7
  have c__law_same := ok__law_same (P := P) (w := w) (base := base) B  (PySem.W.mg_of X G a8) F8
  have c__law_names := ok__law_names (P := P) (w := w) (base := base) B c__law_next (PySem.W.mg_of X G a9) F9
  have c__law_leaf := ok__law_leaf (P := P) (w := w) (base := base) B c__law_next (PySem.W.mg_of X G a10) F10
  have c__law_drawn := ok__law_drawn (P := P) (w := w) (base := base) B c__law_next c__law_leaf (PySem.W.mg_of X G a11) F11
  have c__law_inner := ok__law_inner (P := P) (w := w) (base := base) B  (PySem.W.mg_of X G a12) F12
  have c__law_placed := ok__law_placed (P := P) (w := w) (base := base) B c__law_inner (PySem.W.mg_of X G a13) F13
  have c__law_less := ok__law_less (P := P) (w := w) (base := base) B  (PySem.W.mg_of X G a14) F14
  have c__law_told := ok__law_told (P := P) (w := w) (base := base) B x_BadStep c_without_part (PySem.W.mg_of X G a15) F15
  have c__law_asked := ok__law_asked (P := P) (w := w) (base := base) B c__law_placed c__law_same c__law_less c_rule_parts c_part_at c__law_told (PySem.W.mg_of X G a16) F16
  have c_law := ok_law (P := P) (w := w) (base := base) B c__law_start c__law_names c__law_asked c__law_same c_without_part c__law_next c__law_drawn c__law_told c__law_leaf (PySem.W.mg_of X G a17) F17
  exact (cal_at c_law (PySem.W.mg_of X G a17) F17).imp fun vs H Q E h => sp_law h
end DL.k01
open PySem PySem.W PyProof.Rows
set_option maxHeartbeats 0 in
theorem PySem.Challenge.cw_nomoregranted_k01_rule_parts_holds : PySem.Challenge.rw_nomoregranted_k01_rule_parts.Holds := by
  w_on; o_law; k_head; (case hw => w_witness2)
  k_fill
  refine L2.walk_of (l := PySem.Challenge.rw_nomoregranted_k01_rule_parts) (n := 63) (k := 7) (x := "script") (CX := fun w => L2.CX (PySem.Challenge.rw_nomoregranted_k01_rule_parts).prog w) (sp := fun w => DL.k01.spLaw _) rfl (by decide) rfl ⟨rfl, by decide, by decide⟩ (fun w h Y => PySem.W.kIn_of Y) ?F (fun _ _ a ns hl _ hS => ⟨a, ns, rfl, hS, hl, fun _ => rfl⟩) (fun _ _ _ _ _ h => by obtain ⟨_, _, _, _, _, _, _, _, _, _, _, _, z⟩ := h; exact z)
  case F =>
    intro w mg fa h KX G hmg
    refine' DL.k01.all_mk KX G hmg ?aC0 ?xL0 ?bm_0 ?sa0 ?ga0 ?gg0 ?no0_word ?in0 ?ti0 ?kC0 ?eC0 ?tC0 ?hC0 ?te0 ?il0 ?ic0 ?ik0 ?a0 ?l0 ?c0 ?k0 ?a1 ?l1 ?c1 ?k1 ?a2 ?l2 ?c2 ?k2 ?a3 ?l3 ?c3 ?k3 ?a4 ?l4 ?c4 ?k4 ?a5 ?l5 ?c5 ?k5 ?a6 ?l6 ?c6 ?k6 ?a7 ?l7 ?c7 ?k7 ?a8 ?l8 ?c8 ?k8 ?a9 ?l9 ?c9 ?k9 ?a10 ?l10 ?c10 ?k10 ?a11 ?l11 ?c11 ?k11 ?a12 ?l12 ?c12 ?k12 ?a13 ?l13 ?c13 ?k13 ?a14 ?l14 ?c14 ?k14 ?a15 ?l15 ?c15 ?k15 ?a16 ?l16 ?c16 ?k16 ?a17 ?l17 ?c17 ?k17 ?z_len ?z_abs ?z_int ?z_str ?z_list ?z_tuple ?z_max ?z_min ?z_sorted ?z_bool ?z_dict ?z_range ?z_reversed ?z_enumerate ?z_isinstance ?z_any ?z_all
    (case aC0 => k_is)
    (case xL0 => k_is)
    (case bm_0 => first | rfl | decide | k_is)
    (case sa0 => k_is)
    (case ga0 => k_is)
    (case gg0 => k_is)
    (case no0_word => k_is)
    (case in0 => k_is)
    (case ti0 => k_is)
    (case kC0 => k_is)
    (case eC0 => k_is)
    (case tC0 => k_is)
    (case hC0 => k_is)
    (case te0 => first | rfl | k_is)
    (case il0 => k_is)
    (case ic0 => k_is)
    (case ik0 => k_is)
    (case a0 => k_is)
    (case l0 => k_is)
    (case c0 => k_is)
    (case k0 => k_is)
    (case a1 => k_is)
    (case l1 => k_is)
    (case c1 => k_is)
    (case k1 => k_is)
    (case a2 => k_is)
    (case l2 => k_is)
    (case c2 => k_is)
    (case k2 => k_is)
    (case a3 => k_is)
    (case l3 => k_is)
    (case c3 => k_is)
    (case k3 => k_is)
    (case a4 => k_is)
    (case l4 => k_is)
    (case c4 => k_is)
    (case k4 => k_is)
    (case a5 => k_is)
    (case l5 => k_is)
    (case c5 => k_is)
    (case k5 => k_is)
    (case a6 => k_is)
    (case l6 => k_is)
    (case c6 => k_is)
    (case k6 => k_is)
    (case a7 => k_is)
    (case l7 => k_is)
    (case c7 => k_is)
    (case k7 => k_is)
    (case a8 => k_is)
    (case l8 => k_is)
    (case c8 => k_is)
    (case k8 => k_is)
    (case a9 => k_is)
    (case l9 => k_is)
    (case c9 => k_is)
    (case k9 => k_is)
    (case a10 => k_is)
    (case l10 => k_is)
    (case c10 => k_is)
    (case k10 => k_is)
    (case a11 => k_is)
    (case l11 => k_is)
    (case c11 => k_is)
    (case k11 => k_is)
    (case a12 => k_is)
    (case l12 => k_is)
    (case c12 => k_is)
    (case k12 => k_is)
    (case a13 => k_is)
    (case l13 => k_is)
    (case c13 => k_is)
    (case k13 => k_is)
    (case a14 => k_is)
    (case l14 => k_is)
    (case c14 => k_is)
    (case k14 => k_is)
    (case a15 => k_is)
    (case l15 => k_is)
    (case c15 => k_is)
    (case k15 => k_is)
    (case a16 => k_is)
    (case l16 => k_is)
    (case c16 => k_is)
    (case k16 => k_is)
    (case a17 => k_is)
    (case l17 => k_is)
    (case c17 => k_is)
    (case k17 => k_is)
    (case z_len => k_is)
    (case z_abs => k_is)
    (case z_int => k_is)
    (case z_str => k_is)
    (case z_list => k_is)
    (case z_tuple => k_is)
    (case z_max => k_is)
    (case z_min => k_is)
    (case z_sorted => k_is)
    (case z_bool => k_is)
    (case z_dict => k_is)
    (case z_range => k_is)
    (case z_reversed => k_is)
    (case z_enumerate => k_is)
    (case z_isinstance => k_is)
    (case z_any => k_is)
    (case z_all => k_is)
