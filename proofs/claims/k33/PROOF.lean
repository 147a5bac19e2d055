import PyProof.Rows.All
import Wide.All
import OpenK.AllK
import Wide.FinOn
import PyProof.EqAt
import PyProof.EqKinds
import PyProof.TupleCall
import HandS.ForMost
import HandS.ForExc
import HandS.TryMany
import HandS.CallSlots
import HandS.Wide
import HandS.EndBits
import HandS.ExcInit
import HandS.IsInst
import HandS.TupAny
import HandS.Rev
import HandS.TupMul
import HandS.Conv
import HandS.Style
import HandS.More
import HandS.ExcField
import HandS.ExcIs
import HandS.OwnEq
import HandS.Codes
import HandS.TupSets
import HandS.SortOrd
import HandS.SortRule
import PyProof.WalksMore
import PyProof.SumWalkG
import HandS.SortInts
import PyProof.Rows.SortShell
import HandS.NoneIn
import PyProof.EnumMake
import HandS.Small
import HandS.Iter
import PyProof.DictFindH
import PyProof.DictTable
import PySem.Challenge.RW_surelabels_k33_rows_that_rest
set_option Elab.async false
set_option linter.all false
set_option maxRecDepth 100000
set_option maxHeartbeats 4000000
/-! # Values without addresses, and what stands for them in the heap -/
namespace SL
open PySem PySem.Spec PyProof.Rows L2

/-- a value of a running def: data, or the k-th cell of the store (an object that may change) -/
inductive W where
  | non | bl (b : Bool) | int (i : Int) | str (x : Str)
  | tup (xs : List W) | lst (xs : List W) | dct (ks vs : List W)
  | ins (c : Str) (ns : List Str) (vs : List W)
  | cell (k : Nat)
  /-- a list that is locked (the script); a built-in class; an own class -/
  | ro (xs : List W) | ty (n : String) | cls (c : Str)
  deriving Inhabited

inductive Cel where
  | lst (ws : List W) | dct (ks vs : List W) | ins (c : Str) (ns : List Str) (ws : List W) | frz (w : W)
def Cel.live : Cel → Bool
  | .frz _ => false
  | _ => true
abbrev Sto := List Cel
abbrev Fr := List (Option W)

/-- an exception: its class and its fields -/
structure Exc where
  c : Str
  ns : List Str
  vs : List W

inductive Out (α : Type) where
  | ok (a : α) (st : Sto) | err (x : Exc) (st : Sto) | bad
abbrev Sem := Fr → Sto → Out W
abbrev SemL := Fr → Sto → Out (List W)
abbrev SemB := Fr → Sto → Out Bool
abbrev Fn := List W → Sto → Out W
def Out.bind {α β : Type} (o : Out α) (f : α → Sto → Out β) : Out β := match o with
  | .ok a st => f a st
  | .err x st => .err x st
  | .bad => .bad
@[simp] theorem Out.bind_ok {α β : Type} (a : α) (st : Sto) (f : α → Sto → Out β) : (Out.ok a st).bind f = f a st := rfl
@[simp] theorem Out.bind_err {α β : Type} (x : Exc) (st : Sto) (f : α → Sto → Out β) : (Out.err x st).bind f = .err x st := rfl
@[simp] theorem Out.bind_bad {α β : Type} (f : α → Sto → Out β) : (Out.bad).bind f = .bad := rfl

/-! ## what stands for a value -/
def keyW : W → Option Key
  | .int i => some (.inl i)
  | .str x => some (.inr x)
  | _ => none
def keysW : List W → Option (List Key)
  | [] => some []
  | w :: r => match keyW w, keysW r with
    | some k, some ks => some (k :: ks)
    | _, _ => none
def keyT : W → Option (List Key)
  | .tup ws => keysW ws
  | _ => none
def mapO {α β : Type} (f : α → Option β) : List α → Option (List β)
  | [] => some []
  | a :: r => match f a, mapO f r with
    | some b, some bs => some (b :: bs)
    | _, _ => none
/-- how the keys of a dict are told: "L": it is locked (walked); "T": its keys are tuples; "TL": both -/
def kindW : List W → Option (Bool × (List Key ⊕ List (List Key)))
  | .ty t :: ks => if t = "L" then (mapO keyW ks).map fun kk => (true, .inl kk) else if t = "T" then (mapO keyT ks).map fun kk => (false, .inr kk) else if t = "TL" then (mapO keyT ks).map fun kk => (true, .inr kk) else none
  | ks => (mapO keyW ks).map fun kk => (false, .inl kk)
def dObj : (List Key ⊕ List (List Key)) → List V → HO
  | .inl kk, vs => .dK (kk.zip vs)
  | .inr kk, vs => .dT (kk.zip vs)
def dLen : (List Key ⊕ List (List Key)) → Nat
  | .inl kk => kk.length
  | .inr kk => kk.length
/-- a dict of these keys and values stands at a -/
def DctAt (F : Hp) (a : Addr) (ks : List W) (vs : List V) : Prop := ∃ l q, kindW ks = some (l, q) ∧ dLen q = vs.length ∧ Rd F a (dObj q vs) ∧ (l = false → ∀ kk, q = .inr kk → F a = some (.dT (kk.zip vs)))

/-- a tuple: tracked -/
def TupAt (K : PySem.W.Frag) (F : Hp) (a : Addr) (xs : List V) : Prop :=
  F a = some (.tup xs)
theorem TupAt.sq {K : PySem.W.Frag} {F : Hp} {a : Addr} {xs : List V} (h : TupAt K F a xs) : SqT K F a xs := .inl (.inl h)

section
variable (K : PySem.W.Frag) (mg : Str → Option Value) (F : Hp) (μ : List Addr)
mutual
def Rep : W → V → Prop
  | .non, v => v = .non
  | .bl b, v => v = .bl b
  | .int i, v => v = .int i
  | .str x, v => v = .str x
  | .tup ws, v => ∃ a vs, v = .ref a ∧ TupAt K F a vs ∧ Reps ws vs
  | .lst ws, v => ∃ a vs, v = .ref a ∧ F a = some (.lst vs) ∧ Reps ws vs
  | .ro ws, v => ∃ a vs, v = .ref a ∧ SqL K F a vs ∧ Reps ws vs
  | .ty n, v => v = .ty n
  | .cls c, v => ∃ C, mg c = some (.ref C) ∧ v = .ref C
  | .dct ks ws, v => ∃ a vs, v = .ref a ∧ DctAt F a ks vs ∧ Reps ws vs
  | .ins c ns ws, v => ∃ a C dx vs, v = .ref a ∧ mg c = some (.ref C) ∧ ns.length = vs.length ∧ F a = some (.ins C dx (ns.zip vs)) ∧ Reps ws vs
  | .cell k, v => ∃ a, μ[k]? = some a ∧ v = .ref a
def Reps : List W → List V → Prop
  | [], vs => vs = []
  | w :: ws, vs => ∃ v r, vs = v :: r ∧ Rep w v ∧ Reps ws r
end
end

/-- what is never locked -/
def Fix : HO → Prop
  | .dK _ | .frz _ _ => False
  | _ => True
/-- what could be read can be read; all but dicts stands as it stood -/
structure Le (F F' : Hp) : Prop where
  rd : ∀ a u, Rd F a u → Rd F' a u
  fix : ∀ a u, Fix u → F a = some u → F' a = some u
theorem Le.refl (F : Hp) : Le F F := ⟨fun _ _ h => h, fun _ _ _ h => h⟩
theorem Le.trans {F F' F'' : Hp} (x : Le F F') (y : Le F' F'') : Le F F'' := ⟨fun a u h => y.rd a u (x.rd a u h), fun a u f h => y.fix a u f (x.fix a u f h)⟩
theorem Le.of {F F' : Hp} (h : ∀ a o, F a = some o → F' a = some o) : Le F F' := by
  refine ⟨fun a u r => ?_, fun a u _ q => h _ _ q⟩
  rcases r with r | ⟨o, r⟩
  · exact .inl (h _ _ r)
  · exact .inr ⟨o, h _ _ r⟩
theorem Le.lst {F F' : Hp} (x : Le F F') {a : Addr} {vs : List V} (h : F a = some (.lst vs)) : F' a = some (.lst vs) := x.fix _ _ trivial h
theorem Le.ins {F F' : Hp} (x : Le F F') {a C dx : Addr} {fs : List (Str × V)} (h : F a = some (.ins C dx fs)) : F' a = some (.ins C dx fs) := x.fix _ _ trivial h
theorem Le.xd {F F' : Hp} (x : Le F F') {a : Addr} {fs : List (Str × V)} (h : F a = some (.xd fs)) : F' a = some (.xd fs) := x.fix _ _ trivial h
theorem TupAt.le {K : PySem.W.Frag} {F F' : Hp} {a : Addr} {xs : List V} (x : Le F F') (h : TupAt K F a xs) : TupAt K F' a xs := x.fix _ _ trivial h
theorem SqT.le {K : PySem.W.Frag} {F F' : Hp} {a : Addr} {xs : List V} (x : Le F F') (h : SqT K F a xs) : SqT K F' a xs := by
  rcases h with h | h
  · exact .inl (x.rd _ _ h)
  · exact .inr h
theorem SqL.le {K : PySem.W.Frag} {F F' : Hp} {a : Addr} {xs : List V} (x : Le F F') (h : SqL K F a xs) : SqL K F' a xs := by
  rcases h with h | h
  · exact .inl (x.rd _ _ h)
  · exact .inr h
theorem DctAt.le {F F' : Hp} {a : Addr} {ks : List W} {vs : List V} (x : Le F F') (h : DctAt F a ks vs) : DctAt F' a ks vs := by
  obtain ⟨l, q, h1, h2, h3, h4⟩ := h
  exact ⟨l, q, h1, h2, x.rd _ _ h3, fun e kk eq => x.fix _ _ trivial (h4 e kk eq)⟩

def Pre (μ μ' : List Addr) : Prop := ∃ e, μ' = μ ++ e
theorem Pre.refl (μ : List Addr) : Pre μ μ := ⟨[], by simp⟩
theorem Pre.trans {a b c : List Addr} (x : Pre a b) (y : Pre b c) : Pre a c := by
  obtain ⟨e, rfl⟩ := x
  obtain ⟨f, rfl⟩ := y
  exact ⟨e ++ f, by simp⟩
theorem Pre.get {a b : List Addr} (x : Pre a b) {k : Nat} {p : Addr} (h : a[k]? = some p) : b[k]? = some p := by
  obtain ⟨e, rfl⟩ := x
  have hk : k < a.length := by
    rcases Nat.lt_or_ge k a.length with q | q
    · exact q
    · rw [List.getElem?_eq_none q] at h; cases h
  rw [List.getElem?_append_left hk]
  exact h

section
variable {K : PySem.W.Frag} {mg : Str → Option Value} {F F' : Hp} {μ μ' : List Addr}
mutual
theorem Rep.mono (x : Le F F') (p : Pre μ μ') : ∀ (w : W) (v : V), Rep K mg F μ w v → Rep K mg F' μ' w v
  | .non, v, h => by unfold Rep at h ⊢; exact h
  | .bl b, v, h => by unfold Rep at h ⊢; exact h
  | .int i, v, h => by unfold Rep at h ⊢; exact h
  | .str s, v, h => by unfold Rep at h ⊢; exact h
  | .tup ws, v, h => by
    unfold Rep at h ⊢
    obtain ⟨a, vs, e, s, r⟩ := h
    exact ⟨a, vs, e, s.le x, Reps.mono x p ws vs r⟩
  | .lst ws, v, h => by
    unfold Rep at h ⊢
    obtain ⟨a, vs, e, s, r⟩ := h
    exact ⟨a, vs, e, x.lst s, Reps.mono x p ws vs r⟩
  | .ro ws, v, h => by
    unfold Rep at h ⊢
    obtain ⟨a, vs, e, s, r⟩ := h
    exact ⟨a, vs, e, SqL.le x s, Reps.mono x p ws vs r⟩
  | .ty n, v, h => by unfold Rep at h ⊢; exact h
  | .cls c, v, h => by unfold Rep at h ⊢; exact h
  | .dct ks ws, v, h => by
    unfold Rep at h ⊢
    obtain ⟨a, vs, e, s, r⟩ := h
    exact ⟨a, vs, e, s.le x, Reps.mono x p ws vs r⟩
  | .ins c ns ws, v, h => by
    unfold Rep at h ⊢
    obtain ⟨a, C, dx, vs, e, g, l, s, r⟩ := h
    exact ⟨a, C, dx, vs, e, g, l, x.ins s, Reps.mono x p ws vs r⟩
  | .cell k, v, h => by
    unfold Rep at h ⊢
    obtain ⟨a, g, e⟩ := h
    exact ⟨a, p.get g, e⟩
theorem Reps.mono (x : Le F F') (p : Pre μ μ') : ∀ (ws : List W) (vs : List V), Reps K mg F μ ws vs → Reps K mg F' μ' ws vs
  | [], vs, h => by unfold Reps at h ⊢; exact h
  | w :: ws, vs, h => by
    unfold Reps at h ⊢
    obtain ⟨v, r, e, h1, h2⟩ := h
    exact ⟨v, r, e, Rep.mono x p w v h1, Reps.mono x p ws r h2⟩
end
theorem Reps.length : ∀ {ws : List W} {vs : List V}, Reps K mg F μ ws vs → ws.length = vs.length
  | [], vs, h => by unfold Reps at h; subst h; rfl
  | w :: ws, vs, h => by
    unfold Reps at h
    obtain ⟨v, r, rfl, _, h2⟩ := h
    simp [Reps.length h2]
theorem Reps.nil_iff {vs : List V} : Reps K mg F μ [] vs ↔ vs = [] := by unfold Reps; exact Iff.rfl
theorem Reps.nil : Reps K mg F μ [] [] := by unfold Reps; rfl
theorem Reps.cons {w : W} {ws : List W} {v : V} {vs : List V} (h : Rep K mg F μ w v) (r : Reps K mg F μ ws vs) : Reps K mg F μ (w :: ws) (v :: vs) := by
  unfold Reps; exact ⟨v, vs, rfl, h, r⟩
theorem Reps.cons_inv {w : W} {ws : List W} {vs : List V} (h : Reps K mg F μ (w :: ws) vs) : ∃ v r, vs = v :: r ∧ Rep K mg F μ w v ∧ Reps K mg F μ ws r := by
  unfold Reps at h; exact h
theorem Reps.get : ∀ {ws : List W} {vs : List V} {i : Nat} {w : W}, Reps K mg F μ ws vs → ws[i]? = some w → ∃ v, vs[i]? = some v ∧ Rep K mg F μ w v
  | [], _, _, _, _, e => by simp at e
  | w0 :: ws, vs, 0, w, h, e => by
    obtain ⟨v, r, rfl, h1, _⟩ := h.cons_inv
    simp at e; subst e; exact ⟨v, rfl, h1⟩
  | w0 :: ws, vs, i + 1, w, h, e => by
    obtain ⟨v, r, rfl, _, h2⟩ := h.cons_inv
    obtain ⟨v', e1, e2⟩ := Reps.get (i := i) h2 (by simpa using e)
    exact ⟨v', by simpa using e1, e2⟩
theorem Reps.get' : ∀ {ws : List W} {vs : List V} {i : Nat} {v : V}, Reps K mg F μ ws vs → vs[i]? = some v → ∃ w, ws[i]? = some w ∧ Rep K mg F μ w v := fun {ws vs i v} h e => by
  have hl := h.length
  have hi : i < vs.length := by
    rcases Nat.lt_or_ge i vs.length with q | q
    · exact q
    · rw [List.getElem?_eq_none q] at e; cases e
  have hw : ws[i]? = some (ws[i]'(by omega)) := by simp
  obtain ⟨v', e1, e2⟩ := h.get hw
  rw [e] at e1; cases e1
  exact ⟨_, hw, e2⟩
theorem Reps.append : ∀ {ws us : List W} {vs xs : List V}, Reps K mg F μ ws vs → Reps K mg F μ us xs → Reps K mg F μ (ws ++ us) (vs ++ xs)
  | [], us, vs, xs, h, r => by rw [Reps.nil_iff] at h; subst h; exact r
  | w :: ws, us, vs, xs, h, r => by
    obtain ⟨v, t, rfl, h1, h2⟩ := h.cons_inv
    exact .cons h1 (h2.append r)
theorem Reps.set : ∀ {ws : List W} {vs : List V} {w : W} {v : V} (i : Nat), Reps K mg F μ ws vs → Rep K mg F μ w v → Reps K mg F μ (ws.set i w) (vs.set i v)
  | [], vs, _, _, _, h, _ => by rw [Reps.nil_iff] at h; subst h; exact .nil
  | w0 :: ws, vs, _, _, 0, h, r => by
    obtain ⟨v, t, rfl, h1, h2⟩ := h.cons_inv
    exact .cons r h2
  | w0 :: ws, vs, _, _, i + 1, h, r => by
    obtain ⟨v, t, rfl, h1, h2⟩ := h.cons_inv
    exact .cons h1 (h2.set i r)
theorem Reps.take : ∀ {ws : List W} {vs : List V} (n : Nat), Reps K mg F μ ws vs → Reps K mg F μ (ws.take n) (vs.take n)
  | ws, vs, 0, h => by simp; exact .nil
  | [], vs, n + 1, h => by rw [Reps.nil_iff] at h; subst h; exact .nil
  | w :: ws, vs, n + 1, h => by
    obtain ⟨v, t, rfl, h1, h2⟩ := h.cons_inv
    exact .cons h1 (h2.take n)
theorem Reps.drop : ∀ {ws : List W} {vs : List V} (n : Nat), Reps K mg F μ ws vs → Reps K mg F μ (ws.drop n) (vs.drop n)
  | ws, vs, 0, h => h
  | [], vs, n + 1, h => by rw [Reps.nil_iff] at h; subst h; exact .nil
  | w :: ws, vs, n + 1, h => by
    obtain ⟨v, t, rfl, h1, h2⟩ := h.cons_inv
    exact h2.drop n
theorem Reps.reverse : ∀ {ws : List W} {vs : List V}, Reps K mg F μ ws vs → Reps K mg F μ ws.reverse vs.reverse
  | [], vs, h => by rw [Reps.nil_iff] at h; subst h; exact .nil
  | w :: ws, vs, h => by
    obtain ⟨v, t, rfl, h1, h2⟩ := h.cons_inv
    rw [List.reverse_cons, List.reverse_cons]
    exact h2.reverse.append (.cons h1 .nil)
theorem Reps.of_get {ws : List W} {vs : List V} (hl : ws.length = vs.length) (h : ∀ (i : Nat) w v, ws[i]? = some w → vs[i]? = some v → Rep K mg F μ w v) : Reps K mg F μ ws vs := by
  induction ws generalizing vs with
  | nil => cases vs with
    | nil => exact .nil
    | cons => simp at hl
  | cons w ws ih => cases vs with
    | nil => simp at hl
    | cons v vs => exact .cons (h 0 w v rfl rfl) (ih (by simpa using hl) fun i w v a b => h (i + 1) w v (by simpa using a) (by simpa using b))
end

/-! ## the store -/
def LiveA (μ : List Addr) (st : Sto) (hid : List Addr) (a : Addr) : Prop := a ∈ hid ∨ ∃ (k : Nat) (c : Cel), μ[k]? = some a ∧ st[k]? = some c ∧ c.live = true
open Classical in
/-- what no cell of the store holds: read, never changed -/
noncomputable def Fz (μ : List Addr) (st : Sto) (hid : List Addr) (H : Hp) : Hp := fun a => if LiveA μ st hid a then none else H a
theorem Fz.sub {μ : List Addr} {st : Sto} {hid : List Addr} {H : Hp} {a : Addr} {o : HO} (h : Fz μ st hid H a = some o) : H a = some o ∧ ¬ LiveA μ st hid a := by
  unfold Fz at h
  split at h
  · cases h
  · rename_i n; exact ⟨h, n⟩
theorem Fz.mk {μ : List Addr} {st : Sto} {hid : List Addr} {H : Hp} {a : Addr} {o : HO} (h : H a = some o) (n : ¬ LiveA μ st hid a) : Fz μ st hid H a = some o := by
  unfold Fz
  rw [if_neg n]; exact h
theorem Fz.le {μ : List Addr} {st : Sto} {hid : List Addr} {H : Hp} : Le (Fz μ st hid H) H := Le.of fun _ _ h => (Fz.sub h).1

/-- a dict that may be changed -/
def DctM (H : Hp) (a : Addr) (ks : List W) (vs : List V) : Prop := ∃ l q, kindW ks = some (l, q) ∧ dLen q = vs.length ∧ (if l = true then ∃ o, H a = some (.frz o (dObj q vs)) else H a = some (dObj q vs))
theorem DctM.rd {H : Hp} {a : Addr} {ks : List W} {vs : List V} (h : DctM H a ks vs) : DctAt H a ks vs := by
  obtain ⟨l, q, h1, h2, h3⟩ := h
  refine ⟨l, q, h1, h2, ?_⟩
  cases l with
  | true => exact ⟨.inr h3, fun e => nomatch e⟩
  | false => exact ⟨.inl h3, fun _ kk e => by subst e; exact h3⟩
theorem DctM.at {H F : Hp} {a : Addr} {ks : List W} {vs : List V} (h : DctM H a ks vs) (e : F a = H a) : DctAt F a ks vs := by
  obtain ⟨l, q, h1, h2, h3, h4⟩ := h.rd
  refine ⟨l, q, h1, h2, ?_⟩
  unfold Rd at h3 ⊢
  rw [e]; exact ⟨h3, h4⟩
theorem DctM.some {H : Hp} {a : Addr} {ks : List W} {vs : List V} (h : DctM H a ks vs) : ∃ o, H a = .some o := by
  obtain ⟨l, q, h1, h2, h3⟩ := h
  cases l with
  | true => obtain ⟨o, h3⟩ := h3; exact ⟨_, h3⟩
  | false => exact ⟨_, h3⟩
theorem DctM.of_eq {H H' : Hp} {a : Addr} {ks : List W} {vs : List V} (h : DctM H a ks vs) (e : H' a = H a) : DctM H' a ks vs := by
  obtain ⟨l, q, h1, h2, h3⟩ := h
  exact ⟨l, q, h1, h2, by rw [e]; exact h3⟩

section
variable (K : PySem.W.Frag) (mg : Str → Option Value)
def CelOk (F : Hp) (μ : List Addr) (H : Hp) (a : Addr) : Cel → Prop
  | .lst ws => ∃ vs, H a = some (.lst vs) ∧ Reps K mg F μ ws vs
  | .dct ks ws => ∃ vs, DctM H a ks vs ∧ Reps K mg F μ ws vs
  | .ins c ns ws => ∃ C dx vs, mg c = some (.ref C) ∧ ns.length = vs.length ∧ H a = some (.ins C dx (ns.zip vs)) ∧ Reps K mg F μ ws vs
  | .frz w => Rep K mg F μ w (.ref a)
structure StOk (μ : List Addr) (st : Sto) (hid : List Addr) (H : Hp) : Prop where
  len : μ.length = st.length
  inj : ∀ (j k : Nat) (a : Addr) (c d : Cel), μ[j]? = some a → μ[k]? = some a → st[j]? = some c → st[k]? = some d → c.live = true → d.live = true → j = k
  hidn : ∀ (k : Nat) (a : Addr) (c : Cel), μ[k]? = some a → st[k]? = some c → c.live = true → a ∉ hid
  hidt : ∀ a ∈ hid, H a ≠ none ∧ ∀ vs, H a ≠ some (.tup vs)
  ok : ∀ (k : Nat) (a : Addr) (c : Cel), μ[k]? = some a → st[k]? = some c → CelOk K mg (Fz μ st hid H) μ H a c
end
/-- what is locked stays as it is -/
def Lk (H H' : Hp) : Prop := ∀ a o u, H a = some (.frz o u) → H' a = some (.frz o u)
theorem Lk.refl (H : Hp) : Lk H H := fun _ _ _ h => h
theorem Lk.trans {H H' H'' : Hp} (x : Lk H H') (y : Lk H' H'') : Lk H H'' := fun a o u h => y a o u (x a o u h)
/-- from one state to a later one: what stands beside the cells stands -/
structure Grow (hid : List Addr) (μ : List Addr) (st : Sto) (H : Hp) (μ' : List Addr) (st' : Sto) (H' : Hp) : Prop where
  pre : Pre μ μ'
  le : Le (Fz μ st hid H) (Fz μ' st' hid H')
  hid : ∀ a ∈ hid, H' a = H a
  lck : Lk H H'
theorem Grow.refl {hid μ : List Addr} {st : Sto} {H : Hp} : Grow hid μ st H μ st H := ⟨.refl _, .refl _, fun _ _ => rfl, fun _ _ _ h => h⟩
theorem Grow.trans {hid μ μ' μ'' : List Addr} {st st' st'' : Sto} {H H' H'' : Hp} (x : Grow hid μ st H μ' st' H') (y : Grow hid μ' st' H' μ'' st'' H'') : Grow hid μ st H μ'' st'' H'' :=
  ⟨x.pre.trans y.pre, x.le.trans y.le, fun a h => (y.hid a h).trans (x.hid a h), fun a o u h => y.lck a o u (x.lck a o u h)⟩

section
variable {K : PySem.W.Frag} {mg : Str → Option Value} {μ μ' : List Addr} {st st' : Sto} {hid : List Addr} {H H' : Hp}
theorem CelOk.there {F : Hp} {a : Addr} {c : Cel} (h : CelOk K mg F μ H a c) (l : c.live = true) : ∃ o, H a = some o := by
  cases c with
  | lst ws => obtain ⟨vs, h, _⟩ := h; exact ⟨_, h⟩
  | dct ks ws => obtain ⟨vs, h, _⟩ := h; exact h.some
  | ins c ns ws => obtain ⟨C, dx, vs, _, _, h, _⟩ := h; exact ⟨_, h⟩
  | frz w => cases l
theorem StOk.liveT (s : StOk K mg μ st hid H) {a : Addr} (h : LiveA μ st hid a) : H a ≠ none := by
  rcases h with h | ⟨k, c, h1, h2, h3⟩
  · exact (s.hidt a h).1
  · obtain ⟨o, e⟩ := (s.ok k a c h1 h2).there h3
    rw [e]; exact fun z => nomatch z
theorem StOk.notLive (s : StOk K mg μ st hid H) {a : Addr} (h : H a = none) : ¬ LiveA μ st hid a := fun z => s.liveT z h
/-- a new object beside the cells -/
theorem StOk.laid (s : StOk K mg μ st hid H) {p : Addr} {o : HO} (hp : H p = none) : StOk K mg μ st hid (upd H p o) ∧ Grow hid μ st H μ st (upd H p o) ∧ Fz μ st hid (upd H p o) p = some o := by
  have nl := s.notLive hp
  have hne : ∀ a, LiveA μ st hid a → a ≠ p := fun a h e => nl (e ▸ h)
  have le : Le (Fz μ st hid H) (Fz μ st hid (upd H p o)) := Le.of fun a u h => by
    obtain ⟨h1, h2⟩ := Fz.sub h
    exact Fz.mk (by rw [upd_ne (ne_of_none h1 hp)]; exact h1) h2
  refine ⟨⟨s.len, s.inj, s.hidn, fun a h => ?_, fun k a c h1 h2 => ?_⟩, ⟨.refl _, le, fun a h => ?_, fun a o u h => by rw [upd_ne (ne_of_none h hp)]; exact h⟩, Fz.mk upd_same nl⟩
  · rw [upd_ne (hne a (Or.inl h))]; exact s.hidt a h
  · have q := s.ok k a c h1 h2
    cases c with
    | lst ws =>
      obtain ⟨vs, e, r⟩ := q
      exact ⟨vs, by rw [upd_ne (ne_of_none e hp)]; exact e, r.mono le (.refl _)⟩
    | dct ks ws =>
      obtain ⟨vs, e, r⟩ := q
      exact ⟨vs, e.of_eq (upd_ne (hne a (Or.inr ⟨k, _, h1, h2, rfl⟩))), r.mono le (.refl _)⟩
    | ins c ns ws =>
      obtain ⟨C, dx, vs, g, l, e, r⟩ := q
      exact ⟨C, dx, vs, g, l, by rw [upd_ne (ne_of_none e hp)]; exact e, r.mono le (.refl _)⟩
    | frz w => exact Rep.mono le (.refl _) _ _ q
  · rw [upd_ne (hne a (Or.inl h))]
end

/-! ## a body's state -/
/-- what is wished of an exception, and what is known besides (of a caught one) -/
structure Wish where
  w : WX
  /-- slots that stay as they are -/
  lock : List Nat
  y : L2.St → Hp → List Addr → Prop
  mono : ∀ σ F F' μ μ', Le F F' → Pre μ μ' → y σ F μ → y σ F' μ'
  slot : ∀ σ σ' F μ, (∀ i ∈ lock, σ'[i]? = σ[i]?) → y σ F μ → y σ' F μ
def Wish.of (w : WX) : Wish := ⟨w, [], fun _ _ _ => True, fun _ _ _ _ _ _ _ _ => trivial, fun _ _ _ _ _ _ => trivial⟩
structure SI (K : PySem.W.Frag) (mg : Str → Option Value) (Wx : Wish) (μ : List Addr) (st : Sto) (hid : List Addr) (fr : Fr) (σ : L2.St) (H : Hp) : Prop where
  sto : StOk K mg μ st hid H
  len : fr.length = σ.length
  loc : ∀ (i : Nat) (w : W), fr[i]? = some (some w) → ∃ v, σ[i]? = some (some v) ∧ Rep K mg (Fz μ st hid H) μ w v
  ex : Wx.y σ (Fz μ st hid H) μ
theorem SI.next {Wx : Wish} {K : PySem.W.Frag} {mg : Str → Option Value} {μ μ' : List Addr} {st st' : Sto} {hid : List Addr} {fr : Fr} {σ : L2.St} {H H' : Hp} (s : SI K mg Wx μ st hid fr σ H) (k : StOk K mg μ' st' hid H') (x : Grow hid μ st H μ' st' H') : SI K mg Wx μ' st' hid fr σ H' :=
  ⟨k, s.len, fun i w h => by
    obtain ⟨v, e, r⟩ := s.loc i w h
    exact ⟨v, e, Rep.mono x.le x.pre _ _ r⟩, Wx.mono _ _ _ _ _ x.le x.pre s.ex⟩
theorem SI.set {Wx : Wish} {K : PySem.W.Frag} {mg : Str → Option Value} {μ : List Addr} {st : Sto} {hid : List Addr} {fr : Fr} {σ : L2.St} {H : Hp} (s : SI K mg Wx μ st hid fr σ H) {w : W} {v : V} (i : Nat) (hi : i ∉ Wx.lock) (r : Rep K mg (Fz μ st hid H) μ w v) : SI K mg Wx μ st hid (fr.set i (some w)) (σ.set i (some v)) H :=
  ⟨s.sto, by simpa using s.len, fun j u h => by
    by_cases e : i = j
    · subst e
      have hi : i < fr.length := by
        rcases Nat.lt_or_ge i fr.length with q | q
        · exact q
        · rw [List.set_eq_of_length_le q, List.getElem?_eq_none q] at h; cases h
      rw [List.getElem?_set_self hi] at h
      cases h
      exact ⟨v, by rw [List.getElem?_set_self (by rw [← s.len]; exact hi)], r⟩
    · rw [List.getElem?_set_ne e] at h
      rw [List.getElem?_set_ne e]
      exact s.loc j u h, Wx.slot _ _ _ _ (fun j hj => List.getElem?_set_ne (fun z : i = j => hi (z ▸ hj))) s.ex⟩

/-- an exception's own part -/
def XRep (K : PySem.W.Frag) (mg : Str → Option Value) (F : Hp) (μ : List Addr) (x : Exc) (c : Value) (d : Option Addr) : Prop :=
  ∃ C, mg x.c = some (.ref C) ∧ c = .ref C ∧ (x.ns = [] ∨ ∃ dx vs, d = some dx ∧ x.ns.length = vs.length ∧ F dx = some (.xd (x.ns.zip vs)) ∧ Reps K mg F μ x.vs vs)

section
variable (K : PySem.W.Frag) (mg : Str → Option Value)
/-- what is wanted behind an expression -/
def EPost (Wx : WX) (hid μ : List Addr) (st : Sto) (σ : L2.St) (H : Hp) (Q : VK) : Out W → Prop
  | .ok w st' => ∀ μ' H' v, StOk K mg μ' st' hid H' → Grow hid μ st H μ' st' H' → Rep K mg (Fz μ' st' hid H') μ' w v → Q v H'
  | .err x st' => ∀ μ' H' c d, StOk K mg μ' st' hid H' → Grow hid μ st H μ' st' H' → XRep K mg (Fz μ' st' hid H') μ' x c d → Wx c d σ H'
  | .bad => False
def LPost (Wx : WX) (hid μ : List Addr) (st : Sto) (σ : L2.St) (H : Hp) (Q : List V → Hp → Prop) : Out (List W) → Prop
  | .ok ws st' => ∀ μ' H' vs, StOk K mg μ' st' hid H' → Grow hid μ st H μ' st' H' → Reps K mg (Fz μ' st' hid H') μ' ws vs → Q vs H'
  | .err x st' => ∀ μ' H' c d, StOk K mg μ' st' hid H' → Grow hid μ st H μ' st' H' → XRep K mg (Fz μ' st' hid H') μ' x c d → Wx c d σ H'
  | .bad => False
def BPost (Wx : WX) (hid μ : List Addr) (st : Sto) (σ : L2.St) (H : Hp) (Q : Bool → Hp → Prop) : Out Bool → Prop
  | .ok b st' => ∀ μ' H', StOk K mg μ' st' hid H' → Grow hid μ st H μ' st' H' → Q b H'
  | .err x st' => ∀ μ' H' c d, StOk K mg μ' st' hid H' → Grow hid μ st H μ' st' H' → XRep K mg (Fz μ' st' hid H') μ' x c d → Wx c d σ H'
  | .bad => False
def tE (Wx : Wish) (f : Sem) : TE := fun σ H Q => ∃ μ st hid fr, SI K mg Wx μ st hid fr σ H ∧ EPost K mg Wx.w hid μ st σ H Q (f fr st)
def tA (Wx : Wish) (f : SemL) : TA := fun σ H Q => ∃ μ st hid fr, SI K mg Wx μ st hid fr σ H ∧ LPost K mg Wx.w hid μ st σ H Q (f fr st)
def tB' (Wx : Wish) (f : SemB) : TT := fun σ H Q => ∃ μ st hid fr, SI K mg Wx μ st hid fr σ H ∧ BPost K mg Wx.w hid μ st σ H Q (f fr st)
end
section
variable {K : PySem.W.Frag} {mg : Str → Option Value} {Wx : WX} {hid μ μ' : List Addr} {st st' : Sto} {σ : L2.St} {H H' : Hp}
theorem EPost.from {Q : VK} {o : Out W} (x : Grow hid μ st H μ' st' H') (h : EPost K mg Wx hid μ st σ H Q o) : EPost K mg Wx hid μ' st' σ H' Q o := by
  cases o with
  | ok w s => exact fun μ2 H2 v a b c => h μ2 H2 v a (x.trans b) c
  | err e s => exact fun μ2 H2 c d a b r => h μ2 H2 c d a (x.trans b) r
  | bad => exact h
theorem LPost.from {Q : List V → Hp → Prop} {o : Out (List W)} (x : Grow hid μ st H μ' st' H') (h : LPost K mg Wx hid μ st σ H Q o) : LPost K mg Wx hid μ' st' σ H' Q o := by
  cases o with
  | ok w s => exact fun μ2 H2 v a b c => h μ2 H2 v a (x.trans b) c
  | err e s => exact fun μ2 H2 c d a b r => h μ2 H2 c d a (x.trans b) r
  | bad => exact h
theorem BPost.from {Q : Bool → Hp → Prop} {o : Out Bool} (x : Grow hid μ st H μ' st' H') (h : BPost K mg Wx hid μ st σ H Q o) : BPost K mg Wx hid μ' st' σ H' Q o := by
  cases o with
  | ok w s => exact fun μ2 H2 a b => h μ2 H2 a (x.trans b)
  | err e s => exact fun μ2 H2 c d a b r => h μ2 H2 c d a (x.trans b) r
  | bad => exact h
end
theorem PEm {X : Cx} {e : Expr} {t t' : TE} (h : PE X e t) (i : ∀ σ H Q, t' σ H Q → t σ H Q) : PE X e t' := ⟨fun pins s σ H Q I q => h.run pins s σ H Q I (i σ H Q q)⟩
theorem PTm {X : Cx} {e : Expr} {t t' : TT} (h : PT X e t) (i : ∀ σ H Q, t' σ H Q → t σ H Q) : PT X e t' := ⟨fun pins s σ H Q I q => h.run pins s σ H Q I (i σ H Q q)⟩
theorem PWm {X : Cx} {e : Expr} {t t' : TT} (h : PW X e t) (i : ∀ σ H Q, t' σ H Q → t σ H Q) : PW X e t' := ⟨fun wh pins s σ H Q I q => h.run wh pins s σ H Q I (i σ H Q q)⟩
theorem PAm {X : Cx} {e : List Expr} {t t' : TA} (h : PA X e t) (i : ∀ σ H Q, t' σ H Q → t σ H Q) : PA X e t' := ⟨fun pos pins s σ H Q I q => h.run pos pins s σ H Q I (i σ H Q q)⟩
theorem PSm {X : Cx} {e : Stmt} {t t' : TS} (h : PS X e t) (i : ∀ D σ H, t' D σ H → t D σ H) : PS X e t' := ⟨fun pins s σ H D I q => h.run pins s σ H D I (i D σ H q)⟩
theorem PSsm {X : Cx} {e : List Stmt} {t t' : TS} (h : PSs X e t) (i : ∀ D σ H, t' D σ H → t D σ H) : PSs X e t' := ⟨fun pins s σ H D I q => h.run pins s σ H D I (i D σ H q)⟩

/-- the judgements: Wx is what is wished of an exception -/
abbrev EV (X : Cx) (Wx : Wish) (e : Expr) (f : Sem) : Prop := PE X e (tE X.K X.mg Wx f)
abbrev TV (X : Cx) (Wx : Wish) (e : Expr) (f : SemB) : Prop := PT X e (tB' X.K X.mg Wx f)
abbrev AV (X : Cx) (Wx : Wish) (es : List Expr) (f : SemL) : Prop := PA X es (tA X.K X.mg Wx f)
end SL

namespace SL
open PySem PySem.Spec PyProof.Rows L2
section
variable {X : Cx} {Wx : Wish}

/-! ## names and constants -/
def eVar (i : Nat) : Sem := fun fr st => match fr[i]? with
  | some (some w) => .ok w st
  | _ => .bad
theorem ev_var {i : Nat} {x : Str} {pos : Pos} (hN : X.N[i]? = some x := by rfl) (hv : Vis X.env.scope x := by first | exact Or.inl rfl | exact Or.inr (Or.inl rfl) | exact Or.inr (Or.inr rfl)) (hd : (x == ("__debug__" : Str)) = false := by decide)
    (hcd : (x == ("__classdict__" : Str)) = false := by decide) : EV X Wx (.Name x pos) (eVar i) :=
  PEm (pe_var hN hv hd hcd) fun σ H Q ⟨μ, st, hid, fr, S, P⟩ => by
    unfold eVar at P
    split at P
    · rename_i w h
      obtain ⟨v, e, r⟩ := S.loc i w h
      exact ⟨v, e, P μ H v S.sto .refl r⟩
    · exact P.elim
def eC (w : W) : Sem := fun _ st => .ok w st
theorem ev_c {e : Expr} {w : W} {v : V} (h : PE X e (tC v)) (r : ∀ F μ, Rep X.K X.mg F μ w v) : EV X Wx e (eC w) :=
  PEm h fun σ H Q ⟨μ, st, hid, fr, S, P⟩ => P μ H v S.sto .refl (r _ _)
theorem ev_int {i : Int} {j pos} : EV X Wx (.Constant (.int i) j pos) (eC (.int i)) := ev_c pe_int fun F μ => by unfold Rep; rfl
theorem ev_bl {i : Bool} {j pos} : EV X Wx (.Constant (.bool i) j pos) (eC (.bl i)) := ev_c pe_bl fun F μ => by unfold Rep; rfl
theorem ev_str {i : Str} {j pos} : EV X Wx (.Constant (.str i) j pos) (eC (.str i)) := ev_c pe_str fun F μ => by unfold Rep; rfl
theorem ev_non {j pos} : EV X Wx (.Constant .none j pos) (eC .non) := ev_c pe_non fun F μ => by unfold Rep; rfl
theorem ev_globI {x : Str} {i : Int} {t : Tok} {pos : Pos} (hm : X.mg x = some (.int i t)) (hg : Gl X x := by rfl) (hd : (x == ("__debug__" : Str)) = false := by decide) : EV X Wx (.Name x pos) (eC (.int i)) := ev_c (v := .int i) (pe_glob hg hm ⟨t, rfl⟩ hd) fun F μ => by unfold Rep; rfl
theorem ev_globS {x : Str} {i : Str} {t : Tok} {pos : Pos} (hm : X.mg x = some (.str i t)) (hg : Gl X x := by rfl) (hd : (x == ("__debug__" : Str)) = false := by decide) : EV X Wx (.Name x pos) (eC (.str i)) := ev_c (v := .str i) (pe_glob hg hm ⟨t, rfl⟩ hd) fun F μ => by unfold Rep; rfl

/-! ## operations by values -/
abbrev Op2 := W → W → Sto → Out W
abbrev Op1 := W → Sto → Out W
abbrev OpN := List W → Sto → Out W
def Op2S (X : Cx) (op : Op2) (r : R2) : Prop := ∀ (Wx : WX) (hid μ : List Addr) (st : Sto) (σ : L2.St) (H : Hp) (Q : VK) (w u : W) (x y : V), StOk X.K X.mg μ st hid H → Rep X.K X.mg (Fz μ st hid H) μ w x → Rep X.K X.mg (Fz μ st hid H) μ u y →
  EPost X.K X.mg Wx hid μ st σ H Q (op w u st) → r x y H Q
def e2 (op : Op2) (f g : Sem) : Sem := fun fr st => (f fr st).bind fun w st1 => (g fr st1).bind fun u st2 => op w u st2
theorem e2_read {op : Op2} {r : R2} {f g : Sem} (hs : Op2S X op r) : ∀ σ H Q, tE X.K X.mg Wx (e2 op f g) σ H Q → tOp r (tE X.K X.mg Wx f) (tE X.K X.mg Wx g) σ H Q := fun σ H Q ⟨μ, st, hid, fr, S, P⟩ => by
  refine ⟨μ, st, hid, fr, S, ?_⟩
  unfold e2 at P
  cases h : f fr st with
  | bad => rw [h] at P; exact P
  | err x s => rw [h] at P; exact P
  | ok w st1 =>
    rw [h] at P
    intro μ1 H1 v k1 g1 r1
    refine ⟨μ1, st1, hid, fr, S.next k1 g1, ?_⟩
    have P1 := EPost.from g1 P
    rw [Out.bind_ok] at P1
    cases h2 : g fr st1 with
    | bad => rw [h2] at P1; exact P1
    | err x s => rw [h2] at P1; exact P1
    | ok u st2 =>
      rw [h2] at P1
      intro μ2 H2 y k2 g2 r2
      exact hs Wx.w hid μ2 st2 σ H2 Q w u v y k2 (Rep.mono g2.le g2.pre _ _ r1) r2 (EPost.from g2 P1)
theorem ev_op {op : Operator} {o : Op2} {r : R2} {a b : Expr} {f g : Sem} {pos : Pos} (ho : OpR X (binaryOp op) r) (hs : Op2S X o r) (ha : EV X Wx a f) (hb : EV X Wx b g) : EV X Wx (.BinOp a op b pos) (e2 o f g) :=
  PEm (pe_op ho ha hb) (e2_read hs)
theorem ev_cmp {op : CmpOp} {o : Op2} {r : R2} {a b : Expr} {f g : Sem} {pos : Pos} (ho : OpR X (compareOp op) r) (hs : Op2S X o r) (ha : EV X Wx a f) (hb : EV X Wx b g) (hm : behindInMarks op b = false) : EV X Wx (.Compare a [op] [b] pos) (e2 o f g) :=
  PEm (pe_cmpR ho ha hb hm) (e2_read hs)
theorem ev_ix {o : Op2} {r : R2} {a b : Expr} {f g : Sem} {pos : Pos} (ho : IxR X r) (hs : Op2S X o r) (ha : EV X Wx a f) (hb : EV X Wx b g) (hp : PlainIx b) : EV X Wx (.Subscript a b pos) (e2 o f g) :=
  PEm (pe_ix ho ha hb hp) (e2_read hs)
/-- a value as a test -/
def bOf (f : Sem) : SemB := fun fr st => (f fr st).bind fun w st1 => match w with
  | .bl b => .ok b st1
  | _ => .bad
theorem bOf_read {f : Sem} {t : TE} (ht : ∀ σ H Q, tE X.K X.mg Wx f σ H Q → t σ H Q) : ∀ σ H Q, tB' X.K X.mg Wx (bOf f) σ H Q → tTest t σ H Q := fun σ H Q ⟨μ, st, hid, fr, S, P⟩ => by
  refine ht σ H _ ⟨μ, st, hid, fr, S, ?_⟩
  unfold bOf at P
  cases h : f fr st with
  | bad => rw [h] at P; exact P
  | err x s => rw [h] at P; exact P
  | ok w st1 =>
    rw [h, Out.bind_ok] at P
    intro μ1 H1 v k1 g1 r1
    cases w with
    | bl b =>
      unfold Rep at r1
      exact ⟨b, r1, P μ1 H1 k1 g1⟩
    | _ => exact P.elim
theorem tv_cmp {op : CmpOp} {o : Op2} {r : R2} {a b : Expr} {f g : Sem} {pos : Pos} (ho : OpR X (compareOp op) r) (hs : Op2S X o r) (ha : EV X Wx a f) (hb : EV X Wx b g) (hm : behindInMarks op b = false) : TV X Wx (.Compare a [op] [b] pos) (bOf (e2 o f g)) :=
  PTm (pt_cmpR ho ha hb hm) (bOf_read (e2_read hs))
theorem tv_val {e : Expr} {f : Sem} (h : EV X Wx e f) (he : ∀ whole, isTrue e X.env whole = (do let v ← whole; standAt e.pos; holding [v] (truthy v)) := by intro _; rfl) : TV X Wx e (bOf f) :=
  PTm (pt_val h he) fun σ H Q P => bOf_read (fun _ _ _ z => z) σ H Q P
/-! ### not, and, or -/
def bNot (f : SemB) : SemB := fun fr st => (f fr st).bind fun b st1 => .ok (!b) st1
theorem tv_not {a : Expr} {f : SemB} {pos : Pos} (ha : TV X Wx a f) : TV X Wx (.UnaryOp .Not a pos) (bNot f) := PTm (pt_not ha) fun σ H Q ⟨μ, st, hid, fr, S, P⟩ => by
  refine ⟨μ, st, hid, fr, S, ?_⟩
  unfold bNot at P
  cases h : f fr st with
  | bad => rw [h] at P; exact P
  | err x s => rw [h] at P; exact P
  | ok w st1 => rw [h] at P; exact P
def bAnd (f g : SemB) : SemB := fun fr st => (f fr st).bind fun b st1 => if b = true then g fr st1 else .ok false st1
def bOr (f g : SemB) : SemB := fun fr st => (f fr st).bind fun b st1 => if b = true then .ok true st1 else g fr st1
theorem bAnd_read {f g : SemB} : ∀ σ H Q, tB' X.K X.mg Wx (bAnd f g) σ H Q → tAnd (tB' X.K X.mg Wx f) (tB' X.K X.mg Wx g) σ H Q := fun σ H Q ⟨μ, st, hid, fr, S, P⟩ => by
  refine ⟨μ, st, hid, fr, S, ?_⟩
  unfold bAnd at P
  cases h : f fr st with
  | bad => rw [h] at P; exact P
  | err x s => rw [h] at P; exact P
  | ok b st1 =>
    rw [h, Out.bind_ok] at P
    intro μ1 H1 k1 g1
    cases b with
    | true => exact iteT ⟨μ1, st1, hid, fr, S.next k1 g1, BPost.from g1 (by simpa using P)⟩
    | false => exact iteF ((by simpa using P : BPost X.K X.mg Wx.w hid μ st σ H Q (.ok false st1)) μ1 H1 k1 g1)
theorem bOr_read {f g : SemB} : ∀ σ H Q, tB' X.K X.mg Wx (bOr f g) σ H Q → tOr (tB' X.K X.mg Wx f) (tB' X.K X.mg Wx g) σ H Q := fun σ H Q ⟨μ, st, hid, fr, S, P⟩ => by
  refine ⟨μ, st, hid, fr, S, ?_⟩
  unfold bOr at P
  cases h : f fr st with
  | bad => rw [h] at P; exact P
  | err x s => rw [h] at P; exact P
  | ok b st1 =>
    rw [h, Out.bind_ok] at P
    intro μ1 H1 k1 g1
    cases b with
    | false => exact iteF ⟨μ1, st1, hid, fr, S.next k1 g1, BPost.from g1 (by simpa using P)⟩
    | true => exact iteT ((by simpa using P : BPost X.K X.mg Wx.w hid μ st σ H Q (.ok true st1)) μ1 H1 k1 g1)
abbrev WV (X : Cx) (Wx : Wish) (e : Expr) (f : SemB) : Prop := PW X e (tB' X.K X.mg Wx f)
theorem wv_and1 {a : Expr} {f : SemB} {pos : Pos} (ha : TV X Wx a f) : WV X Wx (.BoolOp .And [a] pos) f := pw_and1 ha
theorem wv_or1 {a : Expr} {f : SemB} {pos : Pos} (ha : TV X Wx a f) : WV X Wx (.BoolOp .Or [a] pos) f := pw_or1 ha
theorem wv_and {a b : Expr} {rest : List Expr} {f g : SemB} {pos : Pos} (ha : TV X Wx a f) (hb : WV X Wx (.BoolOp .And (b :: rest) pos) g) : WV X Wx (.BoolOp .And (a :: b :: rest) pos) (bAnd f g) := PWm (pw_and ha hb) bAnd_read
theorem wv_or {a b : Expr} {rest : List Expr} {f g : SemB} {pos : Pos} (ha : TV X Wx a f) (hb : WV X Wx (.BoolOp .Or (b :: rest) pos) g) : WV X Wx (.BoolOp .Or (a :: b :: rest) pos) (bOr f g) := PWm (pw_or ha hb) bOr_read
theorem tv_w {e : Expr} {f : SemB} (h : WV X Wx e f) : TV X Wx e f := h.pt
/-- .. as values -/
def eAnd (f g : Sem) : Sem := fun fr st => (f fr st).bind fun w st1 => match w with
  | .bl b => if b = true then g fr st1 else .ok (.bl false) st1
  | _ => .bad
def eOr (f g : Sem) : Sem := fun fr st => (f fr st).bind fun w st1 => match w with
  | .bl b => if b = true then .ok (.bl true) st1 else g fr st1
  | _ => .bad
def eNot (f : Sem) : Sem := fun fr st => (f fr st).bind fun w st1 => match w with
  | .bl b => .ok (.bl (!b)) st1
  | _ => .bad
theorem rep_bl {K : PySem.W.Frag} {mg : Str → Option Value} {F : Hp} {μ : List Addr} {b : Bool} : Rep K mg F μ (.bl b) (.bl b) := by unfold Rep; rfl
theorem rep_int {K : PySem.W.Frag} {mg : Str → Option Value} {F : Hp} {μ : List Addr} {b : Int} : Rep K mg F μ (.int b) (.int b) := by unfold Rep; rfl
theorem rep_str {K : PySem.W.Frag} {mg : Str → Option Value} {F : Hp} {μ : List Addr} {b : Str} : Rep K mg F μ (.str b) (.str b) := by unfold Rep; rfl
theorem rep_non {K : PySem.W.Frag} {mg : Str → Option Value} {F : Hp} {μ : List Addr} : Rep K mg F μ .non .non := by unfold Rep; rfl
theorem rep_bl_inv {K : PySem.W.Frag} {mg : Str → Option Value} {F : Hp} {μ : List Addr} {b : Bool} {v : V} (h : Rep K mg F μ (.bl b) v) : v = .bl b := by unfold Rep at h; exact h
theorem rep_int_inv {K : PySem.W.Frag} {mg : Str → Option Value} {F : Hp} {μ : List Addr} {b : Int} {v : V} (h : Rep K mg F μ (.int b) v) : v = .int b := by unfold Rep at h; exact h
theorem rep_str_inv {K : PySem.W.Frag} {mg : Str → Option Value} {F : Hp} {μ : List Addr} {b : Str} {v : V} (h : Rep K mg F μ (.str b) v) : v = .str b := by unfold Rep at h; exact h
theorem rep_non_inv {K : PySem.W.Frag} {mg : Str → Option Value} {F : Hp} {μ : List Addr} {v : V} (h : Rep K mg F μ .non v) : v = .non := by unfold Rep at h; exact h
theorem rep_tup_inv {K : PySem.W.Frag} {mg : Str → Option Value} {F : Hp} {μ : List Addr} {ws : List W} {v : V} (h : Rep K mg F μ (.tup ws) v) : ∃ a vs, v = .ref a ∧ TupAt K F a vs ∧ Reps K mg F μ ws vs := by unfold Rep at h; exact h
theorem rep_lst_inv {K : PySem.W.Frag} {mg : Str → Option Value} {F : Hp} {μ : List Addr} {ws : List W} {v : V} (h : Rep K mg F μ (.lst ws) v) : ∃ a vs, v = .ref a ∧ F a = some (.lst vs) ∧ Reps K mg F μ ws vs := by unfold Rep at h; exact h
theorem rep_ro_inv {K : PySem.W.Frag} {mg : Str → Option Value} {F : Hp} {μ : List Addr} {ws : List W} {v : V} (h : Rep K mg F μ (.ro ws) v) : ∃ a vs, v = .ref a ∧ SqL K F a vs ∧ Reps K mg F μ ws vs := by unfold Rep at h; exact h
theorem rep_ty_inv {K : PySem.W.Frag} {mg : Str → Option Value} {F : Hp} {μ : List Addr} {n : String} {v : V} (h : Rep K mg F μ (.ty n) v) : v = .ty n := by unfold Rep at h; exact h
theorem rep_cls_inv {K : PySem.W.Frag} {mg : Str → Option Value} {F : Hp} {μ : List Addr} {n : Str} {v : V} (h : Rep K mg F μ (.cls n) v) : ∃ C, mg n = some (.ref C) ∧ v = .ref C := by unfold Rep at h; exact h
theorem rep_cell_inv {K : PySem.W.Frag} {mg : Str → Option Value} {F : Hp} {μ : List Addr} {k : Nat} {v : V} (h : Rep K mg F μ (.cell k) v) : ∃ a, μ[k]? = some a ∧ v = .ref a := by unfold Rep at h; exact h
theorem rep_tup {K : PySem.W.Frag} {mg : Str → Option Value} {F : Hp} {μ : List Addr} {ws : List W} {a : Addr} {vs : List V} (h : F a = some (.tup vs)) (r : Reps K mg F μ ws vs) : Rep K mg F μ (.tup ws) (.ref a) := by unfold Rep; exact ⟨a, vs, rfl, h, r⟩
theorem rep_lst {K : PySem.W.Frag} {mg : Str → Option Value} {F : Hp} {μ : List Addr} {ws : List W} {a : Addr} {vs : List V} (h : F a = some (.lst vs)) (r : Reps K mg F μ ws vs) : Rep K mg F μ (.lst ws) (.ref a) := by unfold Rep; exact ⟨a, vs, rfl, h, r⟩
theorem ev_and {a b : Expr} {rest : List Expr} {f g : Sem} {pos : Pos} (ha : EV X Wx a f) (hb : EV X Wx (.BoolOp .And (b :: rest) pos) g) : EV X Wx (.BoolOp .And (a :: b :: rest) pos) (eAnd f g) := PEm (pe_and ha hb) fun σ H Q ⟨μ, st, hid, fr, S, P⟩ => by
  refine ⟨μ, st, hid, fr, S, ?_⟩
  unfold eAnd at P
  cases h : f fr st with
  | bad => rw [h] at P; exact P
  | err x s => rw [h] at P; exact P
  | ok w st1 =>
    rw [h, Out.bind_ok] at P
    intro μ1 H1 v k1 g1 r1
    cases w with
    | bl c =>
      refine ⟨c, rep_bl_inv r1, ?_⟩
      cases c with
      | true => exact iteT ⟨μ1, st1, hid, fr, S.next k1 g1, EPost.from g1 (by simpa using P)⟩
      | false => exact iteF ((by simpa using P : EPost X.K X.mg Wx.w hid μ st σ H Q (.ok (.bl false) st1)) μ1 H1 _ k1 g1 rep_bl)
    | _ => exact P.elim
theorem ev_or {a b : Expr} {rest : List Expr} {f g : Sem} {pos : Pos} (ha : EV X Wx a f) (hb : EV X Wx (.BoolOp .Or (b :: rest) pos) g) : EV X Wx (.BoolOp .Or (a :: b :: rest) pos) (eOr f g) := PEm (pe_or ha hb) fun σ H Q ⟨μ, st, hid, fr, S, P⟩ => by
  refine ⟨μ, st, hid, fr, S, ?_⟩
  unfold eOr at P
  cases h : f fr st with
  | bad => rw [h] at P; exact P
  | err x s => rw [h] at P; exact P
  | ok w st1 =>
    rw [h, Out.bind_ok] at P
    intro μ1 H1 v k1 g1 r1
    cases w with
    | bl c =>
      refine ⟨c, rep_bl_inv r1, ?_⟩
      cases c with
      | false => exact iteF ⟨μ1, st1, hid, fr, S.next k1 g1, EPost.from g1 (by simpa using P)⟩
      | true => exact iteT ((by simpa using P : EPost X.K X.mg Wx.w hid μ st σ H Q (.ok (.bl true) st1)) μ1 H1 _ k1 g1 rep_bl)
    | _ => exact P.elim
theorem ev_one {op : BoolOp} {a : Expr} {f : Sem} {pos : Pos} (ha : EV X Wx a f) : EV X Wx (.BoolOp op [a] pos) f := pe_one ha
theorem ev_not {a : Expr} {f : Sem} {pos : Pos} (ha : EV X Wx a f) : EV X Wx (.UnaryOp .Not a pos) (eNot f) := PEm (pe_not ha) fun σ H Q ⟨μ, st, hid, fr, S, P⟩ => by
  refine ⟨μ, st, hid, fr, S, ?_⟩
  unfold eNot at P
  cases h : f fr st with
  | bad => rw [h] at P; exact P
  | err x s => rw [h] at P; exact P
  | ok w st1 =>
    rw [h, Out.bind_ok] at P
    intro μ1 H1 v k1 g1 r1
    cases w with
    | bl c => exact ⟨c, rep_bl_inv r1, P μ1 H1 _ k1 g1 rep_bl⟩
    | _ => exact P.elim
def eIf (c : SemB) (f g : Sem) : Sem := fun fr st => (c fr st).bind fun b st1 => if b = true then f fr st1 else g fr st1
theorem ev_if {c a b : Expr} {fc : SemB} {f g : Sem} {pos : Pos} (hc : TV X Wx c fc) (ha : EV X Wx a f) (hb : EV X Wx b g) : EV X Wx (.IfExp c a b pos) (eIf fc f g) := PEm (pe_ifExp hc ha hb) fun σ H Q ⟨μ, st, hid, fr, S, P⟩ => by
  refine ⟨μ, st, hid, fr, S, ?_⟩
  unfold eIf at P
  cases h : fc fr st with
  | bad => rw [h] at P; exact P
  | err x s => rw [h] at P; exact P
  | ok b st1 =>
    rw [h, Out.bind_ok] at P
    intro μ1 H1 k1 g1
    cases b with
    | true => exact iteT ⟨μ1, st1, hid, fr, S.next k1 g1, EPost.from g1 (by simpa using P)⟩
    | false => exact iteF ⟨μ1, st1, hid, fr, S.next k1 g1, EPost.from g1 (by simpa using P)⟩
/-- a op b op' c -/
def eChain (op op' : Op2) (f g h : Sem) : Sem := fun fr st => (f fr st).bind fun x st1 => (g fr st1).bind fun y st2 => (op x y st2).bind fun z st3 => match z with
  | .bl b => if b = true then (h fr st3).bind fun w st4 => op' y w st4 else .ok (.bl false) st3
  | _ => .bad
theorem eChain_read {op op' : Op2} {r r' : R2} {f g h : Sem} (hs : Op2S X op r) (hs' : Op2S X op' r') : ∀ σ H Q, tE X.K X.mg Wx (eChain op op' f g h) σ H Q → tChain r r' (tE X.K X.mg Wx f) (tE X.K X.mg Wx g) (tE X.K X.mg Wx h) σ H Q := fun σ H Q ⟨μ, st, hid, fr, S, P⟩ => by
  refine ⟨μ, st, hid, fr, S, ?_⟩
  unfold eChain at P
  cases h1 : f fr st with
  | bad => rw [h1] at P; exact P
  | err x s => rw [h1] at P; exact P
  | ok x st1 =>
    rw [h1, Out.bind_ok] at P
    intro μ1 H1 vx k1 g1 r1
    refine ⟨μ1, st1, hid, fr, S.next k1 g1, ?_⟩
    have P1 := EPost.from g1 P
    cases h2 : g fr st1 with
    | bad => rw [h2] at P1; exact P1
    | err x s => rw [h2] at P1; exact P1
    | ok y st2 =>
      rw [h2, Out.bind_ok] at P1
      intro μ2 H2 vy k2 g2 r2
      have P2 := EPost.from g2 P1
      refine hs Wx.w hid μ2 st2 σ H2 _ x y vx vy k2 (Rep.mono g2.le g2.pre _ _ r1) r2 ?_
      cases h3 : op x y st2 with
      | bad => rw [h3] at P2; exact P2
      | err x s => rw [h3] at P2; exact P2
      | ok z st3 =>
        rw [h3, Out.bind_ok] at P2
        intro μ3 H3 vz k3 g3 r3
        have P3 := EPost.from g3 P2
        cases z with
        | bl b =>
          refine ⟨b, rep_bl_inv r3, ?_⟩
          cases b with
          | false => exact iteF ((by simpa using P3 : EPost X.K X.mg Wx.w hid μ3 st3 σ H3 Q (.ok (.bl false) st3)) μ3 H3 _ k3 .refl rep_bl)
          | true =>
            refine iteT ⟨μ3, st3, hid, fr, S.next k3 ((g1.trans g2).trans g3), ?_⟩
            simp only [if_true] at P3
            cases h4 : h fr st3 with
            | bad => rw [h4] at P3; exact P3
            | err x s => rw [h4] at P3; exact P3
            | ok w st4 =>
              rw [h4, Out.bind_ok] at P3
              intro μ4 H4 vw k4 g4 r4
              exact hs' Wx.w hid μ4 st4 σ H4 Q y w vy vw k4 (Rep.mono (g3.trans g4).le (g3.trans g4).pre _ _ r2) r4 (EPost.from g4 P3)
        | _ => exact P3.elim
theorem ev_chain {op op' : CmpOp} {o o' : Op2} {r r' : R2} {a b c : Expr} {f g h : Sem} {pos : Pos} (ho : OpR X (compareOp op) r) (ho' : OpR X (compareOp op') r') (hs : Op2S X o r) (hs' : Op2S X o' r') (ha : EV X Wx a f) (hb : EV X Wx b g) (hc : EV X Wx c h)
    (hm : lastMarks [op, op'] [b, c] = false := by with_unfolding_all rfl) : EV X Wx (.Compare a [op, op'] [b, c] pos) (eChain o o' f g h) := PEm (pe_chain ho ho' ha hb hc hm) (eChain_read hs hs')
theorem tv_chain {op op' : CmpOp} {o o' : Op2} {r r' : R2} {a b c : Expr} {f g h : Sem} {pos : Pos} (ho : OpR X (compareOp op) r) (ho' : OpR X (compareOp op') r') (hs : Op2S X o r) (hs' : Op2S X o' r') (ha : EV X Wx a f) (hb : EV X Wx b g) (hc : EV X Wx c h)
    (hm : lastMarks [op, op'] [b, c] = false := by with_unfolding_all rfl) : TV X Wx (.Compare a [op, op'] [b, c] pos) (bOf (eChain o o' f g h)) := PTm (pt_chain ho ho' ha hb hc hm) (bOf_read (eChain_read hs hs'))
/-- an operator with one side -/
def Op1S (X : Cx) (op : Op1) (r : V → Hp → VK → Prop) : Prop := ∀ (Wx : WX) (hid μ : List Addr) (st : Sto) (σ : L2.St) (H : Hp) (Q : VK) (w : W) (x : V), StOk X.K X.mg μ st hid H → Rep X.K X.mg (Fz μ st hid H) μ w x →
  EPost X.K X.mg Wx hid μ st σ H Q (op w st) → r x H Q
def e1 (op : Op1) (f : Sem) : Sem := fun fr st => (f fr st).bind fun w st1 => op w st1
theorem e1_read {op : Op1} {r : V → Hp → VK → Prop} {f : Sem} (hs : Op1S X op r) : ∀ σ H Q, tE X.K X.mg Wx (e1 op f) σ H Q → tE X.K X.mg Wx f σ H (fun x H1 => r x H1 Q) := fun σ H Q ⟨μ, st, hid, fr, S, P⟩ => by
  refine ⟨μ, st, hid, fr, S, ?_⟩
  unfold e1 at P
  cases h : f fr st with
  | bad => rw [h] at P; exact P
  | err x s => rw [h] at P; exact P
  | ok w st1 =>
    rw [h, Out.bind_ok] at P
    intro μ1 H1 v k1 g1 r1
    exact hs Wx.w hid μ1 st1 σ H1 Q w v k1 r1 (EPost.from g1 P)
theorem ev_un {op : UnaryOp} {o : Op1} {r : V → Hp → VK → Prop} {a : Expr} {f : Sem} {pos : Pos} (ho : UnR X (unaryOp op) r) (hs : Op1S X o r) (ha : EV X Wx a f) : EV X Wx (.UnaryOp op a pos) (e1 o f) := PEm (pe_un ho ha) (e1_read hs)

/-! ## arguments -/
def aNil : SemL := fun _ st => .ok [] st
def aCons (f : Sem) (g : SemL) : SemL := fun fr st => (f fr st).bind fun w st1 => (g fr st1).bind fun ws st2 => .ok (w :: ws) st2
theorem av_nil : AV X Wx [] aNil := PAm pa_nil fun σ H Q ⟨μ, st, hid, fr, S, P⟩ => P μ H [] S.sto .refl .nil
theorem av_cons {e : Expr} {es : List Expr} {f : Sem} {g : SemL} (he : EV X Wx e f) (hr : AV X Wx es g) (hs : starEach (e :: es) X.env = (false, eval e X.env) :: starEach es X.env := by rfl) : AV X Wx (e :: es) (aCons f g) := PAm (pa_cons he hr hs) fun σ H Q ⟨μ, st, hid, fr, S, P⟩ => by
  refine ⟨μ, st, hid, fr, S, ?_⟩
  unfold aCons at P
  cases h : f fr st with
  | bad => rw [h] at P; exact P
  | err x s => rw [h] at P; exact P
  | ok w st1 =>
    rw [h, Out.bind_ok] at P
    intro μ1 H1 v k1 g1 r1
    have P1 := LPost.from g1 P
    refine ⟨μ1, st1, hid, fr, S.next k1 g1, ?_⟩
    cases h2 : g fr st1 with
    | bad => rw [h2] at P1; exact P1
    | err x s => rw [h2] at P1; exact P1
    | ok ws st2 =>
      rw [h2, Out.bind_ok] at P1
      intro μ2 H2 vs k2 g2 r2
      exact P1 μ2 H2 _ k2 g2 (.cons (Rep.mono g2.le g2.pre _ _ r1) r2)
def OpNS (X : Cx) (op : OpN) (r : List V → Hp → VK → Prop) : Prop := ∀ (Wx : WX) (hid μ : List Addr) (st : Sto) (σ : L2.St) (H : Hp) (Q : VK) (ws : List W) (vs : List V), StOk X.K X.mg μ st hid H → Reps X.K X.mg (Fz μ st hid H) μ ws vs →
  EPost X.K X.mg Wx hid μ st σ H Q (op ws st) → r vs H Q
def eN (op : OpN) (f : SemL) : Sem := fun fr st => (f fr st).bind fun ws st1 => op ws st1
theorem eN_read {op : OpN} {r : List V → Hp → VK → Prop} {f : SemL} (hs : OpNS X op r) : ∀ σ H Q, tE X.K X.mg Wx (eN op f) σ H Q → tA X.K X.mg Wx f σ H (fun vs H1 => r vs H1 Q) := fun σ H Q ⟨μ, st, hid, fr, S, P⟩ => by
  refine ⟨μ, st, hid, fr, S, ?_⟩
  unfold eN at P
  cases h : f fr st with
  | bad => rw [h] at P; exact P
  | err x s => rw [h] at P; exact P
  | ok w st1 =>
    rw [h, Out.bind_ok] at P
    intro μ1 H1 v k1 g1 r1
    exact hs Wx.w hid μ1 st1 σ H1 Q w v k1 r1 (EPost.from g1 P)
theorem ev_callB {id : String} {o : OpN} {r : List V → Hp → VK → Prop} {x : Str} {p pos : Pos} {e : Expr} {es : List Expr} {f : SemL} (hc : CallR X (.builtin id) r) (hs : OpNS X o r) (hm : X.mg x = none) (ha : AV X Wx (e :: es) f) (hv : bootBuiltins x = some (.builtin id) := by decide +kernel) (hg : Gl X x := by rfl)
    (hn : x ≠ "__name__" := by decide) (hdb : (x == ("__debug__" : Str)) = false := by decide) (he : starEach (e :: es) X.env = (false, eval e X.env) :: starEach es X.env := by rfl) (hpl : (backTo pos (starEach es X.env)).any (·.1) = false := by rfl) :
    EV X Wx (.Call (.Name x p) (e :: es) [] pos) (eN o f) := PEm (pe_callB hc hg hm hv ha hn hdb he hpl) (eN_read hs)
theorem ev_callTy {T : String} {o : OpN} {r : List V → Hp → VK → Prop} {x : Str} {p pos : Pos} {e : Expr} {es : List Expr} {f : SemL} (hc : CallR X (.type T) r) (hs : OpNS X o r) (hm : X.mg x = none) (ha : AV X Wx (e :: es) f) (hv : bootBuiltins x = some (.type T) := by decide +kernel) (hg : Gl X x := by rfl)
    (hn : x ≠ "__name__" := by decide) (hdb : (x == ("__debug__" : Str)) = false := by decide) (he : starEach (e :: es) X.env = (false, eval e X.env) :: starEach es X.env := by rfl) (hpl : (backTo pos (starEach es X.env)).any (·.1) = false := by rfl) :
    EV X Wx (.Call (.Name x p) (e :: es) [] pos) (eN o f) := PEm (pe_callTy hc hg hm hv ha hn hdb he hpl) (eN_read hs)

/-! ## an own def -/
def spF (K : PySem.W.Frag) (mg : Str → Option Value) (n : Nat) (F : Fn) : Sp := fun vs H Q E => ∃ hid μ st ws, vs.length = n ∧ StOk K mg μ st hid H ∧ Reps K mg (Fz μ st hid H) μ ws vs ∧ EPost K mg (fun c d _ H => E c d H) hid μ st [] H Q (F ws st)
def eCall (F : Fn) (f : SemL) : Sem := eN F f
theorem LPost.len {Wx : WX} {K : PySem.W.Frag} {mg : Str → Option Value} {hid μ : List Addr} {st : Sto} {σ : L2.St} {H : Hp} {Q Q' : List V → Hp → Prop} {o : Out (List W)} (h : LPost K mg Wx hid μ st σ H Q o) (i : ∀ vs H', Q vs H' → Q' vs H') : LPost K mg Wx hid μ st σ H Q' o := by
  cases o with
  | ok w s => exact fun μ2 H2 v a b c => i _ _ (h μ2 H2 v a b c)
  | err e s => exact h
  | bad => exact h
/-- an argument list of n -/
def ArN (n : Nat) (f : SemL) : Prop := ∀ fr st ws st', f fr st = .ok ws st' → ws.length = n
theorem arN_nil : ArN 0 aNil := fun _ _ _ _ h => by
  unfold aNil at h
  injection h with h1 _
  subst h1; rfl
theorem arN_cons {n : Nat} {f : Sem} {g : SemL} (h : ArN n g) : ArN (n + 1) (aCons f g) := fun fr st ws st' e => by
  unfold aCons at e
  cases h1 : f fr st with
  | bad => rw [h1] at e; cases e
  | err x s => rw [h1] at e; cases e
  | ok w st1 =>
    rw [h1, Out.bind_ok] at e
    cases h2 : g fr st1 with
    | bad => rw [h2] at e; cases e
    | err x s => rw [h2] at e; cases e
    | ok us st2 =>
      rw [h2, Out.bind_ok] at e
      injection e with e1 _
      subst e1
      simp [h _ _ _ _ h2]
theorem eCall_read {n : Nat} {F : Fn} {f : SemL} (ar : ArN n f) : ∀ σ H Q, tE X.K X.mg Wx (eCall F f) σ H Q → tCallS (spF X.K X.mg n F) (WE Wx.w) (tA X.K X.mg Wx f) σ H Q := fun σ H Q ⟨μ, st, hid, fr, S, P⟩ => by
  refine ⟨μ, st, hid, fr, S, ?_⟩
  unfold eCall eN at P
  cases h : f fr st with
  | bad => rw [h] at P; exact P
  | err x s => rw [h] at P; exact P
  | ok ws st1 =>
    rw [h, Out.bind_ok] at P
    intro μ1 H1 vs k1 g1 r1
    refine ⟨hid, μ1, st1, ws, by rw [← r1.length]; exact ar _ _ _ _ h, k1, r1, ?_⟩
    have P1 := EPost.from g1 P
    cases h2 : F ws st1 with
    | bad => rw [h2] at P1; exact P1
    | err x s => rw [h2] at P1; exact P1
    | ok u st2 => rw [h2] at P1; exact P1
theorem ev_call {k n : Nat} {g : Addr} {fd : FuncData} {ps : List Str} {F : Fn} {x : Str} {p pos : Pos} {e : Expr} {es : List Expr} {f : SemL} (G : FnOk X.prog X.w X.K X.mg X.base (L2.CX X.prog X.w) k g fd ps (spF X.K X.mg n F)) (hr : Room k X.A) (hm : X.mg x = some (.ref g)) (hk : PySem.W.keepIn X.K (.ref g) = true) (hb : Binds X.K fd ps [])
    (tk : Takes X Wx.w) (ha : AV X Wx (e :: es) f) (ar : ArN n f) (hg : Gl X x := by rfl) (hdb : (x == ("__debug__" : Str)) = false := by decide) (he : starEach (e :: es) X.env = (false, eval e X.env) :: starEach es X.env := by rfl) (hpl : (backTo pos (starEach es X.env)).any (·.1) = false := by rfl) :
    EV X Wx (.Call (.Name x p) (e :: es) [] pos) (eCall F f) := PEm (pe_callS G hr hg hm hk hb (fun σ => passAt tk σ) ha hdb he hpl) (eCall_read ar)

/-! ## displays -/
def small (ws : List W) : Bool := decide (ws.length ≤ 1000)
theorem small_line {ws : List W} {K : PySem.W.Frag} {mg : Str → Option Value} {F : Hp} {μ : List Addr} {vs : List V} (h : small ws = true) (r : Reps K mg F μ ws vs) : vs.length ≤ sizeLine := by
  rw [← r.length]
  exact Nat.le_of_lt (small1000 (of_decide_eq_true h))
def oTup : OpN := fun ws st => if small ws = true then .ok (.tup ws) st else .bad
def oLst : OpN := fun ws st => if small ws = true then .ok (.lst ws) st else .bad
/-- a new frozen object -/
theorem ok_new {Wx : WX} {K : PySem.W.Frag} {mg : Str → Option Value} {hid μ : List Addr} {st : Sto} {σ : L2.St} {H : Hp} {Q : VK} {w : W} {o : HO} (P : EPost K mg Wx hid μ st σ H Q (.ok w st)) (k : StOk K mg μ st hid H) {p : Addr} (hp : H p = none) (r : ∀ F, Le (Fz μ st hid H) F → F p = some o → Rep K mg F μ w (.ref p)) : Q (.ref p) (upd H p o) := by
  obtain ⟨k1, g1, e1⟩ := k.laid (o := o) hp
  exact P μ _ _ k1 g1 (r _ g1.le e1)
theorem ev_tup {es : List Expr} {f : SemL} {x1} {pos : Pos} (h : AV X Wx es f) : EV X Wx (.Tuple es x1 pos) (eN oTup f) := PEm (pe_tup h) fun σ H Q P => by
  refine eN_read (r := fun vs H1 Q => vs.length ≤ sizeLine ∧ ∀ p, H1 p = none → Q (.ref p) (upd H1 p (.tup vs))) ?_ σ H Q P
  intro Wx hid μ st σ H Q ws vs k r P
  unfold oTup at P
  split at P
  · rename_i hs
    exact ⟨small_line hs r, fun p hp => ok_new P k hp fun F l e => rep_tup e (r.mono l (.refl _))⟩
  · exact P.elim
theorem ev_lst {es : List Expr} {f : SemL} {pos : Pos} (h : AV X Wx es f) : EV X Wx (.List es pos) (eN oLst f) := PEm (pe_lst h) fun σ H Q P => by
  refine eN_read (r := fun vs H1 Q => vs.length ≤ sizeLine ∧ ∀ p, H1 p = none → Q (.ref p) (upd H1 p (.lst vs))) ?_ σ H Q P
  intro Wx hid μ st σ H Q ws vs k r P
  unfold oLst at P
  split at P
  · rename_i hs
    exact ⟨small_line hs r, fun p hp => ok_new P k hp fun F l e => rep_lst e (r.mono l (.refl _))⟩
  · exact P.elim
end
end SL

namespace SL
open PySem PySem.Spec PyProof.Rows L2

/-! ## what a cell or a value holds -/
def lstW (st : Sto) : W → Option (List W)
  | .lst ws => some ws
  | .ro ws => some ws
  | .cell k => match st[k]? with
    | some (.lst ws) => some ws
    | some (.frz (.lst ws)) => some ws
    | _ => none
  | _ => none
def tupW (st : Sto) : W → Option (List W)
  | .tup ws => some ws
  | .cell k => match st[k]? with
    | some (.frz (.tup ws)) => some ws
    | _ => none
  | _ => none
section
variable {K : PySem.W.Frag} {mg : Str → Option Value} {μ : List Addr} {st : Sto} {hid : List Addr} {H : Hp}
theorem SqL.fz {a : Addr} {vs : List V} (h : Fz μ st hid H a = some (.lst vs)) : SqL K H a vs := .of (Fz.sub h).1
theorem SqL.fz' {a : Addr} {vs : List V} (h : SqL K (Fz μ st hid H) a vs) : SqL K H a vs := SqL.le Fz.le h
theorem TupAt.fz {a : Addr} {vs : List V} (h : TupAt K (Fz μ st hid H) a vs) : SqT K H a vs := SqT.le Fz.le h.sq
theorem StOk.cell (s : StOk K mg μ st hid H) {k : Nat} {c : Cel} {v : V} (h : st[k]? = some c) (r : Rep K mg (Fz μ st hid H) μ (.cell k) v) : ∃ a, v = .ref a ∧ μ[k]? = some a ∧ CelOk K mg (Fz μ st hid H) μ H a c := by
  obtain ⟨a, h1, h2⟩ := rep_cell_inv r
  exact ⟨a, h2, h1, s.ok k a c h1 h⟩
theorem lstW_at (s : StOk K mg μ st hid H) {w : W} {ws : List W} {v : V} (h : lstW st w = some ws) (r : Rep K mg (Fz μ st hid H) μ w v) : ∃ a vs, v = .ref a ∧ SqL K H a vs ∧ Reps K mg (Fz μ st hid H) μ ws vs := by
  cases w with
  | lst us =>
    unfold lstW at h; cases h
    obtain ⟨a, vs, e, h1, h2⟩ := rep_lst_inv r
    exact ⟨a, vs, e, SqL.fz h1, h2⟩
  | ro us =>
    unfold lstW at h; cases h
    obtain ⟨a, vs, e, h1, h2⟩ := rep_ro_inv r
    exact ⟨a, vs, e, SqL.fz' h1, h2⟩
  | cell k =>
    unfold lstW at h
    simp only at h
    split at h
    · rename_i us e
      cases h
      obtain ⟨a, e1, e2, vs, h1, h2⟩ := s.cell e r
      exact ⟨a, vs, e1, .of h1, h2⟩
    · rename_i us e
      cases h
      obtain ⟨a, e1, e2, h1⟩ := s.cell e r
      obtain ⟨b, vs, e3, h1, h2⟩ := rep_lst_inv h1
      cases e3
      exact ⟨a, vs, e1, SqL.fz h1, h2⟩
    · cases h
  | _ => cases h
theorem tupW_at (s : StOk K mg μ st hid H) {w : W} {ws : List W} {v : V} (h : tupW st w = some ws) (r : Rep K mg (Fz μ st hid H) μ w v) : ∃ a vs, v = .ref a ∧ TupAt K (Fz μ st hid H) a vs ∧ Reps K mg (Fz μ st hid H) μ ws vs := by
  cases w with
  | tup us =>
    unfold tupW at h; cases h
    exact rep_tup_inv r
  | cell k =>
    unfold tupW at h
    simp only at h
    split at h
    · rename_i us e
      cases h
      obtain ⟨a, e1, e2, h1⟩ := s.cell e r
      obtain ⟨b, vs, e3, h1, h2⟩ := rep_tup_inv h1
      cases e3
      exact ⟨a, vs, e1, h1, h2⟩
    · cases h
  | _ => cases h
/-- a list or a tuple -/
def seqW (st : Sto) (w : W) : Option (List W) := match lstW st w with
  | some ws => some ws
  | none => tupW st w
theorem seqW_at (s : StOk K mg μ st hid H) {w : W} {ws : List W} {v : V} (h : seqW st w = some ws) (r : Rep K mg (Fz μ st hid H) μ w v) : ∃ a vs, v = .ref a ∧ (SqL K H a vs ∨ SqT K H a vs) ∧ Reps K mg (Fz μ st hid H) μ ws vs := by
  unfold seqW at h
  split at h
  · rename_i us e
    cases h
    obtain ⟨a, vs, e1, e2, e3⟩ := lstW_at s e r
    exact ⟨a, vs, e1, .inl e2, e3⟩
  · obtain ⟨a, vs, e1, e2, e3⟩ := tupW_at s h r
    exact ⟨a, vs, e1, .inr e2.fz, e3⟩
end
section
variable {X : Cx}

/-! ## ints -/
def LINE : Nat := 16777216
theorem le_line {n : Nat} (h : n ≤ LINE) : n ≤ sizeLine := by rw [sizeLine_eq]; exact h
def oAdd : Op2 := fun x y st => match x, y with
  | .int i, .int j => .ok (.int (i + j)) st
  | .str a, .str b => if a.length + b.length ≤ LINE then .ok (.str (a ++ b)) st else .bad
  | .tup a, .tup b => if a.length + b.length ≤ LINE then .ok (.tup (a ++ b)) st else .bad
  | .lst a, .lst b => if a.length + b.length ≤ LINE then .ok (.lst (a ++ b)) st else .bad
  | _, _ => .bad
def rAddAll (K : PySem.W.Frag) : R2 := fun x y H Q => rI0 (fun i j => .int (i + j)) x y H Q ∨ (∃ i j, x = .str i ∧ y = .str j ∧ i.length + j.length ≤ sizeLine ∧ Q (.str (i ++ j)) H) ∨ rCatA K x y H Q ∨ rCat x y H Q
theorem or_add : OpR X (binaryOp .Add) (rAddAll X.K) := op_add.or (op_add_str.or (op_catA.or op_cat))
theorem os_add : Op2S X oAdd (rAddAll X.K) := by
  intro Wx hid μ st σ H Q w u x y k rx ry P
  unfold oAdd at P
  split at P
  · cases rep_int_inv rx; cases rep_int_inv ry
    exact .inl ⟨_, _, rfl, rfl, P μ H _ k .refl rep_int⟩
  · cases rep_str_inv rx; cases rep_str_inv ry
    split at P
    · rename_i hz
      exact .inr (.inl ⟨_, _, rfl, rfl, le_line hz, P μ H _ k .refl rep_str⟩)
    · exact P.elim
  · split at P
    · rename_i a b hz
      obtain ⟨p, vs, rfl, h1, h2⟩ := rep_tup_inv rx
      obtain ⟨q, zs, rfl, h3, h4⟩ := rep_tup_inv ry
      refine .inr (.inr (.inl ⟨p, q, vs, zs, rfl, rfl, h1.fz, h3.fz, by rw [← h2.length, ← h4.length]; exact le_line hz, fun e => ?_, fun _ e => ?_, fun _ _ t ht => ?_⟩))
      · subst e
        have : a = [] := List.eq_nil_of_length_eq_zero (by rw [h2.length]; rfl)
        subst this
        exact P μ H _ k .refl (by simpa using ry)
      · subst e
        have : b = [] := List.eq_nil_of_length_eq_zero (by rw [h4.length]; rfl)
        subst this
        exact P μ H _ k .refl (by simpa using rx)
      · exact ok_new P k ht fun F l e => rep_tup e ((h2.append h4).mono l (.refl _))
    · exact P.elim
  · split at P
    · rename_i a b hz
      obtain ⟨p, vs, rfl, h1, h2⟩ := rep_lst_inv rx
      obtain ⟨q, zs, rfl, h3, h4⟩ := rep_lst_inv ry
      refine .inr (.inr (.inr ⟨p, q, vs, zs, rfl, rfl, (Fz.sub h1).1, (Fz.sub h3).1, by rw [← h2.length, ← h4.length]; exact le_line hz, fun t ht => ?_⟩))
      exact ok_new P k ht fun F l e => rep_lst e ((h2.append h4).mono l (.refl _))
    · exact P.elim
  · exact P.elim
def oSub : Op2 := fun x y st => match x, y with
  | .int i, .int j => .ok (.int (i - j)) st
  | _, _ => .bad
theorem os_sub : Op2S X oSub (rI0 fun i j => .int (i - j)) := by
  intro Wx hid μ st σ H Q w u x y k rx ry P
  unfold oSub at P
  split at P
  · cases rep_int_inv rx; cases rep_int_inv ry
    exact ⟨_, _, rfl, rfl, P μ H _ k .refl rep_int⟩
  · exact P.elim
/-- a condition that nothing reckons out -/
noncomputable def dec (p : Prop) : Bool := @decide p (Classical.propDecidable p)
theorem dec_of {p : Prop} (h : dec p = true) : p := @of_decide_eq_true p (Classical.propDecidable p) h
theorem dec_mk {p : Prop} (h : p) : dec p = true := @decide_eq_true p (Classical.propDecidable p) h
noncomputable def mulOk (i j : Int) : Bool := dec ((-(2 ^ 64) < i ∧ i < 2 ^ 64) ∨ (-(2 ^ 64) < j ∧ j < 2 ^ 64)) || dec (i.natAbs.log2 + j.natAbs.log2 < 1000000)
noncomputable def oMul : Op2 := fun x y st => match x, y with
  | .int i, .int j => if mulOk i j = true then .ok (.int (i * j)) st else .bad
  | _, _ => .bad
def rMulAll : R2 := fun x y H Q => rI CMul (fun i j => .int (i * j)) x y H Q ∨ rI CMulW (fun i j => .int (i * j)) x y H Q
theorem or_mul : OpR X (binaryOp .Mult) rMulAll := op_mul.or op_mulW
theorem os_mul : Op2S X oMul rMulAll := by
  intro Wx hid μ st σ H Q w u x y k rx ry P
  unfold oMul at P
  split at P
  · cases rep_int_inv rx; cases rep_int_inv ry
    split at P
    · rename_i hz
      unfold mulOk at hz
      rw [Bool.or_eq_true] at hz
      rcases hz with hz | hz
      · have hz' := dec_of hz
        exact .inl ⟨_, _, rfl, rfl, hz', P μ H _ k .refl rep_int⟩
      · have hz' := dec_of hz
        exact .inr ⟨_, _, rfl, rfl, hz', P μ H _ k .refl rep_int⟩
    · exact P.elim
  · exact P.elim
noncomputable def oDiv : Op2 := fun x y st => match x, y with
  | .int i, .int j => if dec (0 < j ∧ j.natAbs.log2 < 9000) = true then .ok (.int (i / j)) st else .bad
  | _, _ => .bad
theorem os_div : Op2S X oDiv (rI CDivW fun i j => .int (i / j)) := by
  intro Wx hid μ st σ H Q w u x y k rx ry P
  unfold oDiv at P
  split at P
  · cases rep_int_inv rx; cases rep_int_inv ry
    split at P
    · rename_i hz
      exact ⟨_, _, rfl, rfl, dec_of hz, P μ H _ k .refl rep_int⟩
    · exact P.elim
  · exact P.elim
def oMod : Op2 := fun x y st => match x, y with
  | .int i, .int j => if 0 < j then .ok (.int (i % j)) st else .bad
  | _, _ => .bad
theorem os_mod : Op2S X oMod (rI (fun _ j => 0 < j) fun i j => .int (i % j)) := by
  intro Wx hid μ st σ H Q w u x y k rx ry P
  unfold oMod at P
  split at P
  · cases rep_int_inv rx; cases rep_int_inv ry
    split at P
    · rename_i hz
      exact ⟨_, _, rfl, rfl, hz, P μ H _ k .refl rep_int⟩
    · exact P.elim
  · exact P.elim
noncomputable def oPow : Op2 := fun x y st => match x, y with
  | .int i, .int j => if dec (0 ≤ j ∧ j ≤ 1000000 ∧ i.natAbs < 2 ^ 64) = true then .ok (.int (i ^ j.toNat)) st else .bad
  | _, _ => .bad
theorem os_pow : Op2S X oPow (rI CPow fun i j => .int (i ^ j.toNat)) := by
  intro Wx hid μ st σ H Q w u x y k rx ry P
  unfold oPow at P
  split at P
  · cases rep_int_inv rx; cases rep_int_inv ry
    split at P
    · rename_i hz
      exact ⟨_, _, rfl, rfl, dec_of hz, P μ H _ k .refl rep_int⟩
    · exact P.elim
  · exact P.elim
def oNeg : Op1 := fun x st => match x with
  | .int i => .ok (.int (-i)) st
  | _ => .bad
theorem os_neg : Op1S X oNeg (rU fun i => .int (-i)) := by
  intro Wx hid μ st σ H Q w x k rx P
  unfold oNeg at P
  split at P
  · cases rep_int_inv rx
    exact ⟨_, rfl, P μ H _ k .refl rep_int⟩
  · exact P.elim
/-- order of ints, of texts -/
def oCmpI (p : Int → Int → Bool) (q : List Nat → List Nat → Bool) : Op2 := fun x y st => match x, y with
  | .int i, .int j => .ok (.bl (p i j)) st
  | .str a, .str b => .ok (.bl (q a.cps.toList b.cps.toList)) st
  | _, _ => .bad
def oLt : Op2 := oCmpI (fun i j => decide (i < j)) fun a b => decide (a < b)
def oLe : Op2 := fun x y st => match x, y with
  | .int i, .int j => .ok (.bl (decide (i ≤ j))) st
  | _, _ => .bad
def oGt : Op2 := fun x y st => match x, y with
  | .int i, .int j => .ok (.bl (decide (j < i))) st
  | _, _ => .bad
def oGe : Op2 := fun x y st => match x, y with
  | .int i, .int j => .ok (.bl (decide (j ≤ i))) st
  | _, _ => .bad
def rLtAll : R2 := fun x y H Q => rI0 (fun i j => .bl (decide (i < j))) x y H Q ∨ (∃ i j, x = .str i ∧ y = .str j ∧ Q (.bl (decide (i.cps.toList < j.cps.toList))) H)
theorem or_lt : OpR X (compareOp .Lt) rLtAll := op_lt.or op_lt_str
theorem os_lt : Op2S X oLt rLtAll := by
  intro Wx hid μ st σ H Q w u x y k rx ry P
  unfold oLt oCmpI at P
  split at P
  · cases rep_int_inv rx; cases rep_int_inv ry
    exact .inl ⟨_, _, rfl, rfl, P μ H _ k .refl rep_bl⟩
  · cases rep_str_inv rx; cases rep_str_inv ry
    exact .inr ⟨_, _, rfl, rfl, P μ H _ k .refl rep_bl⟩
  · exact P.elim
theorem os_le : Op2S X oLe (rI0 fun i j => .bl (decide (i ≤ j))) := by
  intro Wx hid μ st σ H Q w u x y k rx ry P
  unfold oLe at P
  split at P
  · cases rep_int_inv rx; cases rep_int_inv ry
    exact ⟨_, _, rfl, rfl, P μ H _ k .refl rep_bl⟩
  · exact P.elim
theorem os_gt : Op2S X oGt (rI0 fun i j => .bl (decide (j < i))) := by
  intro Wx hid μ st σ H Q w u x y k rx ry P
  unfold oGt at P
  split at P
  · cases rep_int_inv rx; cases rep_int_inv ry
    exact ⟨_, _, rfl, rfl, P μ H _ k .refl rep_bl⟩
  · exact P.elim
theorem os_ge : Op2S X oGe (rI0 fun i j => .bl (decide (j ≤ i))) := by
  intro Wx hid μ st σ H Q w u x y k rx ry P
  unfold oGe at P
  split at P
  · cases rep_int_inv rx; cases rep_int_inv ry
    exact ⟨_, _, rfl, rfl, P μ H _ k .refl rep_bl⟩
  · exact P.elim

/-! ## == of data -/
mutual
def pdW : W → Option PyData
  | .non => some .none
  | .bl b => some (.bool b)
  | .int i => some (.int i)
  | .str x => some (.str x)
  | .tup ws => (pdWs ws).map .tuple
  | .lst ws => (pdWs ws).map .list
  | .ro ws => (pdWs ws).map .list
  | _ => none
def pdWs : List W → Option (List PyData)
  | [] => some []
  | w :: r => match pdW w, pdWs r with
    | some d, some ds => some (d :: ds)
    | _, _ => none
end
mutual
theorem pdW_at {K : PySem.W.Frag} {mg : Str → Option Value} {F H : Hp} {μ : List Addr} (l : Le F H) : ∀ (w : W) (v : V) (d : PyData), pdW w = some d → Rep K mg F μ w v → Dp K H v d
  | .non, v, d, h, r => by unfold pdW at h; cases h; cases rep_non_inv r; exact .non
  | .bl b, v, d, h, r => by unfold pdW at h; cases h; cases rep_bl_inv r; exact .bl b
  | .int b, v, d, h, r => by unfold pdW at h; cases h; cases rep_int_inv r; exact .int b
  | .str b, v, d, h, r => by unfold pdW at h; cases h; cases rep_str_inv r; exact .str b
  | .tup ws, v, d, h, r => by
    unfold pdW at h
    obtain ⟨a, vs, rfl, h1, h2⟩ := rep_tup_inv r
    cases e : pdWs ws with
    | none => rw [e] at h; cases h
    | some ds =>
      rw [e] at h; cases h
      exact .tup (SqT.le l h1.sq) (pdWs_at l ws vs ds e h2)
  | .lst ws, v, d, h, r => by
    unfold pdW at h
    obtain ⟨a, vs, rfl, h1, h2⟩ := rep_lst_inv r
    cases e : pdWs ws with
    | none => rw [e] at h; cases h
    | some ds =>
      rw [e] at h; cases h
      exact .lst (.of (l.lst h1)) (pdWs_at l ws vs ds e h2)
  | .ro ws, v, d, h, r => by
    unfold pdW at h
    obtain ⟨a, vs, rfl, h1, h2⟩ := rep_ro_inv r
    cases e : pdWs ws with
    | none => rw [e] at h; cases h
    | some ds =>
      rw [e] at h; cases h
      exact .lst (SqL.le l h1) (pdWs_at l ws vs ds e h2)
  | .dct ks ws, v, d, h, r => by unfold pdW at h; cases h
  | .ins c ks ws, v, d, h, r => by unfold pdW at h; cases h
  | .cell k, v, d, h, r => by unfold pdW at h; cases h
  | .ty k, v, d, h, r => by unfold pdW at h; cases h
  | .cls k, v, d, h, r => by unfold pdW at h; cases h
theorem pdWs_at {K : PySem.W.Frag} {mg : Str → Option Value} {F H : Hp} {μ : List Addr} (l : Le F H) : ∀ (ws : List W) (vs : List V) (ds : List PyData), pdWs ws = some ds → Reps K mg F μ ws vs → DpAll K H vs ds
  | [], vs, ds, h, r => by
    unfold pdWs at h; cases h
    rw [Reps.nil_iff] at r; subst r; exact .nil
  | w :: ws, vs, ds, h, r => by
    unfold pdWs at h
    obtain ⟨v, vr, rfl, r1, r2⟩ := r.cons_inv
    cases e1 : pdW w with
    | none => rw [e1] at h; cases h
    | some d =>
      cases e2 : pdWs ws with
      | none => rw [e1, e2] at h; cases h
      | some dr =>
        rw [e1, e2] at h; cases h
        exact .cons (pdW_at l w v d e1 r1) (pdWs_at l ws vr dr e2 r2)
end
/-- .. with a cell looked into -/
def pdT (st : Sto) : W → Option PyData
  | .cell k => match st[k]? with
    | some (.lst ws) => (pdWs ws).map .list
    | some (.frz w) => pdW w
    | _ => none
  | w => pdW w
theorem pdT_at {K : PySem.W.Frag} {mg : Str → Option Value} {H : Hp} {hid μ : List Addr} {st : Sto} (k : StOk K mg μ st hid H) {w : W} {v : V} {d : PyData} (h : pdT st w = some d) (r : Rep K mg (Fz μ st hid H) μ w v) : Dp K H v d := by
  cases w with
  | cell n =>
    unfold pdT at h
    simp only at h
    split at h
    · rename_i ws e
      obtain ⟨a, rfl, e2, vs, h1, h2⟩ := k.cell e r
      cases e3 : pdWs ws with
      | none => rw [e3] at h; cases h
      | some ds =>
        rw [e3] at h; cases h
        exact .lst (.of h1) (pdWs_at Fz.le ws vs ds e3 h2)
    · rename_i u e
      obtain ⟨a, rfl, e2, h1⟩ := k.cell e r
      exact pdW_at Fz.le u _ d h h1
    · cases h
  | _ => exact pdW_at Fz.le _ _ _ h r
def eqW (st : Sto) (x y : W) : Option Bool := match pdT st x, pdT st y with
  | some d, some e => if SeqAt.shaped d && SeqAt.shaped e then some (PyData.eqv d e) else none
  | _, _ => none
def oEq : Op2 := fun x y st => match eqW st x y with
  | some b => .ok (.bl b) st
  | none => .bad
def oNe : Op2 := fun x y st => match eqW st x y with
  | some b => .ok (.bl (!b)) st
  | none => .bad
theorem eqW_at {K : PySem.W.Frag} {mg : Str → Option Value} {H : Hp} {hid μ : List Addr} {st : Sto} (k : StOk K mg μ st hid H) {w u : W} {x y : V} {b : Bool} (h : eqW st w u = some b) (rx : Rep K mg (Fz μ st hid H) μ w x) (ry : Rep K mg (Fz μ st hid H) μ u y) :
    ∃ d e, Dp K H x d ∧ Dp K H y e ∧ SeqAt.shaped d = true ∧ SeqAt.shaped e = true ∧ b = PyData.eqv d e := by
  unfold eqW at h
  split at h
  · rename_i d e h1 h2
    split at h
    · rename_i h3
      rw [Bool.and_eq_true] at h3
      cases h
      exact ⟨d, e, pdT_at k h1 rx, pdT_at k h2 ry, h3.1, h3.2, rfl⟩
    · cases h
  · cases h
theorem os_eq : Op2S X oEq (rEqD X.K) := by
  intro Wx hid μ st σ H Q w u x y k rx ry P
  unfold oEq at P
  split at P
  · rename_i b h
    obtain ⟨d, e, h1, h2, h3, h4, rfl⟩ := eqW_at k h rx ry
    exact ⟨d, e, h1, h2, h3, h4, P μ H _ k .refl rep_bl⟩
  · exact P.elim
theorem os_ne : Op2S X oNe (rNeD X.K) := by
  intro Wx hid μ st σ H Q w u x y k rx ry P
  unfold oNe at P
  split at P
  · rename_i b h
    obtain ⟨d, e, h1, h2, h3, h4, rfl⟩ := eqW_at k h rx ry
    exact ⟨d, e, h1, h2, h3, h4, P μ H _ k .refl rep_bl⟩
  · exact P.elim
/-- is None, is a bool -/
def isNon : W → Bool
  | .non => true
  | _ => false
theorem isNon_at {K : PySem.W.Frag} {mg : Str → Option Value} {F : Hp} {μ : List Addr} : ∀ {w : W} {v : V}, Rep K mg F μ w v → decide (v = .non) = isNon w := fun {w v} r => by
  cases w with
  | non => cases rep_non_inv r; rfl
  | bl b => cases rep_bl_inv r; rfl
  | int b => cases rep_int_inv r; rfl
  | str b => cases rep_str_inv r; rfl
  | ty b => cases rep_ty_inv r; rfl
  | cls b => obtain ⟨C, _, rfl⟩ := rep_cls_inv r; rfl
  | tup ws => obtain ⟨a, vs, rfl, _⟩ := rep_tup_inv r; rfl
  | lst ws => obtain ⟨a, vs, rfl, _⟩ := rep_lst_inv r; rfl
  | ro ws => obtain ⟨a, vs, rfl, _⟩ := rep_ro_inv r; rfl
  | cell k => obtain ⟨a, _, rfl⟩ := rep_cell_inv r; rfl
  | dct ks ws => unfold Rep at r; obtain ⟨a, vs, rfl, _⟩ := r; rfl
  | ins c ns ws => unfold Rep at r; obtain ⟨a, C, dx, vs, rfl, _⟩ := r; rfl
def oIs : Op2 := fun x y st => match y with
  | .non => .ok (.bl (isNon x)) st
  | .bl b => match x with
    | .bl a => .ok (.bl (decide (a = b))) st
    | _ => .bad
  | _ => .bad
def oIsN : Op2 := fun x y st => match y with
  | .non => .ok (.bl (!isNon x)) st
  | .bl b => match x with
    | .bl a => .ok (.bl (!decide (a = b))) st
    | _ => .bad
  | _ => .bad
def rIsAll : R2 := fun x y H Q => (y = .non ∧ Q (.bl (decide (x = .non))) H) ∨ rIsB x y H Q
def rIsNAll : R2 := fun x y H Q => (y = .non ∧ Q (.bl (!decide (x = .non))) H) ∨ rNotB x y H Q
theorem or_is : OpR X (compareOp .Is) rIsAll := op_isN.or op_isBl
theorem or_isN : OpR X (compareOp .IsNot) rIsNAll := op_notN.or op_notBl
theorem os_is : Op2S X oIs rIsAll := by
  intro Wx hid μ st σ H Q w u x y k rx ry P
  unfold oIs at P
  split at P
  · refine .inl ⟨rep_non_inv ry, ?_⟩
    rw [isNon_at rx]
    exact P μ H _ k .refl rep_bl
  · split at P
    · exact .inr ⟨_, _, rep_bl_inv rx, rep_bl_inv ry, P μ H _ k .refl rep_bl⟩
    · exact P.elim
  · exact P.elim
theorem os_isN : Op2S X oIsN rIsNAll := by
  intro Wx hid μ st σ H Q w u x y k rx ry P
  unfold oIsN at P
  split at P
  · refine .inl ⟨rep_non_inv ry, ?_⟩
    rw [isNon_at rx]
    exact P μ H _ k .refl rep_bl
  · split at P
    · exact .inr ⟨_, _, rep_bl_inv rx, rep_bl_inv ry, P μ H _ k .refl rep_bl⟩
    · exact P.elim
  · exact P.elim

/-! ## isinstance -/
/-- a walked dict of tuple keys is asked nothing -/
def tlK : List W → Bool
  | .ty t :: _ => t == "TL"
  | _ => false
def tyW (st : Sto) : W → Option String
  | .non => some "NoneType"
  | .bl _ => some "bool"
  | .int _ => some "int"
  | .str _ => some "str"
  | .tup _ => some "tuple"
  | .lst _ => some "list"
  | .dct ks _ => if tlK ks = true then none else some "dict"
  | .cell k => match st[k]? with
    | some (.lst _) => some "list"
    | some (.dct ks _) => if tlK ks = true then none else some "dict"
    | some (.frz (.lst _)) => some "list"
    | some (.frz (.tup _)) => some "tuple"
    | _ => none
  | _ => none
theorem kind_T {ks : List W} {q : List Key ⊕ List (List Key)} {l : Bool} (h : kindW ks = some (l, q)) : (∃ kk, q = .inl kk) ∨ ((∃ kk, q = .inr kk) ∧ (l = false ∨ tlK ks = true)) := by
  cases ks with
  | nil => cases h; exact .inl ⟨_, rfl⟩
  | cons w ks =>
    cases w with
    | ty t =>
      have z : kindW (.ty t :: ks) = if t = "L" then (mapO keyW ks).map fun kk => (true, .inl kk) else if t = "T" then (mapO keyT ks).map fun kk => (false, .inr kk) else if t = "TL" then (mapO keyT ks).map fun kk => (true, .inr kk) else none := rfl
      rw [z] at h
      by_cases h1 : t = "L"
      · rw [if_pos h1] at h
        cases m : mapO keyW ks with
        | none => rw [m] at h; cases h
        | some kk => rw [m] at h; cases h; exact .inl ⟨_, rfl⟩
      · rw [if_neg h1] at h
        by_cases h2 : t = "T"
        · rw [if_pos h2] at h
          cases m : mapO keyT ks with
          | none => rw [m] at h; cases h
          | some kk => rw [m] at h; cases h; exact .inr ⟨⟨_, rfl⟩, .inl rfl⟩
        · rw [if_neg h2] at h
          by_cases h3 : t = "TL"
          · exact .inr ⟨by
              rw [if_pos h3] at h
              cases m : mapO keyT ks with
              | none => rw [m] at h; cases h
              | some kk => rw [m] at h; cases h; exact ⟨_, rfl⟩, .inr (beq_iff_eq.mpr h3)⟩
          · rw [if_neg h3] at h; cases h
    | int i =>
      have z : kindW (.int i :: ks) = (mapO keyW (.int i :: ks)).map fun kk => (false, .inl kk) := rfl
      rw [z] at h
      cases m : mapO keyW (.int i :: ks) with
      | none => rw [m] at h; cases h
      | some kk => rw [m] at h; cases h; exact .inl ⟨_, rfl⟩
    | str i =>
      have z : kindW (.str i :: ks) = (mapO keyW (.str i :: ks)).map fun kk => (false, .inl kk) := rfl
      rw [z] at h
      cases m : mapO keyW (.str i :: ks) with
      | none => rw [m] at h; cases h
      | some kk => rw [m] at h; cases h; exact .inl ⟨_, rfl⟩
    | _ => cases h
theorem dct_ty {K : PySem.W.Frag} {F H : Hp} {a : Addr} {ks : List W} {vs : List V} (l : ∀ o, F a = some o → H a = some o) (h : DctAt F a ks vs) (ht : ¬ tlK ks = true) : TyX K H (.ref a) (.type "dict") := by
  obtain ⟨b, q, h1, h2, h3, h4⟩ := h
  rcases kind_T h1 with ⟨kk, rfl⟩ | ⟨⟨kk, rfl⟩, hb | hb⟩
  · rcases h3 with h3 | ⟨o, h3⟩
    · exact .base (.dK (l _ h3))
    · exact .fDict (l _ h3)
  · exact .base (.dT (l _ (h4 hb kk rfl)))
  · exact absurd hb ht
theorem tup_ty {K : PySem.W.Frag} {F H : Hp} {a : Addr} {vs : List V} (l : Le F H) (h : TupAt K F a vs) : TyX K H (.ref a) (.type "tuple") := by
  exact .base (.tup (l.fix _ _ trivial h))
theorem tyW_at {K : PySem.W.Frag} {mg : Str → Option Value} {H : Hp} {hid μ : List Addr} {st : Sto} (k : StOk K mg μ st hid H) {w : W} {v : V} {t : String} (h : tyW st w = some t) (r : Rep K mg (Fz μ st hid H) μ w v) : TyX K H v (.type t) := by
  cases w with
  | non => unfold tyW at h; cases h; cases rep_non_inv r; exact .base .non
  | bl b => unfold tyW at h; cases h; cases rep_bl_inv r; exact .base (.bl b)
  | int b => unfold tyW at h; cases h; cases rep_int_inv r; exact .base (.int b)
  | str b => unfold tyW at h; cases h; cases rep_str_inv r; exact .base (.str b)
  | tup ws => unfold tyW at h; cases h; obtain ⟨a, vs, rfl, h1, _⟩ := rep_tup_inv r; exact tup_ty Fz.le h1
  | lst ws => unfold tyW at h; cases h; obtain ⟨a, vs, rfl, h1, _⟩ := rep_lst_inv r; exact .base (.lst (Fz.sub h1).1)
  | dct ks ws =>
    have h' : (if tlK ks = true then none else some "dict") = some t := h
    split at h'
    · cases h'
    · rename_i ht
      cases h'
      unfold Rep at r
      obtain ⟨a, vs, rfl, h1, _⟩ := r
      exact dct_ty (fun _ z => (Fz.sub z).1) h1 ht
  | cell n =>
    unfold tyW at h
    simp only at h
    split at h
    · rename_i ws e
      cases h
      obtain ⟨a, rfl, e2, vs, h1, h2⟩ := k.cell e r
      exact .base (.lst h1)
    · rename_i ks ws e
      by_cases ht : tlK ks = true
      · rw [if_pos ht] at h; cases h
      · rw [if_neg ht] at h
        cases h
        obtain ⟨a, rfl, e2, vs, h1, h2⟩ := k.cell e r
        exact dct_ty (fun _ z => z) h1.rd ht
    · rename_i ws e
      cases h
      obtain ⟨a, rfl, e2, h1⟩ := k.cell e r
      obtain ⟨b, vs, e3, h2, _⟩ := rep_lst_inv h1
      cases e3
      exact .base (.lst (Fz.sub h2).1)
    · rename_i ws e
      cases h
      obtain ⟨a, rfl, e2, h1⟩ := k.cell e r
      obtain ⟨b, vs, e3, h2, _⟩ := rep_tup_inv h1
      cases e3
      exact tup_ty Fz.le h2
    · cases h
  | _ => cases h
/-- is a value of the type a one of b? -/
def subT (a b : String) : Bool := a == b || (a == "bool" && b == "int")
def tyNames : List W → Option (List String)
  | [] => some []
  | .ty n :: r => (tyNames r).map (n :: ·)
  | _ => none
def tyN (n : String) : Bool := n == "int" || n == "bool" || n == "str" || n == "tuple" || n == "list" || n == "dict" || n == "NoneType"
theorem kit_sub {K : PySem.W.Frag} {a b : String} (ha : tyN a = true) (hb : tyN b = true) : PySem.W.kitOne K (.type a) (.type b) = some (subT a b) := by
  simp only [tyN, Bool.or_eq_true, beq_iff_eq] at ha hb
  rcases ha with (((((rfl | rfl) | rfl) | rfl) | rfl) | rfl) | rfl <;> rcases hb with (((((rfl | rfl) | rfl) | rfl) | rfl) | rfl) | rfl <;> exact kit_ty (by decide +kernel)
end
end SL

namespace SL
open PySem PySem.Spec PyProof.Rows L2
section
variable {K : PySem.W.Frag} {mg : Str → Option Value} {μ : List Addr} {st : Sto} {hid : List Addr} {H F : Hp}
theorem reps1 {ws : List W} {w : W} {vs : List V} (r : Reps K mg F μ [w] vs) : ∃ v, vs = [v] ∧ Rep K mg F μ w v := by
  obtain ⟨v, t, rfl, h1, h2⟩ := r.cons_inv
  rw [Reps.nil_iff] at h2; subst h2
  exact ⟨v, rfl, h1⟩
theorem reps2 {w u : W} {vs : List V} (r : Reps K mg F μ [w, u] vs) : ∃ v x, vs = [v, x] ∧ Rep K mg F μ w v ∧ Rep K mg F μ u x := by
  obtain ⟨v, t, rfl, h1, h2⟩ := r.cons_inv
  obtain ⟨x, rfl, h3⟩ := reps1 (ws := []) h2
  exact ⟨v, x, rfl, h1, h3⟩
theorem tyNames_at : ∀ {ws : List W} {ns : List String} {vs : List V}, tyNames ws = some ns → Reps K mg F μ ws vs → vs = ns.map V.ty
  | [], ns, vs, h, r => by unfold tyNames at h; cases h; rw [Reps.nil_iff] at r; subst r; rfl
  | .ty n :: ws, ns, vs, h, r => by
    unfold tyNames at h
    obtain ⟨v, t, rfl, h1, h2⟩ := r.cons_inv
    cases e : tyNames ws with
    | none => rw [e] at h; cases h
    | some ms =>
      rw [e] at h; cases h
      rw [rep_ty_inv h1, tyNames_at e h2]; rfl
  | .non :: _, _, _, h, _ | .bl _ :: _, _, _, h, _ | .int _ :: _, _, _, h, _ | .str _ :: _, _, _, h, _ | .tup _ :: _, _, _, h, _ | .lst _ :: _, _, _, h, _ | .dct _ _ :: _, _, _, h, _ | .ins _ _ _ :: _, _, _, h, _ | .cell _ :: _, _, _, h, _ | .ro _ :: _, _, _, h, _ | .cls _ :: _, _, _, h, _ => by unfold tyNames at h; cases h
theorem kitAny_names {a : String} (ha : tyN a = true) : ∀ ns : List String, ns.all tyN = true → PySem.W.kitAny K (.type a) (ns.map Value.type) = some (ns.any (subT a))
  | [], _ => rfl
  | n :: ns, h => by
    rw [List.all_cons, Bool.and_eq_true] at h
    refine kitAny_cons (kit_sub ha h.1) (fun e => ?_) fun e => ?_
    · rw [kitAny_names ha ns h.2, List.any_cons, e]; rfl
    · rw [List.any_cons, e]; rfl
end
section
variable {X : Cx}
/-- isinstance(x, T), isinstance(x, (T1, ..)) of built-in types -/
def oIsi : OpN := fun ws st => match ws with
  | [x, .ty n] => match tyW st x with
    | some t => if tyN t && tyN n then .ok (.bl (subT t n)) st else .bad
    | none => .bad
  | [x, .tup cs] => match tyW st x, tyNames cs with
    | some t, some ns => if tyN t && ns.all tyN then .ok (.bl (ns.any (subT t))) st else .bad
    | _, _ => .bad
  | _ => .bad
def rIsiAll (K : PySem.W.Frag) : List V → Hp → VK → Prop := fun vs H Q => rIsi K vs H Q ∨ rIsiT K vs H Q ∨ rIsiK K vs H Q
theorem cr_isi : CallR X (.builtin "isinstance") (rIsiAll X.K) := call_isi.or (call_isiT.or call_isiK)
theorem paired_ty : ∀ ns : List String, Paired ClsV (ns.map V.ty) (ns.map Value.type)
  | [] => .nil
  | n :: ns => .cons (.ty n) (paired_ty ns)
theorem vals_tyN : ∀ {ns : List String} {us : List Value}, Vals (ns.map V.ty) us → us = ns.map Value.type
  | [], _, .nil => rfl
  | n :: ns, _, .cons r t => by rw [vals_tyN t, show _ = Value.type n from r]; rfl
theorem os_isi : OpNS X oIsi (rIsiAll X.K) := by
  intro Wx hid μ st σ H Q ws vs k r P
  unfold oIsi at P
  split at P
  · rename_i x n
    obtain ⟨v, c, rfl, r1, r2⟩ := reps2 r
    split at P
    · rename_i t e
      split at P
      · rename_i ht
        rw [Bool.and_eq_true] at ht
        rw [rep_ty_inv r2]
        exact .inl ⟨v, .ty n, .type t, .type n, _, rfl, .ty n, tyW_at k e r1, kit_sub ht.1 ht.2, P μ H _ k .refl rep_bl⟩
      · exact P.elim
    · exact P.elim
  · rename_i x cs
    obtain ⟨v, c, rfl, r1, r2⟩ := reps2 r
    split at P
    · rename_i t ns e1 e2
      split at P
      · rename_i ht
        rw [Bool.and_eq_true] at ht
        obtain ⟨a, us, rfl, h1, h2⟩ := rep_tup_inv r2
        have e3 := tyNames_at e2 h2
        subst e3
        exact .inr (.inl ⟨v, a, _, .type t, _, _, rfl, (Fz.sub h1).1, paired_ty ns, tyW_at k e1 r1, kitAny_names ht.1 ns ht.2, P μ H _ k .refl rep_bl⟩)
      · exact P.elim
    · exact P.elim
  · exact P.elim
theorem ev_ty {n : String} {x : Str} {pos : Pos} {Wx : Wish} (hm : X.mg x = none) (hv : bootBuiltins x = some (.type n) := by decide +kernel) (hg : Gl X x := by rfl) (hn : x ≠ "__name__" := by decide) (hd : (x == ("__debug__" : Str)) = false := by decide) : EV X Wx (.Name x pos) (eC (.ty n)) :=
  ev_c (v := .ty n) (pe_bltn hg hm hv rfl hn hd) fun F μ => by unfold Rep; rfl

/-! ## len, list, tuple, int -/
def oLen : OpN := fun ws st => match ws with
  | [.str z] => if z.length ≤ LINE then .ok (.int z.length) st else .bad
  | [x] => match seqW st x with
    | some us => .ok (.int us.length) st
    | none => .bad
  | _ => .bad
def rLenAll (K : PySem.W.Frag) : List V → Hp → VK → Prop := fun vs H Q => ∃ x n, vs = [x] ∧ LenV K x H n ∧ Q (.int n) H
theorem cr_len : CallR X (.builtin "len") (rLenAll X.K) := call_len
theorem os_len : OpNS X oLen (rLenAll X.K) := by
  intro Wx hid μ st σ H Q ws vs k r P
  unfold oLen at P
  split at P
  · obtain ⟨v, rfl, r1⟩ := reps1 (ws := []) r
    cases rep_str_inv r1
    split at P
    · rename_i hz
      exact ⟨_, _, rfl, ⟨le_line hz, rfl⟩, P μ H _ k .refl rep_int⟩
    · exact P.elim
  · obtain ⟨v, rfl, r1⟩ := reps1 (ws := []) r
    split at P
    · rename_i us e
      obtain ⟨a, xs, rfl, h1, h2⟩ := seqW_at k e r1
      refine ⟨_, xs.length, rfl, ?_, ?_⟩
      · rcases h1 with h1 | h1
        · exact .inl ⟨xs, h1, rfl⟩
        · exact .inr ⟨xs, h1, rfl⟩
      · rw [← h2.length]
        exact P μ H _ k .refl rep_int
    · exact P.elim
  · exact P.elim
def oList : OpN := fun ws st => match ws with
  | [x] => match seqW st x with
    | some us => .ok (.lst us) st
    | none => .bad
  | _ => .bad
theorem os_list : OpNS X oList (fun xs H Q => ∃ p ys, xs = [.ref p] ∧ (SqL X.K H p ys ∨ SqT X.K H p ys) ∧ ∀ l, H l = none → Q (.ref l) (upd H l (.lst ys))) := by
  intro Wx hid μ st σ H Q ws vs k r P
  unfold oList at P
  split at P
  · obtain ⟨v, rfl, r1⟩ := reps1 (ws := []) r
    split at P
    · rename_i us e
      obtain ⟨a, xs, rfl, h1, h2⟩ := seqW_at k e r1
      exact ⟨a, xs, rfl, h1, fun l hl => ok_new P k hl fun F le e => rep_lst e (h2.mono le (.refl _))⟩
    · exact P.elim
  · exact P.elim
def oTuple : OpN := fun ws st => match ws with
  | [x] => match seqW st x with
    | some us => .ok (.tup us) st
    | none => .bad
  | _ => .bad
theorem os_tuple : OpNS X oTuple (fun xs H Q => ∃ a ys, xs = [.ref a] ∧ ((SqL X.K H a ys ∧ ∀ l, H l = none → Q (.ref l) (upd H l (.tup ys))) ∨ (SqT X.K H a ys ∧ Q (.ref a) H))) := by
  intro Wx hid μ st σ H Q ws vs k r P
  unfold oTuple at P
  split at P
  · obtain ⟨v, rfl, r1⟩ := reps1 (ws := []) r
    split at P
    · rename_i us e
      unfold seqW at e
      split at e
      · rename_i zs e'
        cases e
        obtain ⟨a, xs, rfl, h1, h2⟩ := lstW_at k e' r1
        exact ⟨a, xs, rfl, .inl ⟨h1, fun l hl => ok_new P k hl fun F le e => rep_tup e (h2.mono le (.refl _))⟩⟩
      · obtain ⟨a, xs, rfl, h1, h2⟩ := tupW_at k e r1
        refine ⟨a, xs, rfl, .inr ⟨h1.fz, P μ H _ k .refl ?_⟩⟩
        unfold Rep
        exact ⟨a, xs, rfl, h1, h2⟩
    · exact P.elim
  · exact P.elim
def oInt : OpN := fun ws st => match ws with
  | [.int i] => .ok (.int i) st
  | [.bl b] => .ok (.int (if b then 1 else 0)) st
  | _ => .bad
theorem os_int : OpNS X oInt (fun xs H Q => (∃ i, xs = [.int i] ∧ Q (.int i) H) ∨ ∃ k, xs = [.bl k] ∧ Q (.int (if k then 1 else 0)) H) := by
  intro Wx hid μ st σ H Q ws vs k r P
  unfold oInt at P
  split at P
  · obtain ⟨v, rfl, r1⟩ := reps1 (ws := []) r
    cases rep_int_inv r1
    exact .inl ⟨_, rfl, P μ H _ k .refl rep_int⟩
  · obtain ⟨v, rfl, r1⟩ := reps1 (ws := []) r
    cases rep_bl_inv r1
    exact .inr ⟨_, rfl, P μ H _ k .refl rep_int⟩
  · exact P.elim

/-! ## lists of bools, of ints -/
def blsW : List W → Option (List Bool)
  | [] => some []
  | .bl b :: r => (blsW r).map (b :: ·)
  | _ => none
def intsW : List W → Option (List Int)
  | [] => some []
  | .int b :: r => (intsW r).map (b :: ·)
  | _ => none
theorem blsW_at {K : PySem.W.Frag} {mg : Str → Option Value} {F : Hp} {μ : List Addr} : ∀ {ws : List W} {bs : List Bool} {vs : List V}, blsW ws = some bs → Reps K mg F μ ws vs → vs = bs.map V.bl
  | [], bs, vs, h, r => by unfold blsW at h; cases h; rw [Reps.nil_iff] at r; subst r; rfl
  | .bl b :: ws, bs, vs, h, r => by
    unfold blsW at h
    obtain ⟨v, t, rfl, h1, h2⟩ := r.cons_inv
    cases e : blsW ws with
    | none => rw [e] at h; cases h
    | some ms => rw [e] at h; cases h; rw [rep_bl_inv h1, blsW_at e h2]; rfl
  | .non :: _, _, _, h, _ | .ty _ :: _, _, _, h, _ | .int _ :: _, _, _, h, _ | .str _ :: _, _, _, h, _ | .tup _ :: _, _, _, h, _ | .lst _ :: _, _, _, h, _ | .dct _ _ :: _, _, _, h, _ | .ins _ _ _ :: _, _, _, h, _ | .cell _ :: _, _, _, h, _ | .ro _ :: _, _, _, h, _ | .cls _ :: _, _, _, h, _ => by unfold blsW at h; cases h
theorem intsW_at {K : PySem.W.Frag} {mg : Str → Option Value} {F : Hp} {μ : List Addr} : ∀ {ws : List W} {bs : List Int} {vs : List V}, intsW ws = some bs → Reps K mg F μ ws vs → vs = bs.map V.int
  | [], bs, vs, h, r => by unfold intsW at h; cases h; rw [Reps.nil_iff] at r; subst r; rfl
  | .int b :: ws, bs, vs, h, r => by
    unfold intsW at h
    obtain ⟨v, t, rfl, h1, h2⟩ := r.cons_inv
    cases e : intsW ws with
    | none => rw [e] at h; cases h
    | some ms => rw [e] at h; cases h; rw [rep_int_inv h1, intsW_at e h2]; rfl
  | .non :: _, _, _, h, _ | .ty _ :: _, _, _, h, _ | .bl _ :: _, _, _, h, _ | .str _ :: _, _, _, h, _ | .tup _ :: _, _, _, h, _ | .lst _ :: _, _, _, h, _ | .dct _ _ :: _, _, _, h, _ | .ins _ _ _ :: _, _, _, h, _ | .cell _ :: _, _, _, h, _ | .ro _ :: _, _, _, h, _ | .cls _ :: _, _, _, h, _ => by unfold intsW at h; cases h
/-- f of a list of bools -/
def oBls (f : List Bool → Bool) : OpN := fun ws st => match ws with
  | [x] => match (lstW st x).bind blsW with
    | some bs => .ok (.bl (f bs)) st
    | none => .bad
  | _ => .bad
theorem bls_of {hid μ : List Addr} {st : Sto} {H : Hp} (k : StOk X.K X.mg μ st hid H) {x : W} {bs : List Bool} {v : V} (h : (lstW st x).bind blsW = some bs) (r : Rep X.K X.mg (Fz μ st hid H) μ x v) : ∃ a, v = .ref a ∧ SqL X.K H a (bs.map V.bl) := by
  cases e : lstW st x with
  | none => rw [e] at h; cases h
  | some us =>
    rw [e] at h
    obtain ⟨a, xs, rfl, h1, h2⟩ := lstW_at k e r
    rw [blsW_at h h2] at h1
    exact ⟨a, rfl, h1⟩
theorem ints_of {hid μ : List Addr} {st : Sto} {H : Hp} (k : StOk X.K X.mg μ st hid H) {x : W} {bs : List Int} {v : V} (h : (lstW st x).bind intsW = some bs) (r : Rep X.K X.mg (Fz μ st hid H) μ x v) : ∃ a, v = .ref a ∧ SqL X.K H a (bs.map V.int) := by
  cases e : lstW st x with
  | none => rw [e] at h; cases h
  | some us =>
    rw [e] at h
    obtain ⟨a, xs, rfl, h1, h2⟩ := lstW_at k e r
    rw [intsW_at h h2] at h1
    exact ⟨a, rfl, h1⟩
def oAll : OpN := oBls fun bs => bs.all id
def oAny : OpN := oBls fun bs => bs.any id
theorem os_all : OpNS X oAll (rAll X.K) := by
  intro Wx hid μ st σ H Q ws vs k r P
  unfold oAll oBls at P
  split at P
  · obtain ⟨v, rfl, r1⟩ := reps1 (ws := []) r
    split at P
    · rename_i bs e
      obtain ⟨a, rfl, h1⟩ := bls_of k e r1
      exact ⟨a, bs, rfl, h1, P μ H _ k .refl rep_bl⟩
    · exact P.elim
  · exact P.elim
theorem os_any : OpNS X oAny (rAny X.K) := by
  intro Wx hid μ st σ H Q ws vs k r P
  unfold oAny oBls at P
  split at P
  · obtain ⟨v, rfl, r1⟩ := reps1 (ws := []) r
    split at P
    · rename_i bs e
      obtain ⟨a, rfl, h1⟩ := bls_of k e r1
      exact ⟨a, bs, rfl, h1, P μ H _ k .refl rep_bl⟩
    · exact P.elim
  · exact P.elim
def oSum : OpN := fun ws st => match ws with
  | [x] => match (lstW st x).bind intsW with
    | some bs => .ok (.int bs.sum) st
    | none => .bad
  | _ => .bad
theorem os_sum : OpNS X oSum (rSum X.K) := by
  intro Wx hid μ st σ H Q ws vs k r P
  unfold oSum at P
  split at P
  · obtain ⟨v, rfl, r1⟩ := reps1 (ws := []) r
    split at P
    · rename_i bs e
      obtain ⟨a, rfl, h1⟩ := ints_of k e r1
      exact ⟨a, bs, rfl, h1, P μ H _ k .refl rep_int⟩
    · exact P.elim
  · exact P.elim
/-- tuple(reversed(e)) -/
def oTupRev : Op1 := fun x st => match lstW st x with
  | some us => .ok (.tup us.reverse) st
  | none => .bad
theorem os_tupRev : Op1S X oTupRev (fun v H Q => ∃ (a : Addr) (xs : List V), v = .ref a ∧ SqL X.K H a xs ∧ ∀ q, H q = none → Q (.ref q) (upd H q (.tup xs.reverse))) := by
  intro Wx hid μ st σ H Q w x k rx P
  unfold oTupRev at P
  split at P
  · rename_i us e
    obtain ⟨a, xs, rfl, h1, h2⟩ := lstW_at k e rx
    exact ⟨a, xs, rfl, h1, fun q hq => ok_new P k hq fun F l e => rep_tup e ((h2.mono l (.refl _)).reverse)⟩
  · exact P.elim
theorem ev_tupRev {Wx : Wish} {e : Expr} {f : Sem} {p p2 pos pos2 : Pos} (hc : X.calm = true) (hm : X.mg "tuple" = none) (hm2 : X.mg "reversed" = none) (he : EV X Wx e f) (hg : Gl X "tuple" := by rfl) (hg2 : Gl X "reversed" := by rfl) (hs : starEach [e] X.env = (false, eval e X.env) :: starEach [] X.env := by rfl) : EV X Wx (.Call (.Name "tuple" p) [.Call (.Name "reversed" p2) [e] [] pos2] [] pos) (e1 oTupRev f) :=
  PEm (RT.pe_tupRev hc hg hm hg2 hm2 he (hs := hs)) (e1_read os_tupRev)

/-! ## an item -/
theorem atI_rep {K : PySem.W.Frag} {mg : Str → Option Value} {F : Hp} {μ : List Addr} {ws : List W} {vs : List V} {i : Int} {w : W} (r : Reps K mg F μ ws vs) (h : atI ws i = some w) : ∃ v, atI vs i = some v ∧ Rep K mg F μ w v := by
  unfold atI at h ⊢
  rw [← r.length]
  cases e : ixN ws.length i with
  | none => rw [e] at h; cases h
  | some j =>
    rw [e] at h
    exact r.get h
def oIx : Op2 := fun x y st => match y with
  | .int i => match x with
    | .str z => if z.length ≤ LINE then (match atI z.cps.toList i with
      | some c => .ok (.str ⟨#[c]⟩) st
      | none => .bad) else .bad
    | _ => match (seqW st x).bind fun ws => atI ws i with
      | some w => .ok w st
      | none => .bad
  | _ => .bad
theorem os_ix : Op2S X oIx (rIx X.K) := by
  intro Wx hid μ st σ H Q w u x y k rx ry P
  unfold oIx at P
  split at P
  · rename_i i
    cases rep_int_inv ry
    split at P
    · rename_i z
      cases rep_str_inv rx
      split at P
      · rename_i hz
        split at P
        · rename_i c e
          exact .inr (.inr ⟨z, i, c, rfl, rfl, le_line hz, e, P μ H _ k .refl rep_str⟩)
        · exact P.elim
      · exact P.elim
    · split at P
      · rename_i w' e
        cases e2 : seqW st w with
        | none => rw [e2] at e; cases e
        | some ws =>
          rw [e2] at e
          obtain ⟨a, vs, rfl, h1, h2⟩ := seqW_at k e2 rx
          obtain ⟨v, h3, h4⟩ := atI_rep h2 e
          rcases h1 with h1 | h1
          · exact .inl ⟨a, vs, i, v, rfl, rfl, h1, h3, P μ H _ k .refl h4⟩
          · exact .inr (.inl ⟨a, vs, i, v, rfl, rfl, h1, h3, P μ H _ k .refl h4⟩)
      · exact P.elim
  · exact P.elim

/-! ## slices -/
def cutW (ws : List W) (lo hi : Option Int) : List W := (ws.drop (HT.sIx ws.length 0 lo)).take (HT.sIx ws.length ws.length hi - HT.sIx ws.length 0 lo)
theorem cutW_rep {K : PySem.W.Frag} {mg : Str → Option Value} {F : Hp} {μ : List Addr} {ws : List W} {vs : List V} (lo hi : Option Int) (r : Reps K mg F μ ws vs) : Reps K mg F μ (cutW ws lo hi) (cutV vs lo hi) := by
  unfold cutW cutV
  rw [← r.length]
  exact (r.drop _).take _
abbrev SemO := Fr → Sto → Out (Option Int)
def pNo : SemO := fun _ st => .ok none st
def pYes (f : Sem) : SemO := fun fr st => (f fr st).bind fun w st1 => match w with
  | .int i => .ok (some i) st1
  | _ => .bad
def OPost (K : PySem.W.Frag) (mg : Str → Option Value) (Wx : WX) (hid μ : List Addr) (st : Sto) (σ : L2.St) (H : Hp) (Q : Option Int → Hp → Prop) : Out (Option Int) → Prop
  | .ok b st' => ∀ μ' H', StOk K mg μ' st' hid H' → Grow hid μ st H μ' st' H' → Q b H'
  | .err x st' => ∀ μ' H' c d, StOk K mg μ' st' hid H' → Grow hid μ st H μ' st' H' → XRep K mg (Fz μ' st' hid H') μ' x c d → Wx c d σ H'
  | .bad => False
def tO (K : PySem.W.Frag) (mg : Str → Option Value) (Wx : Wish) (f : SemO) : TO := fun σ H Q => ∃ μ st hid fr, SI K mg Wx μ st hid fr σ H ∧ OPost K mg Wx.w hid μ st σ H Q (f fr st)
abbrev OV (X : Cx) (Wx : Wish) (e : Option Expr) (f : SemO) : Prop := PO X e (tO X.K X.mg Wx f)
theorem POm {e : Option Expr} {t t' : TO} (h : PO X e t) (i : ∀ σ H Q, t' σ H Q → t σ H Q) : PO X e t' := ⟨fun pins s σ H Q I q => h.run pins s σ H Q I (i σ H Q q)⟩
variable {Wx : Wish}
theorem ov_no : OV X Wx none pNo := POm po_none fun σ H Q ⟨μ, st, hid, fr, S, P⟩ => P μ H S.sto .refl
theorem ov_yes {e : Expr} {f : Sem} (h : EV X Wx e f) : OV X Wx (some e) (pYes f) := POm (po_some h) fun σ H Q ⟨μ, st, hid, fr, S, P⟩ => by
  refine ⟨μ, st, hid, fr, S, ?_⟩
  unfold pYes at P
  cases h : f fr st with
  | bad => rw [h] at P; exact P
  | err x s => rw [h] at P; exact P
  | ok w st1 =>
    rw [h, Out.bind_ok] at P
    intro μ1 H1 v k1 g1 r1
    cases w with
    | int i => exact ⟨i, rep_int_inv r1, P μ1 H1 k1 g1⟩
    | _ => exact P.elim
def oSl (x : W) (lo hi : Option Int) (st : Sto) : Out W := match x with
  | .str z => if z.length ≤ LINE then .ok (.str (cutS z lo hi)) st else .bad
  | _ => match lstW st x with
    | some ws => .ok (.lst (cutW ws lo hi)) st
    | none => match tupW st x with
      | some ws => .ok (.tup (cutW ws lo hi)) st
      | none => .bad
def eSl (f : Sem) (l h : SemO) : Sem := fun fr st => (f fr st).bind fun x st1 => (l fr st1).bind fun lo st2 => (h fr st2).bind fun hi st3 => oSl x lo hi st3
def rSlAll (K : PySem.W.Frag) : V → Option Int → Option Int → Hp → VK → Prop := fun x lo hi H Q => rSlS x lo hi H Q ∨ rSlL K x lo hi H Q ∨ rSlA K x lo hi H Q
theorem sr_all : SlR X (rSlAll X.K) := sl_str.or (sl_list.or sl_tupA)
theorem cutW_whole {ws : List W} {lo hi : Option Int} (h : HT.sIx ws.length 0 lo = 0 ∧ HT.sIx ws.length ws.length hi = ws.length) : cutW ws lo hi = ws := by
  unfold cutW
  rw [h.1, h.2]
  simp
theorem os_sl {Wx : WX} {hid μ : List Addr} {st : Sto} {σ : L2.St} {H : Hp} {Q : VK} {w : W} {x : V} {lo hi : Option Int} (k : StOk X.K X.mg μ st hid H) (rx : Rep X.K X.mg (Fz μ st hid H) μ w x)
    (P : EPost X.K X.mg Wx hid μ st σ H Q (oSl w lo hi st)) : rSlAll X.K x lo hi H Q := by
  unfold oSl at P
  split at P
  · split at P
    · rename_i hz
      cases rep_str_inv rx
      exact .inl ⟨_, rfl, le_line hz, P μ H _ k .refl rep_str⟩
    · exact P.elim
  · split at P
    · rename_i ws e
      obtain ⟨a, xs, rfl, h1, h2⟩ := lstW_at k e rx
      exact .inr (.inl ⟨a, xs, rfl, h1, fun p hp => ok_new P k hp fun F l e => rep_lst e ((cutW_rep lo hi h2).mono l (.refl _))⟩)
    · split at P
      · rename_i ws e
        obtain ⟨a, xs, rfl, h1, h2⟩ := tupW_at k e rx
        refine .inr (.inr ⟨a, xs, rfl, h1.fz, fun hw => ?_, fun _ p hp => ok_new P k hp fun F l e => rep_tup e ((cutW_rep lo hi h2).mono l (.refl _))⟩)
        rw [← h2.length] at hw
        rw [cutW_whole hw] at P
        refine P μ H _ k .refl ?_
        unfold Rep
        exact ⟨a, xs, rfl, h1, h2⟩
      · exact P.elim
theorem ev_sl {e : Expr} {l h : Option Expr} {f : Sem} {fl fh : SemO} {p2 pos : Pos} (he : EV X Wx e f) (hl : OV X Wx l fl) (hh : OV X Wx h fh) : EV X Wx (.Subscript e (.Slice l h none p2) pos) (eSl f fl fh) := PEm (pe_slice sr_all he hl hh) fun σ H Q ⟨μ, st, hid, fr, S, P⟩ => by
  refine ⟨μ, st, hid, fr, S, ?_⟩
  unfold eSl at P
  cases h1 : f fr st with
  | bad => rw [h1] at P; exact P
  | err x s => rw [h1] at P; exact P
  | ok x st1 =>
    rw [h1, Out.bind_ok] at P
    intro μ1 H1 vx k1 g1 r1
    refine ⟨μ1, st1, hid, fr, S.next k1 g1, ?_⟩
    have P1 := EPost.from g1 P
    cases h2 : fl fr st1 with
    | bad => rw [h2] at P1; exact P1
    | err x s => rw [h2] at P1; exact P1
    | ok lo st2 =>
      rw [h2, Out.bind_ok] at P1
      intro μ2 H2 k2 g2
      refine ⟨μ2, st2, hid, fr, (S.next k1 g1).next k2 g2, ?_⟩
      have P2 := EPost.from g2 P1
      cases h3 : fh fr st2 with
      | bad => rw [h3] at P2; exact P2
      | err x s => rw [h3] at P2; exact P2
      | ok hi st3 =>
        rw [h3, Out.bind_ok] at P2
        intro μ3 H3 k3 g3
        exact os_sl k3 (Rep.mono (g2.trans g3).le (g2.trans g3).pre _ _ r1) (EPost.from g3 P2)
end
end SL

namespace SL
open PySem PySem.Spec PyProof.Rows L2

/-! ## targets -/
abbrev TgF := W → Fr → Sto → Option Fr
abbrev TgsF := List W → Fr → Sto → Option Fr
def gNm (i : Nat) : TgF := fun w fr _ => some (fr.set i (some w))
def gsNil : TgsF := fun ws fr _ => match ws with
  | [] => some fr
  | _ => none
def gsCons (g : TgF) (r : TgsF) : TgsF := fun ws fr st => match ws with
  | w :: us => (g w fr st).bind fun fr1 => r us fr1 st
  | [] => none
def gTp (n : Nat) (r : TgsF) : TgF := fun w fr st => match tupW st w with
  | some ws => if ws.length = n then r ws fr st else none
  | none => none
/-- all but the slots at sl is as it was -/
def Agree (sl : List Nat) (σ σ' : L2.St) : Prop := σ'.length = σ.length ∧ ∀ j, j ∉ sl → σ'[j]? = σ[j]?
theorem Agree.refl (sl : List Nat) (σ : L2.St) : Agree sl σ σ := ⟨rfl, fun _ _ => rfl⟩
theorem Agree.trans {sl sl' : List Nat} {σ σ' σ'' : L2.St} (a : Agree sl σ σ') (b : Agree sl' σ' σ'') : Agree (sl ++ sl') σ σ'' :=
  ⟨b.1.trans a.1, fun j h => (b.2 j fun z => h (List.mem_append_right _ z)).trans (a.2 j fun z => h (List.mem_append_left _ z))⟩
section
variable {X : Cx} {Wx : Wish}
def tG (K : PySem.W.Frag) (mg : Str → Option Value) (Wx : Wish) (g : TgF) (sl : List Nat) : TG := fun v σ H Q => ∃ μ st hid fr w fr', SI K mg Wx μ st hid fr σ H ∧ Rep K mg (Fz μ st hid H) μ w v ∧ g w fr st = some fr' ∧ ∀ σ', SI K mg Wx μ st hid fr' σ' H → Agree sl σ σ' → Q σ' H
def tGs (K : PySem.W.Frag) (mg : Str → Option Value) (Wx : Wish) (g : TgsF) (sl : List Nat) : TGs := fun vs σ H Q => ∃ μ st hid fr ws fr', SI K mg Wx μ st hid fr σ H ∧ Reps K mg (Fz μ st hid H) μ ws vs ∧ g ws fr st = some fr' ∧ ∀ σ', SI K mg Wx μ st hid fr' σ' H → Agree sl σ σ' → Q σ' H
abbrev GV (X : Cx) (Wx : Wish) (e : Expr) (g : TgF) (sl : List Nat) : Prop := PG X e (tG X.K X.mg Wx g sl)
abbrev GsV (X : Cx) (Wx : Wish) (es : List Expr) (g : TgsF) (sl : List Nat) : Prop := PGs X es (tGs X.K X.mg Wx g sl)
theorem PGm {e : Expr} {t t' : TG} (h : PG X e t) (i : ∀ v σ H Q, t' v σ H Q → t v σ H Q) : PG X e t' := ⟨fun pins s σ H v u Q I r q => h.run pins s σ H v u Q I r (i v σ H Q q)⟩
theorem PGsm {e : List Expr} {t t' : TGs} (h : PGs X e t) (i : ∀ v σ H Q, t' v σ H Q → t v σ H Q) : PGs X e t' := ⟨fun pins s σ H v u Q I r q => h.run pins s σ H v u Q I r (i v σ H Q q)⟩
theorem gv_nm {i : Nat} {x : Str} {pos : Pos} (hN : X.N.Nodup) (hi : X.N[i]? = some x := by rfl) (hx : Loc X.env.scope x := by first | exact Or.inl rfl | exact Or.inr rfl) (hf : X.fn x = true ∨ X.env.scope.names.lookup x = some .local := by first | exact .inl rfl | exact .inr rfl) (hk : i ∉ Wx.lock := by first | exact List.not_mem_nil | decide) : GV X Wx (.Name x pos) (gNm i) [i] :=
  PGm (pg_name hN hi hx hf) fun v σ H Q ⟨μ, st, hid, fr, w, fr', S, r, e, q⟩ => by
    unfold gNm at e
    cases e
    exact q _ (S.set i hk r) ⟨by simp, fun j h => by rw [List.getElem?_set_ne]; simp at h; exact fun z => h z.symm⟩
theorem gvs_nil : GsV X Wx [] gsNil [] := PGsm pgs_nil fun vs σ H Q ⟨μ, st, hid, fr, ws, fr', S, r, e, q⟩ => by
  unfold gsNil at e
  split at e
  · cases e
    rw [Reps.nil_iff] at r
    exact ⟨r, q _ S (.refl _ _)⟩
  · cases e
theorem gvs_cons {e : Expr} {es : List Expr} {g : TgF} {r : TgsF} {sl sl' : List Nat} (h1 : GV X Wx e g sl) (h2 : GsV X Wx es r sl') (hs : (assignEach (e :: es) X.env).map (·.2) = assign e X.env :: (assignEach es X.env).map (·.2) := by rfl) : GsV X Wx (e :: es) (gsCons g r) (sl ++ sl') :=
  PGsm (pgs_cons h1 h2 hs) fun vs σ H Q ⟨μ, st, hid, fr, ws, fr', S, rr, e, q⟩ => by
    unfold gsCons at e
    split at e
    · rename_i w us
      obtain ⟨v, vr, rfl, r1, r2⟩ := rr.cons_inv
      cases e1 : g w fr st with
      | none => rw [e1] at e; cases e
      | some fr1 =>
        rw [e1] at e
        exact ⟨v, vr, rfl, μ, st, hid, fr, w, fr1, S, r1, e1, fun σ1 S1 a1 => ⟨μ, st, hid, fr1, us, fr', S1, r2, e, fun σ2 S2 a2 => q σ2 S2 (a1.trans a2)⟩⟩
    · cases e
theorem gv_tp {es : List Expr} {k n : Nat} {r : TgsF} {sl : List Nat} {pos : Pos} (hc : X.calm = true) (h : GsV X Wx es r sl) (hn : (assignEach es X.env).length = n := by rfl) (hst : (assignEach es X.env).findIdx? (·.1) = none := by rfl) : GV X Wx (.Tuple es k pos) (gTp n r) sl :=
  PGm (pg_tup hc h hn hst) fun v σ H Q ⟨μ, st, hid, fr, w, fr', S, rr, e, q⟩ => by
    unfold gTp at e
    split at e
    · rename_i ws e1
      split at e
      · rename_i hl
        obtain ⟨a, vs, rfl, h1, h2⟩ := tupW_at S.sto e1 rr
        exact ⟨a, vs, rfl, h1.fz, by rw [← h2.length]; exact hl, μ, st, hid, fr, ws, fr', S, h2, e, q⟩
      · cases e
    · cases e
end

/-! ## what is walked -/
abbrev SemI := Fr → Sto → Out (W × List W)
/-- the walked thing holds what it held -/
def srcOk (x : W) (ws : List W) (st : Sto) : Prop := match x with
  | .cell _ => lstW st x = some ws
  | _ => True
/-- the iterator J gives the items ws; F, μ0: where it began -/
structure ItOk (K : PySem.W.Frag) (mg : Str → Option Value) (J : It) (x : W) (ws : List W) (F : Hp) (μ0 : List Addr) (L : Hp) : Prop where
  len : ws.length ≤ sizeLine
  go : ∀ hid μ st H i, StOk K mg μ st hid H → Le F (Fz μ st hid H) → Pre μ0 μ → Lk L H → srcOk x ws st → i < ws.length → J.go i H
  yld : ∀ hid μ st H i v H', StOk K mg μ st hid H → Le F (Fz μ st hid H) → Pre μ0 μ → Lk L H → srcOk x ws st → i < ws.length → J.yld i H v H' →
    StOk K mg μ st hid H' ∧ Grow hid μ st H μ st H' ∧ ∃ w, ws[i]? = some w ∧ Rep K mg (Fz μ st hid H') μ w v
  stop : ∀ hid μ st H i, StOk K mg μ st hid H → Le F (Fz μ st hid H) → Pre μ0 μ → Lk L H → srcOk x ws st → ws.length ≤ i → J.stop i H
def IPost (K : PySem.W.Frag) (mg : Str → Option Value) (Wx : WX) (hid μ : List Addr) (st : Sto) (σ : L2.St) (H : Hp) (R : It → Hp → Prop) : Out (W × List W) → Prop
  | .ok (x, ws) st' => ∀ μ' H' J, StOk K mg μ' st' hid H' → Grow hid μ st H μ' st' H' → ItOk K mg J x ws (Fz μ' st' hid H') μ' H' → R J H'
  | .err x st' => ∀ μ' H' c d, StOk K mg μ' st' hid H' → Grow hid μ st H μ' st' H' → XRep K mg (Fz μ' st' hid H') μ' x c d → Wx c d σ H'
  | .bad => False
def tI (K : PySem.W.Frag) (mg : Str → Option Value) (Wx : Wish) (f : SemI) : TI := fun σ H R => ∃ μ st hid fr, SI K mg Wx μ st hid fr σ H ∧ IPost K mg Wx.w hid μ st σ H R (f fr st)
abbrev IV (X : Cx) (Wx : Wish) (tg e : Expr) (f : SemI) : Prop := PI X tg e (tI X.K X.mg Wx f)
theorem PIm {X : Cx} {tg e : Expr} {t t' : TI} (h : PI X tg e t) (i : ∀ σ H R, t' σ H R → t σ H R) : PI X tg e t' := ⟨fun pins s σ H R I q => h.run pins s σ H R I (i σ H R q)⟩
theorem IPost.from {K : PySem.W.Frag} {mg : Str → Option Value} {Wx : WX} {hid μ μ' : List Addr} {st st' : Sto} {σ : L2.St} {H H' : Hp} {R : It → Hp → Prop} {o : Out (W × List W)} (x : Grow hid μ st H μ' st' H') (h : IPost K mg Wx hid μ st σ H R o) : IPost K mg Wx hid μ' st' σ H' R o := by
  cases o with
  | ok w s => exact fun μ2 H2 v a b c => h μ2 H2 v a (x.trans b) c
  | err e s => exact fun μ2 H2 c d a b r => h μ2 H2 c d a (x.trans b) r
  | bad => exact h
section
variable {X : Cx} {Wx : Wish} {tg : Expr}
/-- a list or a tuple, walked -/
def iSeqT (K : PySem.W.Frag) (tl : TE) : TI := fun σ H R => tl σ H fun x H1 => ∃ a xs, x = .ref a ∧ ((SqL K H1 a xs ∧ (xs.length ≤ sizeLine → R (Itl K a) H1)) ∨ (SqT K H1 a xs ∧ (xs.length ≤ sizeLine → R (Itt K a) H1)))
theorem pi_seqT {l : Expr} {tl : TE} (hl : PE X l tl) : PI X tg l (iSeqT X.K tl) := by
  refine ⟨fun pins s σ H R I hh => thn (hl.run pins s σ H _ I hh) fun u s' ⟨y, HH, J1, ry, a, zs, ey, qq⟩ => ?_⟩
  subst ey
  cases ry
  rcases qq with ⟨hq, qq⟩ | ⟨hq, qq⟩
  · obtain ⟨us, ru, pp, hle⟩ := J1.list hq
    refine wpAny_pyIter_list pp.isList ⟨_, [s'.heap.objs.size], _, _, HH, rfl, J1.kept (t' := s'.toks) fun c oo ee => Heap.get?_push_of_some _ ee, turn_list a _, ⟨_, Heap.get?_push_size _ rfl, rfl, rfl⟩, fun c hc => ?_, qq hle⟩
    cases (List.mem_singleton.mp hc)
    exact J1.fpOk (Nat.le_refl _) (J1.hok.fresh (Nat.le_refl _))
  · obtain ⟨us, ru, pp, hle⟩ := J1.tuple hq
    refine wpAny_pyIter_tuple (show s'.heap.IsTuple a us.toArray from pp) ⟨_, [s'.heap.objs.size], _, _, HH, rfl, J1.kept (t' := s'.toks) fun c oo ee => Heap.get?_push_of_some _ ee, turn_tuple a _, ⟨_, Heap.get?_push_size _ rfl, rfl, rfl⟩, fun c hc => ?_, qq hle⟩
    cases (List.mem_singleton.mp hc)
    exact J1.fpOk (Nat.le_refl _) (J1.hok.fresh (Nat.le_refl _))
def itW (st : Sto) (x : W) : Option (List W) := match x with
  | .cell _ => lstW st x
  | _ => seqW st x
def iSeq (f : Sem) : SemI := fun fr st => (f fr st).bind fun x st1 => match itW st1 x with
  | some ws => .ok (x, ws) st1
  | none => .bad
/-- a list in the air -/
theorem itOk_list {K : PySem.W.Frag} {mg : Str → Option Value} {x : W} {ws : List W} {F L : Hp} {μ0 : List Addr} {a : Addr} (hl : ws.length ≤ sizeLine)
    (now : ∀ hid μ st H, StOk K mg μ st hid H → Le F (Fz μ st hid H) → Pre μ0 μ → srcOk x ws st → ∃ vs, SqL K H a vs ∧ Reps K mg (Fz μ st hid H) μ ws vs) : ItOk K mg (Itl K a) x ws F μ0 L where
  len := hl
  go := fun hid μ st H i k l p _ s hi => by
    obtain ⟨vs, h1, h2⟩ := now hid μ st H k l p s
    exact ⟨vs, vs[i]'(by rw [← h2.length]; exact hi), h1, by simp⟩
  yld := fun hid μ st H i v H' k l p _ s hi y => by
    obtain ⟨vs, h1, h2⟩ := now hid μ st H k l p s
    obtain ⟨rfl, y⟩ := y
    exact ⟨k, .refl, h2.get' (y vs h1)⟩
  stop := fun hid μ st H i k l p _ s hi => by
    obtain ⟨vs, h1, h2⟩ := now hid μ st H k l p s
    exact ⟨vs, h1, by rw [← h2.length]; exact hi⟩
theorem itOk_tup {K : PySem.W.Frag} {mg : Str → Option Value} {x : W} {ws : List W} {F L : Hp} {μ0 : List Addr} {a : Addr} (hl : ws.length ≤ sizeLine)
    (now : ∀ hid μ st H, StOk K mg μ st hid H → Le F (Fz μ st hid H) → Pre μ0 μ → srcOk x ws st → ∃ vs, SqT K H a vs ∧ Reps K mg (Fz μ st hid H) μ ws vs) : ItOk K mg (Itt K a) x ws F μ0 L where
  len := hl
  go := fun hid μ st H i k l p _ s hi => by
    obtain ⟨vs, h1, h2⟩ := now hid μ st H k l p s
    exact ⟨vs, vs[i]'(by rw [← h2.length]; exact hi), h1, by simp⟩
  yld := fun hid μ st H i v H' k l p _ s hi y => by
    obtain ⟨vs, h1, h2⟩ := now hid μ st H k l p s
    obtain ⟨rfl, y⟩ := y
    exact ⟨k, .refl, h2.get' (y vs h1)⟩
  stop := fun hid μ st H i k l p _ s hi => by
    obtain ⟨vs, h1, h2⟩ := now hid μ st H k l p s
    exact ⟨vs, h1, by rw [← h2.length]; exact hi⟩
/-- a list or tuple value: how it stands later -/
theorem seq_now {K : PySem.W.Frag} {mg : Str → Option Value} {hid0 μ0 : List Addr} {st0 : Sto} {H0 : Hp} {x : W} {ws : List W} {v : V} (k0 : StOk K mg μ0 st0 hid0 H0) (h : itW st0 x = some ws) (r : Rep K mg (Fz μ0 st0 hid0 H0) μ0 x v) :
    ∃ a vs0, v = .ref a ∧ vs0.length = ws.length ∧ ((SqL K H0 a vs0 ∧ ∀ hid μ st H, StOk K mg μ st hid H → Le (Fz μ0 st0 hid0 H0) (Fz μ st hid H) → Pre μ0 μ → srcOk x ws st → ∃ vs, SqL K H a vs ∧ Reps K mg (Fz μ st hid H) μ ws vs) ∨
      (SqT K H0 a vs0 ∧ ∀ hid μ st H, StOk K mg μ st hid H → Le (Fz μ0 st0 hid0 H0) (Fz μ st hid H) → Pre μ0 μ → srcOk x ws st → ∃ vs, SqT K H a vs ∧ Reps K mg (Fz μ st hid H) μ ws vs)) := by
  cases x with
  | lst us =>
    have e : us = ws := by unfold itW seqW lstW at h; exact Option.some.inj h
    subst e
    obtain ⟨a, vs, rfl, h1, h2⟩ := rep_lst_inv r
    exact ⟨a, vs, rfl, h2.length.symm, .inl ⟨SqL.fz h1, fun hid μ st H k l p _ => ⟨vs, SqL.fz (l.lst h1), h2.mono l p⟩⟩⟩
  | ro us =>
    have e : us = ws := by unfold itW seqW lstW at h; exact Option.some.inj h
    subst e
    obtain ⟨a, vs, rfl, h1, h2⟩ := rep_ro_inv r
    exact ⟨a, vs, rfl, h2.length.symm, .inl ⟨SqL.fz' h1, fun hid μ st H k l p _ => ⟨vs, SqL.fz' (SqL.le l h1), h2.mono l p⟩⟩⟩
  | tup us =>
    have e : us = ws := by unfold itW seqW lstW at h; exact Option.some.inj h
    subst e
    obtain ⟨a, vs, rfl, h1, h2⟩ := rep_tup_inv r
    exact ⟨a, vs, rfl, h2.length.symm, .inr ⟨h1.fz, fun hid μ st H k l p _ => ⟨vs, (h1.le l).fz, h2.mono l p⟩⟩⟩
  | cell n =>
    have h' : lstW st0 (.cell n) = some ws := h
    obtain ⟨a, vs, rfl, h1, h2⟩ := lstW_at k0 h' r
    obtain ⟨b, e1, e2⟩ := rep_cell_inv r
    cases e2
    refine ⟨a, vs, rfl, h2.length.symm, .inl ⟨h1, fun hid μ st H k l p s => ?_⟩⟩
    have s' : lstW st (.cell n) = some ws := s
    have r' : Rep K mg (Fz μ st hid H) μ (.cell n) (.ref a) := by unfold Rep; exact ⟨a, p.get e1, rfl⟩
    obtain ⟨c, us, e3, h3, h4⟩ := lstW_at k s' r'
    cases e3
    exact ⟨us, h3, h4⟩
  | _ => cases h
theorem iv_seq {e : Expr} {f : Sem} (he : EV X Wx e f) : IV X Wx tg e (iSeq f) := PIm (pi_seqT he) fun σ H R ⟨μ, st, hid, fr, S, P⟩ => by
  refine ⟨μ, st, hid, fr, S, ?_⟩
  unfold iSeq at P
  cases h1 : f fr st with
  | bad => rw [h1] at P; exact P
  | err x s => rw [h1] at P; exact P
  | ok x st1 =>
    rw [h1, Out.bind_ok] at P
    intro μ1 H1 v k1 g1 r1
    have P1 := IPost.from g1 P
    split at P1
    · rename_i ws e
      obtain ⟨a, vs, rfl, hl, q | q⟩ := seq_now k1 e r1
      · exact ⟨a, vs, rfl, .inl ⟨q.1, fun hz => P1 μ1 H1 _ k1 .refl (itOk_list (by rw [← hl]; exact hz) q.2)⟩⟩
      · exact ⟨a, vs, rfl, .inr ⟨q.1, fun hz => P1 μ1 H1 _ k1 .refl (itOk_tup (by rw [← hl]; exact hz) q.2)⟩⟩
    · exact P1.elim
/-- range -/
def rngW (lo c : Int) (n : Nat) : List W := (List.range n).map fun (i : Nat) => W.int (lo + (i : Int) * c)
theorem rngW_length (lo c : Int) (n : Nat) : (rngW lo c n).length = n := by unfold rngW; simp
theorem rngW_get {lo c : Int} {n i : Nat} (h : i < n) : (rngW lo c n)[i]? = some (.int (lo + (i : Int) * c)) := by
  unfold rngW
  rw [List.getElem?_map, List.getElem?_range h]; rfl
theorem itOk_rng {K : PySem.W.Frag} {mg : Str → Option Value} {F L : Hp} {μ0 : List Addr} {J : It} {lo c : Int} {n : Nat} (hn : n ≤ LINE) (h1 : ∀ i H, i < n → J.go i H) (h2 : ∀ i H x H', J.yld i H x H' → H' = H ∧ x = .int (lo + (i : Nat) * c)) (h3 : ∀ i H, n ≤ i → J.stop i H) :
    ItOk K mg J .non (rngW lo c n) F μ0 L where
  len := by rw [rngW_length]; exact le_line hn
  go := fun hid μ st H i k l p _ s hi => h1 i H (by rw [rngW_length] at hi; exact hi)
  yld := fun hid μ st H i v H' k l p _ s hi y => by
    rw [rngW_length] at hi
    obtain ⟨rfl, rfl⟩ := h2 i H v H' y
    exact ⟨k, .refl, _, rngW_get hi, rep_int⟩
  stop := fun hid μ st H i k l p _ s hi => h3 i H (by rw [rngW_length] at hi; exact hi)
noncomputable def big (j : Int) : Bool := dec (-(2 ^ 62) ≤ j ∧ j < 2 ^ 62)
theorem big_of {j : Int} (h : big j = true) : -(2 ^ 62) ≤ j ∧ j < 2 ^ 62 := dec_of h
abbrev RgF := List W → Option (Int × Int × Nat)
def iRng (op : RgF) (f : SemL) : SemI := fun fr st => (f fr st).bind fun ws st1 => match op ws with
  | some (lo, c, n) => if n ≤ LINE then .ok (.non, rngW lo c n) st1 else .bad
  | none => .bad
/-- J counts from lo by c, n turns -/
def Cnt (lo c : Int) (n : Nat) (J : It) : Prop := (∀ i H, i < n → J.go i H) ∧ (∀ i H x H', J.yld i H x H' → H' = H ∧ x = .int (lo + (i : Nat) * c)) ∧ ∀ i H, n ≤ i → J.stop i H
theorem iRng_read {op : RgF} {f : SemL} {wi : List V → Hp → (It → Hp → Prop) → Prop} (hw : ∀ (F : Hp) (μ : List Addr) (ws : List W) (vs : List V) (lo c : Int) (n : Nat) (H : Hp) (R : It → Hp → Prop), op ws = some (lo, c, n) → Reps X.K X.mg F μ ws vs → (∀ J, Cnt lo c n J → R J H) → wi vs H R) :
    ∀ σ H R, tI X.K X.mg Wx (iRng op f) σ H R → tA X.K X.mg Wx f σ H (fun vs H1 => wi vs H1 R) := fun σ H R ⟨μ, st, hid, fr, S, P⟩ => by
  refine ⟨μ, st, hid, fr, S, ?_⟩
  unfold iRng at P
  cases h1 : f fr st with
  | bad => rw [h1] at P; exact P
  | err x s => rw [h1] at P; exact P
  | ok ws st1 =>
    rw [h1, Out.bind_ok] at P
    intro μ1 H1 vs k1 g1 r1
    have P1 := IPost.from g1 P
    split at P1
    · rename_i lo c n e
      split at P1
      · rename_i hn
        exact hw _ _ ws vs lo c n H1 R e r1 fun J hJ => P1 μ1 H1 J k1 .refl (itOk_rng hn hJ.1 hJ.2.1 hJ.2.2)
      · exact P1.elim
    · exact P1.elim
theorem cnt_r (lo : Int) (n : Nat) : Cnt lo 1 n (Itr lo n) := ⟨fun _ _ h => h, fun i H x H' h => ⟨h.1, by rw [Int.mul_one]; exact h.2⟩, fun _ _ h => h⟩
theorem cnt_c (lo c : Int) (n : Nat) : Cnt lo c n (Itc lo c n) := ⟨fun _ _ h => h, fun i H x H' h => h, fun _ _ h => h⟩
noncomputable def rg1 : RgF := fun ws => match ws with
  | [.int j] => if big j = true then some (0, 1, j.toNat) else none
  | _ => none
noncomputable def rg2 : RgF := fun ws => match ws with
  | [.int i, .int j] => if big i = true ∧ big j = true then some (i, 1, (j - i).toNat) else none
  | _ => none
/-- a step that is written: up by c, or down by one -/
noncomputable def rg3 : RgF := fun ws => match ws with
  | [.int i, .int j, .int c] => if c = -1 then (if big i = true ∧ big j = true then some (i, -1, (i - j).toNat) else none) else
      if dec (0 < c ∧ c < 1073741824 ∧ Builtin.Range.small i j c = true) = true then some (i, c, (Builtin.Range.rangeSize i j c).toNat) else none
  | _ => none
theorem iv_rng1 {a : Expr} {f : SemL} {p pos : Pos} (hm : X.mg "range" = none) (ha : AV X Wx [a] f) (hg : Gl X "range" := by rfl) (hs : starEach [a] X.env = [(false, eval a X.env)] := by rfl) : IV X Wx tg (.Call (.Name "range" p) [a] [] pos) (iRng rg1 f) :=
  PIm (pi_range1 hg hm ha hs) (iRng_read fun F μ ws vs lo c n H R e r q => by
    unfold rg1 at e
    split at e
    · split at e
      · rename_i j hj
        cases e
        obtain ⟨v, rfl, r1⟩ := reps1 (ws := []) r
        cases rep_int_inv r1
        exact ⟨j, rfl, (big_of hj).1, (big_of hj).2, q _ (cnt_r 0 _)⟩
      · cases e
    · cases e)
theorem iv_rng2 {a b : Expr} {f : SemL} {p pos : Pos} (hm : X.mg "range" = none) (ha : AV X Wx [a, b] f) (hg : Gl X "range" := by rfl) (hs : starEach [a, b] X.env = [(false, eval a X.env), (false, eval b X.env)] := by rfl) (hs2 : starEach [b] X.env = [(false, eval b X.env)] := by rfl) : IV X Wx tg (.Call (.Name "range" p) [a, b] [] pos) (iRng rg2 f) :=
  PIm (pi_range2 hg hm ha hs hs2) (iRng_read fun F μ ws vs lo c n H R e r q => by
    unfold rg2 at e
    split at e
    · split at e
      · rename_i i j hj
        cases e
        obtain ⟨v, x, rfl, r1, r2⟩ := reps2 r
        cases rep_int_inv r1
        cases rep_int_inv r2
        exact ⟨_, j, rfl, ⟨(big_of hj.1).1, (big_of hj.1).2, (big_of hj.2).1, (big_of hj.2).2⟩, q _ (cnt_r _ _)⟩
      · cases e
    · cases e)
theorem rangeSize_up {i j c : Int} (hc : 0 < c) : Builtin.Range.rangeSize i j c = ((Builtin.Range.rangeSize i j c).toNat : Nat) := by
  have : 0 ≤ Builtin.Range.rangeSize i j c := by
    unfold Builtin.Range.rangeSize
    split <;> first | (split <;> first | omega | (apply Int.add_nonneg _ (by omega); exact Int.ediv_nonneg (by omega) (by omega)) | skip) | omega
    all_goals first | omega | exact Int.le_of_lt (by omega) | skip
  omega
theorem iv_rng3 {a b c : Expr} {f : SemL} {p pos : Pos} (hm : X.mg "range" = none) (ha : AV X Wx [a, b, c] f) (hg : Gl X "range" := by rfl) (hs : starEach [a, b, c] X.env = (false, eval a X.env) :: starEach [b, c] X.env := by rfl) (hpl : (backTo pos (starEach [b, c] X.env)).any (·.1) = false := by rfl) :
    IV X Wx tg (.Call (.Name "range" p) [a, b, c] [] pos) (iRng rg3 f) :=
  PIm (pi_range3 hg hm ha hs hpl) (iRng_read fun F μ ws vs lo k n H R e r q => by
    unfold rg3 at e
    split at e
    · rename_i i j c
      obtain ⟨v, t, rfl, r1, r2⟩ := r.cons_inv
      obtain ⟨x, y, rfl, r3, r4⟩ := reps2 r2
      cases rep_int_inv r1
      cases rep_int_inv r3
      cases rep_int_inv r4
      split at e
      · rename_i hc
        split at e
        · rename_i hj
          cases e
          exact ⟨_, j, _, _, rfl, by rw [hc]; exact RgC.neg (big_of hj.1).1 (big_of hj.1).2 (big_of hj.2).1 (big_of hj.2).2, by rw [hc]; exact q _ (cnt_c _ _ _)⟩
        · cases e
      · split at e
        · rename_i hc
          have hc := dec_of hc
          cases e
          exact ⟨_, j, _, _, rfl, ⟨by omega, by omega, hc.2.2, rangeSize_up hc.1⟩, q _ (cnt_c _ _ _)⟩
        · cases e
    · cases e)
/-- a text, sign by sign -/
def sgnW (z : Str) : List W := z.cps.toList.map fun c => W.str ⟨#[c]⟩
def iStrF (f : Sem) : SemI := fun fr st => (f fr st).bind fun x st1 => match x with
  | .str z => if z.length ≤ LINE then .ok (.non, sgnW z) st1 else .bad
  | _ => .bad
end
end SL

namespace SL
open PySem PySem.Spec PyProof.Rows L2

/-! ## hidden objects -/
section
variable {K : PySem.W.Frag} {mg : Str → Option Value} {μ : List Addr} {st : Sto} {hid : List Addr} {H : Hp}
theorem live_cons {p a : Addr} : LiveA μ st (p :: hid) a ↔ a = p ∨ LiveA μ st hid a := by
  unfold LiveA
  constructor
  · rintro (h | h)
    · rcases List.mem_cons.mp h with h | h
      · exact .inl h
      · exact .inr (.inl h)
    · exact .inr (.inr h)
  · rintro (h | h | h)
    · exact .inl (List.mem_cons.mpr (.inl h))
    · exact .inl (List.mem_cons_of_mem _ h)
    · exact .inr h
theorem Fz.hide {p : Addr} (hp : H p = none) : Fz μ st (p :: hid) H = Fz μ st hid H := by
  funext a
  by_cases h : LiveA μ st hid a
  · unfold Fz
    rw [if_pos h, if_pos (live_cons.mpr (.inr h))]
  · by_cases e : a = p
    · subst e
      unfold Fz
      rw [if_pos (live_cons.mpr (.inl rfl)), if_neg h, hp]
    · unfold Fz
      rw [if_neg h, if_neg (fun z => (live_cons.mp z).elim e h)]
theorem Fz.hidUpd {p : Addr} {o : HO} (hm : p ∈ hid) : Fz μ st hid (upd H p o) = Fz μ st hid H := by
  funext a
  by_cases h : LiveA μ st hid a
  · unfold Fz
    rw [if_pos h, if_pos h]
  · have e : a ≠ p := fun e => h (.inl (e ▸ hm))
    unfold Fz
    rw [if_neg h, if_neg h, upd_ne e]
theorem CelOk.of_eq {F : Hp} {H H' : Hp} {a : Addr} {c : Cel} (l : c.live = true → H' a = H a) (h : CelOk K mg F μ H a c) : CelOk K mg F μ H' a c := by
  cases c with
  | lst ws => obtain ⟨vs, e, r⟩ := h; exact ⟨vs, by rw [l rfl]; exact e, r⟩
  | dct ks ws => obtain ⟨vs, e, r⟩ := h; exact ⟨vs, e.of_eq (l rfl), r⟩
  | ins c ns ws => obtain ⟨C, dx, vs, g, l', e, r⟩ := h; exact ⟨C, dx, vs, g, l', by rw [l rfl]; exact e, r⟩
  | frz w => exact h
theorem CelOk.le {F F' : Hp} {μ' : List Addr} {a : Addr} {c : Cel} (x : Le F F') (p : Pre μ μ') (h : CelOk K mg F μ H a c) : CelOk K mg F' μ' H a c := by
  cases c with
  | lst ws => obtain ⟨vs, e, r⟩ := h; exact ⟨vs, e, r.mono x p⟩
  | dct ks ws => obtain ⟨vs, e, r⟩ := h; exact ⟨vs, e, r.mono x p⟩
  | ins c ns ws => obtain ⟨C, dx, vs, g, l', e, r⟩ := h; exact ⟨C, dx, vs, g, l', e, r.mono x p⟩
  | frz w => exact Rep.mono x p _ _ h
/-- a new object that is hidden -/
theorem StOk.hideNew (k : StOk K mg μ st hid H) {p : Addr} {o : HO} (hp : H p = none) (nt : ∀ vs, o ≠ .tup vs := by intro _ h; cases h) : StOk K mg μ st (p :: hid) (upd H p o) ∧ Fz μ st (p :: hid) (upd H p o) = Fz μ st hid H := by
  have e : Fz μ st (p :: hid) (upd H p o) = Fz μ st hid H := by rw [Fz.hidUpd List.mem_cons_self, Fz.hide hp]
  have ne : ∀ (n : Nat) (a : Addr) (c : Cel), μ[n]? = some a → st[n]? = some c → c.live = true → a ≠ p := fun n a c h1 h2 h3 z => by
    obtain ⟨u, q⟩ := (k.ok n a c h1 h2).there h3
    rw [z, hp] at q; cases q
  refine ⟨⟨k.len, k.inj, fun n a c h1 h2 h3 z => ?_, fun a ha => ?_, fun n a c h1 h2 => ?_⟩, e⟩
  · rcases List.mem_cons.mp z with z | z
    · exact ne n a c h1 h2 h3 z
    · exact k.hidn n a c h1 h2 h3 z
  · rcases List.mem_cons.mp ha with z | z
    · rw [z, upd_same]; exact ⟨(fun q => nomatch q), fun vs q => nt vs (Option.some.inj q)⟩
    · by_cases q : a = p
      · rw [q, upd_same]; exact ⟨(fun q => nomatch q), fun vs q => nt vs (Option.some.inj q)⟩
      · rw [upd_ne q]; exact k.hidt a z
  · rw [e]
    exact (k.ok n a c h1 h2).of_eq fun l => upd_ne (ne n a c h1 h2 l)
/-- a hidden object changes -/
theorem StOk.hidUpd (k : StOk K mg μ st hid H) {p : Addr} {o : HO} (hm : p ∈ hid) (nt : ∀ vs, o ≠ .tup vs := by intro _ h; cases h) : StOk K mg μ st hid (upd H p o) := by
  refine ⟨k.len, k.inj, k.hidn, fun a ha => ?_, fun n a c h1 h2 => ?_⟩
  · by_cases q : a = p
    · rw [q, upd_same]; exact ⟨(fun q => nomatch q), fun vs q => nt vs (Option.some.inj q)⟩
    · rw [upd_ne q]; exact k.hidt a ha
  · rw [Fz.hidUpd hm]
    exact (k.ok n a c h1 h2).of_eq fun l => upd_ne fun z => k.hidn n a c h1 h2 l (z ▸ hm)
/-- what was hidden is seen -/
theorem StOk.seen {p : Addr} {o : HO} (k : StOk K mg μ st (p :: hid) H) (hn : p ∉ hid) (e : H p = some o) : StOk K mg μ st hid H ∧ Le (Fz μ st (p :: hid) H) (Fz μ st hid H) ∧ Fz μ st hid H p = some o := by
  have l : Le (Fz μ st (p :: hid) H) (Fz μ st hid H) := Le.of fun a u h => by
    obtain ⟨h1, h2⟩ := Fz.sub h
    exact Fz.mk h1 fun z => h2 (live_cons.mpr (.inr z))
  refine ⟨⟨k.len, k.inj, fun n a c h1 h2 h3 z => k.hidn n a c h1 h2 h3 (List.mem_cons_of_mem _ z), fun a ha => k.hidt a (List.mem_cons_of_mem _ ha), fun n a c h1 h2 => (k.ok n a c h1 h2).le l (.refl _)⟩, l, Fz.mk e fun z => ?_⟩
  rcases z with z | ⟨n, c, h1, h2, h3⟩
  · exact hn z
  · exact k.hidn n p c h1 h2 h3 List.mem_cons_self
end

/-! ## comprehensions -/
def wipeF (fr : Fr) : List Nat → Fr
  | [] => fr
  | v :: vs => (wipeF fr vs).set v none
theorem wipeF_length (fr : Fr) : ∀ vs : List Nat, (wipeF fr vs).length = fr.length
  | [] => rfl
  | v :: vs => by unfold wipeF; rw [List.length_set, wipeF_length fr vs]
theorem wipe_at {α : Type} (σ : List (Option α)) (w : List (Option α) → List Nat → List (Option α)) (h0 : ∀ f, w f [] = f) (h1 : ∀ f v vs, w f (v :: vs) = (w f vs).set v none) : ∀ (vs : List Nat) (j : Nat), (j ∉ vs → (w σ vs)[j]? = σ[j]?) ∧ (j ∈ vs → ∀ x, (w σ vs)[j]? ≠ some (some x))
  | [], j => ⟨fun _ => by rw [h0], fun h => by simp at h⟩
  | v :: vs, j => by
    obtain ⟨a, b⟩ := wipe_at σ w h0 h1 vs j
    rw [h1]
    by_cases e : v = j
    · subst e
      refine ⟨fun h => by simp at h, fun _ x z => ?_⟩
      by_cases q : v < (w σ vs).length
      · rw [List.getElem?_set_self q] at z; cases z
      · rw [List.getElem?_eq_none (by simpa using q)] at z; cases z
    · rw [List.getElem?_set_ne e]
      exact ⟨fun h => a fun z => h (List.mem_cons_of_mem _ z), fun h => b (by rcases List.mem_cons.mp h with z | z; exact absurd z.symm e; exact z)⟩
theorem wipeF_at (fr : Fr) (vs : List Nat) (j : Nat) : (j ∉ vs → (wipeF fr vs)[j]? = fr[j]?) ∧ (j ∈ vs → ∀ x, (wipeF fr vs)[j]? ≠ some (some x)) := wipe_at fr wipeF (fun _ => rfl) (fun _ _ _ => rfl) vs j
theorem wipe_at' (σ : L2.St) (vs : List Nat) (j : Nat) : (j ∉ vs → (wipe σ vs)[j]? = σ[j]?) ∧ (j ∈ vs → ∀ x, (wipe σ vs)[j]? ≠ some (some x)) := wipe_at σ wipe (fun _ => rfl) (fun _ _ _ => rfl) vs j
theorem wipe_ext {σ σ2 : L2.St} {vs : List Nat} (hl : σ2.length = σ.length) (h : ∀ j, j ∉ vs → σ2[j]? = (wipe σ vs)[j]?) : wipe σ2 vs = wipe σ vs := by
  apply List.ext_getElem?
  intro j
  by_cases hj : j ∈ vs
  · have a := (wipe_at' σ vs j).2 hj
    have b := (wipe_at' σ2 vs j).2 hj
    have l1 := wipe_length σ vs
    have l2 := wipe_length σ2 vs
    by_cases q : j < σ.length
    · have q1 : j < (wipe σ vs).length := by omega
      have q2 : j < (wipe σ2 vs).length := by omega
      rw [List.getElem?_eq_getElem q1] at a ⊢
      rw [List.getElem?_eq_getElem q2] at b ⊢
      cases e1 : (wipe σ vs)[j] with
      | some x => rw [e1] at a; exact absurd rfl (a x)
      | none =>
        cases e2 : (wipe σ2 vs)[j] with
        | some x => rw [e2] at b; exact absurd rfl (b x)
        | none => rfl
    · rw [List.getElem?_eq_none (by omega), List.getElem?_eq_none (by omega)]
  · rw [(wipe_at' σ2 vs j).1 hj]
    exact h j hj
theorem SI.wipe {K : PySem.W.Frag} {mg : Str → Option Value} {Wx : Wish} {μ : List Addr} {st : Sto} {hid : List Addr} {fr : Fr} {σ : L2.St} {H : Hp} (s : SI K mg Wx μ st hid fr σ H) (vs : List Nat) (hv : ∀ i ∈ Wx.lock, i ∉ vs) : SI K mg Wx μ st hid (wipeF fr vs) (L2.wipe σ vs) H :=
  ⟨s.sto, by rw [wipeF_length, wipe_length]; exact s.len, fun i w h => by
    by_cases hi : i ∈ vs
    · exact absurd h ((wipeF_at fr vs i).2 hi w)
    · rw [(wipeF_at fr vs i).1 hi] at h
      rw [(wipe_at' σ vs i).1 hi]
      exact s.loc i w h, Wx.slot _ _ _ _ (fun j hj => (wipe_at' σ vs j).1 (hv j hj)) s.ex⟩
/-- nothing may be raised within -/
def Wish.blk (Wx : Wish) : Wish := ⟨fun _ _ _ _ => False, Wx.lock, Wx.y, Wx.mono, Wx.slot⟩
theorem SI.blk {K : PySem.W.Frag} {mg : Str → Option Value} {Wx : Wish} {μ : List Addr} {st : Sto} {hid : List Addr} {fr : Fr} {σ : L2.St} {H : Hp} (s : SI K mg Wx μ st hid fr σ H) : SI K mg Wx.blk μ st hid fr σ H := ⟨s.sto, s.len, s.loc, s.ex⟩
open Classical in
noncomputable def lcRun (x : W) (all : List W) (g : TgF) (t : SemB) (e : Sem) (fr : Fr) : List W → Sto → Out (List W)
  | [], st => if srcOk x all st then .ok [] st else .bad
  | w :: r, st => if srcOk x all st then (match g w fr st with
    | some fr1 => match t fr1 st with
      | .ok true st1 => match e fr1 st1 with
        | .ok y st2 => match lcRun x all g t e fr r st2 with
          | .ok ys st3 => .ok (y :: ys) st3
          | _ => .bad
        | _ => .bad
      | .ok false st1 => lcRun x all g t e fr r st1
      | _ => .bad
    | none => .bad) else .bad
/-- what is done with the finished list -/
abbrev LFin := List W → Sto → Out W
noncomputable def eLcG (fin : LFin) (f : SemI) (g : TgF) (own : List Nat) (t : SemB) (e : Sem) : Sem := fun fr st => (f fr st).bind fun p st1 => match lcRun p.1 p.2 g t e (wipeF fr own) p.2 st1 with
  | .ok ys st2 => fin ys st2
  | _ => .bad
def finL : LFin := fun ys st => .ok (.lst ys) st
def finC : LFin := fun ys st => .ok (.cell st.length) (st ++ [.lst ys])
noncomputable abbrev eLc (f : SemI) (g : TgF) (own : List Nat) (t : SemB) (e : Sem) : Sem := eLcG finL f g own t e
noncomputable abbrev eLcC (f : SemI) (g : TgF) (own : List Nat) (t : SemB) (e : Sem) : Sem := eLcG finC f g own t e
def FinOk (K : PySem.W.Frag) (mg : Str → Option Value) (fin : LFin) : Prop := ∀ (Wx : WX) (σ : L2.St) (Q : VK) (hid μ0 : List Addr) (st0 : Sto) (H0 : Hp) (μ : List Addr) (st : Sto) (H : Hp) (D : Addr) (acc : List V) (ys : List W), StOk K mg μ st (D :: hid) H → D ∉ hid → H D = some (.lst acc) → Reps K mg (Fz μ st (D :: hid) H) μ ys acc → Pre μ0 μ → Le (Fz μ0 st0 hid H0) (Fz μ st (D :: hid) H) → (∀ a ∈ hid, H a = H0 a) → Lk H0 H →
  EPost K mg Wx hid μ0 st0 σ H0 Q (fin ys st) → Q (.ref D) H
theorem fin_lst {K : PySem.W.Frag} {mg : Str → Option Value} : FinOk K mg finL := fun Wx σ Q hid μ0 st0 H0 μ st H D acc ys k hD e r p l hh hlk P => by
  obtain ⟨k6, l6, e6⟩ := k.seen hD e
  exact P μ H _ k6 ⟨p, l.trans l6, hh, hlk⟩ (rep_lst e6 (r.mono l6 (.refl _)))
/-- a hidden list becomes a cell -/
theorem StOk.cellOf {K : PySem.W.Frag} {mg : Str → Option Value} {μ : List Addr} {st : Sto} {hid : List Addr} {H : Hp} {p : Addr} {acc : List V} {ys : List W} (k : StOk K mg μ st (p :: hid) H) (hn : p ∉ hid) (hp : H p = some (.lst acc)) (r : Reps K mg (Fz μ st (p :: hid) H) μ ys acc) :
    StOk K mg (μ ++ [p]) (st ++ [.lst ys]) hid H ∧ Fz (μ ++ [p]) (st ++ [.lst ys]) hid H = Fz μ st (p :: hid) H := by
  have spl : ∀ {m : Nat} {a : Addr} {d : Cel}, (μ ++ [p])[m]? = some a → (st ++ [Cel.lst ys])[m]? = some d → (m < st.length ∧ μ[m]? = some a ∧ st[m]? = some d) ∨ (m = st.length ∧ a = p ∧ d = .lst ys) := fun {m a d} e1 e2 => by
    by_cases z : m < st.length
    · rw [List.getElem?_append_left (by rw [k.len]; exact z)] at e1
      rw [List.getElem?_append_left z] at e2
      exact .inl ⟨z, e1, e2⟩
    · by_cases y : m = st.length
      · subst y
        rw [List.getElem?_append_right (by rw [k.len]; exact Nat.le_refl _), k.len] at e1
        rw [List.getElem?_append_right (Nat.le_refl _)] at e2
        simp at e1 e2
        exact .inr ⟨rfl, e1.symm, e2.symm⟩
      · rw [List.getElem?_append_right (by omega)] at e2
        rw [List.getElem?_eq_none (by simp; omega)] at e2; cases e2
  have lv : ∀ a, LiveA (μ ++ [p]) (st ++ [.lst ys]) hid a ↔ LiveA μ st (p :: hid) a := fun a => by
    constructor
    · rintro (h | ⟨m, d, e1, e2, e3⟩)
      · exact .inl (List.mem_cons_of_mem _ h)
      · rcases spl e1 e2 with ⟨y1, y2, y3⟩ | ⟨y1, y2, y3⟩
        · exact .inr ⟨m, d, y2, y3, e3⟩
        · subst y2; exact .inl List.mem_cons_self
    · rintro (h | ⟨m, d, e1, e2, e3⟩)
      · rcases List.mem_cons.mp h with h | h
        · subst h
          exact .inr ⟨st.length, .lst ys, by rw [List.getElem?_append_right (by rw [k.len]; exact Nat.le_refl _), k.len]; simp, by simp, rfl⟩
        · exact .inl h
      · have z : m < st.length := by
          rcases Nat.lt_or_ge m st.length with q | q
          · exact q
          · rw [List.getElem?_eq_none q] at e2; cases e2
        exact .inr ⟨m, d, by rw [List.getElem?_append_left (by rw [k.len]; exact z)]; exact e1, by rw [List.getElem?_append_left z]; exact e2, e3⟩
  have e : Fz (μ ++ [p]) (st ++ [.lst ys]) hid H = Fz μ st (p :: hid) H := by
    funext a
    by_cases h : LiveA μ st (p :: hid) a
    · unfold Fz; rw [if_pos h, if_pos ((lv a).mpr h)]
    · unfold Fz; rw [if_neg h, if_neg fun y => h ((lv a).mp y)]
  have pre : Pre μ (μ ++ [p]) := ⟨[p], rfl⟩
  have np : ∀ {m : Nat} {a : Addr} {d : Cel}, μ[m]? = some a → st[m]? = some d → d.live = true → a ≠ p := fun {m a d} e1 e2 e3 z => k.hidn m a d e1 e2 e3 (z ▸ List.mem_cons_self)
  refine ⟨⟨by simp [k.len], fun i j a d d' h2 h3 h4 h4' h5 h5' => ?_, fun j a d h2 h3 h4 => ?_, fun a ha => k.hidt a (List.mem_cons_of_mem _ ha), fun j a d h2 h3 => ?_⟩, e⟩
  · rcases spl h2 h4 with ⟨y1, y2, y3⟩ | ⟨y1, y2, y3⟩ <;> rcases spl h3 h4' with ⟨z1, z2, z3⟩ | ⟨z1, z2, z3⟩
    · exact k.inj i j a d d' y2 z2 y3 z3 h5 h5'
    · exact absurd z2 (np y2 y3 h5)
    · exact absurd y2 (np z2 z3 h5')
    · omega
  · rcases spl h2 h3 with ⟨y1, y2, y3⟩ | ⟨y1, y2, y3⟩
    · exact fun z => k.hidn j a d y2 y3 h4 (List.mem_cons_of_mem _ z)
    · subst y2; exact hn
  · rw [e]
    rcases spl h2 h3 with ⟨y1, y2, y3⟩ | ⟨y1, y2, y3⟩
    · exact (k.ok j a d y2 y3).le (.refl _) pre
    · subst y2 y3; exact ⟨acc, hp, r.mono (.refl _) pre⟩
theorem fin_cel {K : PySem.W.Frag} {mg : Str → Option Value} : FinOk K mg finC := fun Wx σ Q hid μ0 st0 H0 μ st H D acc ys k hD e r p l hh hlk P => by
  obtain ⟨k6, e6⟩ := k.cellOf hD e r
  refine P _ H _ k6 ⟨p.trans ⟨[D], rfl⟩, by rw [e6]; exact l, hh, hlk⟩ ?_
  unfold Rep
  exact ⟨D, by rw [← k.len]; simp, rfl⟩
/-- a comprehension's own state: what the list at D holds -/
structure LcSt (K : PySem.W.Frag) (mg : Str → Option Value) (D : Addr) (hid μ0 : List Addr) (F0 : Hp) (H0 : Hp) (i : Nat) (μ : List Addr) (st : Sto) (H : Hp) (ys : List W) (acc : List V) : Prop where
  sto : StOk K mg μ st (D :: hid) H
  le : Le F0 (Fz μ st (D :: hid) H)
  pre : Pre μ0 μ
  hidk : ∀ a ∈ hid, H a = H0 a
  lck : Lk H0 H
  at_ : H D = some (.lst acc)
  rep : Reps K mg (Fz μ st (D :: hid) H) μ ys acc
  len : acc.length ≤ i
theorem lc_read {X : Cx} {Wx : Wish} {fin : LFin} {f : SemI} {g : TgF} {sl own : List Nat} {t : SemB} {e : Sem} (hf : FinOk X.K X.mg fin) (hsl : ∀ i ∈ sl, i ∈ own) (hlk : ∀ i ∈ Wx.lock, i ∉ own) : ∀ σ H Q, tE X.K X.mg Wx (eLcG fin f g own t e) σ H Q →
    tLc (tI X.K X.mg Wx f) (tG X.K X.mg Wx.blk g sl) (tB' X.K X.mg Wx.blk t) (tE X.K X.mg Wx.blk e) own σ H Q := fun σ H Q ⟨μ, st, hid, fr, S, P⟩ => by
  refine ⟨μ, st, hid, fr, S, ?_⟩
  unfold eLcG at P
  cases h1 : f fr st with
  | bad => rw [h1] at P; exact P
  | err x s => rw [h1] at P; exact P
  | ok p st1 =>
    obtain ⟨x, all⟩ := p
    rw [h1, Out.bind_ok] at P
    intro μ1 H1 J k1 g1 ji D hD
    have P1 := EPost.from g1 P
    have S1 := S.next k1 g1
    simp only at P1
    cases hr : lcRun x all g t e (wipeF fr own) all st1 with
    | bad => rw [hr] at P1; exact P1.elim
    | err z s => rw [hr] at P1; exact P1.elim
    | ok tot stE =>
      rw [hr] at P1
      have hDn : D ∉ hid := fun z => (k1.hidt D z).1 hD
      obtain ⟨k2, e2⟩ := k1.hideNew (o := .lst []) hD
      refine ⟨fun i m H => m = all.length - i ∧ i ≤ all.length ∧ ∃ μ st ys acc rest, LcSt X.K X.mg D hid μ1 (Fz μ1 st1 hid H1) H1 i μ st H ys acc ∧ lcRun x all g t e (wipeF fr own) (all.drop i) st = .ok rest stE ∧ ys ++ rest = tot,
        ⟨_, rfl, Nat.zero_le _, μ1, st1, [], [], tot, ⟨k2, by rw [e2]; exact .refl _, .refl _, fun a ha => upd_ne fun z => hDn (z ▸ ha), fun a o u h => by rw [upd_ne (ne_of_none h hD)]; exact h, upd_same, .nil, Nat.le_refl _⟩, hr, rfl⟩, ?_⟩
      rintro i m H2 ⟨rfl, hi, μ2, st2, ys, acc, rest, L, run, tt⟩
      by_cases hlt : i < all.length
      · rw [List.drop_eq_getElem_cons hlt, lcRun] at run
        split at run
        · rename_i hs
          refine .inr ⟨ji.go _ _ _ _ i L.sto L.le L.pre L.lck hs hlt, fun H => ∃ μ st ys acc rest, LcSt X.K X.mg D hid μ1 (Fz μ1 st1 hid H1) H1 (i + 1) μ st H ys acc ∧ lcRun x all g t e (wipeF fr own) (all.drop (i + 1)) st = .ok rest stE ∧ ys ++ rest = tot,
            fun H' q => ⟨_, by omega, rfl, hlt, q⟩, fun v H3 hy => ?_⟩
          obtain ⟨k3, g3, w, hw, rw_⟩ := ji.yld _ _ _ _ i v H3 L.sto L.le L.pre L.lck hs hlt hy
          have ew : all[i] = w := by
            rw [List.getElem?_eq_getElem hlt] at hw; exact Option.some.inj hw
          rw [ew] at run
          cases e3 : g w (wipeF fr own) st2 with
          | none => rw [e3] at run; cases run
          | some fr1 =>
            rw [e3] at run
            simp only at run
            have S3 : SI X.K X.mg Wx.blk μ2 st2 (D :: hid) (wipeF fr own) (wipe σ own) H3 := by
              have W := (S1.wipe own hlk).blk
              have l3 : Le (Fz μ1 st1 hid H1) (Fz μ2 st2 (D :: hid) H3) := L.le.trans g3.le
              exact ⟨k3, W.len, fun j u hj => by
                obtain ⟨v, ev, rv⟩ := W.loc j u hj
                exact ⟨v, ev, Rep.mono l3 L.pre _ _ rv⟩, Wx.blk.mono _ _ _ _ _ l3 L.pre W.ex⟩
            refine ⟨μ2, st2, D :: hid, wipeF fr own, w, fr1, S3, rw_, e3, fun σ2 S4 ag => ⟨wipe_ext (by rw [ag.1, wipe_length]) fun j hj => ag.2 j fun z => hj (hsl j z), μ2, st2, D :: hid, fr1, S4, ?_⟩⟩
            cases e4 : t fr1 st2 with
            | bad => rw [e4] at run; cases run
            | err z s => rw [e4] at run; cases run
            | ok b st3 =>
              rw [e4] at run
              intro μ3 H4 k4 g4
              have keep : ∀ {μ' : List Addr} {st' : Sto} {H' : Hp}, Grow (D :: hid) μ2 st2 H3 μ' st' H' → StOk X.K X.mg μ' st' (D :: hid) H' → LcSt X.K X.mg D hid μ1 (Fz μ1 st1 hid H1) H1 i μ' st' H' ys acc := fun gg kk =>
                ⟨kk, (L.le.trans g3.le).trans gg.le, L.pre.trans gg.pre, fun a ha => ((gg.hid a (List.mem_cons_of_mem _ ha)).trans (g3.hid a (List.mem_cons_of_mem _ ha))).trans (L.hidk a ha), L.lck.trans (g3.lck.trans gg.lck),
                  ((gg.hid D List.mem_cons_self).trans (g3.hid D List.mem_cons_self)).trans L.at_, L.rep.mono (g3.le.trans gg.le) gg.pre, L.len⟩
              cases b with
              | false =>
                refine iteF ?_
                have Q4 := keep g4 k4
                exact ⟨μ3, st3, ys, acc, rest, ⟨Q4.sto, Q4.le, Q4.pre, Q4.hidk, Q4.lck, Q4.at_, Q4.rep, Nat.le_succ_of_le Q4.len⟩, run, tt⟩
              | true =>
                refine iteT ⟨μ3, st3, D :: hid, fr1, S4.next k4 g4, ?_⟩
                simp only at run
                cases e5 : e fr1 st3 with
                | bad => rw [e5] at run; cases run
                | err z s => rw [e5] at run; cases run
                | ok y st4 =>
                  rw [e5] at run
                  simp only at run
                  intro μ4 H5 vy k5 g5 r5
                  have Q5 := keep (g4.trans g5) k5
                  cases e6 : lcRun x all g t e (wipeF fr own) (all.drop (i + 1)) st4 with
                  | bad => rw [e6] at run; cases run
                  | err z s => rw [e6] at run; cases run
                  | ok more stF =>
                    rw [e6] at run
                    simp only at run
                    injection run with ra rb
                    subst ra rb
                    refine ⟨acc, Q5.at_, Nat.lt_of_le_of_lt Q5.len (Nat.lt_of_lt_of_le hlt ji.len), μ4, st4, ys ++ [y], acc ++ [vy], more, ⟨Q5.sto.hidUpd List.mem_cons_self, ?_, Q5.pre, fun a ha => ?_, fun a o u h => ?_, upd_same, ?_, ?_⟩, e6, by rw [← tt]; simp⟩
                    · rw [Fz.hidUpd List.mem_cons_self]; exact Q5.le
                    · rw [upd_ne (fun z : a = D => hDn (z ▸ ha))]; exact Q5.hidk a ha
                    · have q := Q5.lck a o u h
                      rw [upd_ne fun z => by rw [z, Q5.at_] at q; cases q]; exact q
                    · rw [Fz.hidUpd List.mem_cons_self]; exact Q5.rep.append (.cons r5 .nil)
                    · rw [List.length_append, List.length_singleton]; exact Nat.succ_le_succ Q5.len
        · cases run
      · have hi2 : i = all.length := by omega
        subst hi2
        rw [List.drop_length, lcRun] at run
        split at run
        · rename_i hs
          injection run with ra rb
          subst ra rb
          refine .inl ⟨ji.stop _ _ _ _ _ L.sto L.le L.pre L.lck hs (Nat.le_refl _), ?_⟩
          rw [List.append_nil] at tt
          subst tt
          exact hf _ _ _ _ _ _ _ _ _ _ _ _ _ L.sto hDn L.at_ L.rep L.pre L.le L.hidk L.lck P1
        · cases run
section
variable {X : Cx} {Wx : Wish}
def tTrue : SemB := fun _ st => .ok true st
theorem tv_ifs0 : PTs X [] (tB' X.K X.mg Wx tTrue) := ⟨fun pins s σ H Q I h => pts_nil.run pins s σ H Q I (by
  obtain ⟨μ, st, hid, fr, S, P⟩ := h
  exact P μ H S.sto .refl)⟩
theorem tv_ifs1 {c : Expr} {t : SemB} (h : TV X Wx c t) : PTs X [c] (tB' X.K X.mg Wx t) := pts_one h
theorem ev_lcG {fin : LFin} (hf : FinOk X.K X.mg fin) {elt tg iter : Expr} {ifs : List Expr} {scope : Scope} {own : List (Str × Nat)} {pos : Pos} {f : SemI} {g : TgF} {sl : List Nat} {t : SemB} {e : Sem} (hc : X.calm = true) (hN : X.N.Nodup) (hi : IV X Wx tg iter f) (ok : blkC X.N X.env.scope scope own = true)
    (hsl : ∀ i ∈ sl, i ∈ own.map (·.2)) (hlk : ∀ i ∈ Wx.lock, i ∉ own.map (·.2))
    (hg : ∀ (s : Shared) (H : Hp) (C : Addr) (cl : List (Str × Addr)) (fp : List Addr), GV (X.blk s H scope (compEnvC scope cl C X.env) fp) Wx.blk tg g sl)
    (ht : ∀ (s : Shared) (H : Hp) (C : Addr) (cl : List (Str × Addr)) (fp : List Addr), PTs (X.blk s H scope (compEnvC scope cl C X.env) fp) ifs (tB' X.K X.mg Wx.blk t))
    (he : ∀ (s : Shared) (H : Hp) (C : Addr) (cl : List (Str × Addr)) (fp : List Addr), EV (X.blk s H scope (compEnvC scope cl C X.env) fp) Wx.blk elt e) (hs : ∀ x, foldedSetIterable iter X.env x = pure x := by intro _; rfl) :
    EV X Wx (.ListComp elt [⟨tg, iter, ifs, 0⟩] scope pos) (eLcG fin f g (own.map (·.2)) t e) :=
  PEm (pe_lc hc hN hi (blkOk_by ok) hg ht he hs) (lc_read hf hsl hlk)
end
end SL

namespace SL
open PySem PySem.Spec PyProof.Rows L2

/-! ## the contexts -/
structure Ctx (X : Cx) (Wx : Wish) (k : Nat) : Prop where
  calm : X.calm = true
  nd : X.N.Nodup
  room : Room k X.A
  tk : Takes X Wx.w
  hp : PassesOwn (model X.prog X.w) X.A X.env X.xe
theorem Ctx.blk {X : Cx} {Wx : Wish} {k : Nat} (C : Ctx X Wx k) (s : Shared) (H : Hp) (scope : Scope) (cenv : Env) (fp : List Addr) : Ctx (X.blk s H scope cenv fp) Wx.blk k := ⟨C.calm, C.nd, C.room, takes0, PassesOwn.never⟩
theorem Ctx.mono {X : Cx} {Wx : Wish} {j k : Nat} (C : Ctx X Wx k) (h : j ≤ k) : Ctx X Wx j := ⟨C.calm, C.nd, C.room.mono h, C.tk, C.hp⟩

/-! ## a cell changes -/
section
variable {K : PySem.W.Frag} {mg : Str → Option Value} {μ : List Addr} {st : Sto} {hid : List Addr} {H : Hp}
theorem live_set {n : Nat} {c c' : Cel} {p : Addr} (h1 : st[n]? = some c) (l : c.live = true) (l' : c'.live = true) (a : Addr) : LiveA μ (st.set n c') hid a ↔ LiveA μ st hid a := by
  have hn : n < st.length := by
    rcases Nat.lt_or_ge n st.length with q | q
    · exact q
    · rw [List.getElem?_eq_none q] at h1; cases h1
  unfold LiveA
  constructor
  · rintro (h | ⟨m, d, e1, e2, e3⟩)
    · exact .inl h
    · by_cases e : n = m
      · subst e; exact .inr ⟨n, c, e1, h1, l⟩
      · rw [List.getElem?_set_ne e] at e2; exact .inr ⟨m, d, e1, e2, e3⟩
  · rintro (h | ⟨m, d, e1, e2, e3⟩)
    · exact .inl h
    · by_cases e : n = m
      · subst e; exact .inr ⟨n, c', e1, by rw [List.getElem?_set_self hn], l'⟩
      · exact .inr ⟨m, d, e1, by rw [List.getElem?_set_ne e]; exact e2, e3⟩
theorem StOk.setCell0 (k : StOk K mg μ st hid H) {n : Nat} {c c' : Cel} {p : Addr} {o : HO} (h0 : μ[n]? = some p) (h1 : st[n]? = some c) (l : c.live = true) (l' : c'.live = true) (q : CelOk K mg (Fz μ st hid H) μ (upd H p o) p c') :
    StOk K mg μ (st.set n c') hid (upd H p o) ∧ Fz μ (st.set n c') hid (upd H p o) = Fz μ st hid H ∧ p ∉ hid := by
  have lp : LiveA μ st hid p := .inr ⟨n, c, h0, h1, l⟩
  have e : Fz μ (st.set n c') hid (upd H p o) = Fz μ st hid H := by
    funext a
    by_cases h : LiveA μ st hid a
    · unfold Fz; rw [if_pos h, if_pos ((live_set (p := p) h1 l l' a).mpr h)]
    · have hne : a ≠ p := fun z => h (z ▸ lp)
      unfold Fz; rw [if_neg h, if_neg (fun z => h ((live_set (p := p) h1 l l' a).mp z)), upd_ne hne]
  have hn : n < st.length := by
    rcases Nat.lt_or_ge n st.length with q | q
    · exact q
    · rw [List.getElem?_eq_none q] at h1; cases h1
  have hh : p ∉ hid := k.hidn n p c h0 h1 l
  refine ⟨⟨by rw [List.length_set]; exact k.len, fun i j a d d' h2 h3 h4 h4' h5 h5' => ?_, fun j a d h2 h3 h4 => ?_, fun a ha => ?_, fun j a d h2 h3 => ?_⟩, e, hh⟩
  · have old : ∀ {m : Nat} {b : Addr} {e : Cel}, (st.set n c')[m]? = some e → e.live = true → ∃ e', st[m]? = some e' ∧ e'.live = true := fun {m b e} y1 y2 => by
      by_cases z : n = m
      · subst z; exact ⟨c, h1, l⟩
      · rw [List.getElem?_set_ne z] at y1; exact ⟨e, y1, y2⟩
    obtain ⟨e1, y1, y2⟩ := old (b := a) h4 h5
    obtain ⟨e2, y3, y4⟩ := old (b := a) h4' h5'
    exact k.inj i j a e1 e2 h2 h3 y1 y3 y2 y4
  · by_cases z : n = j
    · subst z
      rw [h0] at h2; cases h2; exact hh
    · rw [List.getElem?_set_ne z] at h3; exact k.hidn j a d h2 h3 h4
  · by_cases z : a = p
    · exact absurd (z ▸ ha) hh
    · rw [upd_ne z]; exact k.hidt a ha
  · rw [e]
    by_cases z : n = j
    · subst z
      rw [h0] at h2; cases h2
      rw [List.getElem?_set_self hn] at h3
      cases h3; exact q
    · rw [List.getElem?_set_ne z] at h3
      refine (k.ok j a d h2 h3).of_eq fun ld => upd_ne fun y => z ?_
      subst y
      exact k.inj n j a c d h0 h2 h1 h3 l ld
/-- what is not locked -/
def Cel.unl : Cel → Bool
  | .lst _ | .ins _ _ _ => true
  | .dct (.ty t :: _) _ => t == "T"
  | .dct _ _ => true
  | .frz _ => false
theorem unl_nf {F : Hp} {a : Addr} {c : Cel} (h : CelOk K mg F μ H a c) (hu : c.unl = true) : ∀ o u, H a ≠ some (.frz o u) := by
  intro o u e
  cases c with
  | lst ws => obtain ⟨vs, h, _⟩ := h; rw [e] at h; cases h
  | ins c ns ws => obtain ⟨C, dx, vs, _, _, h, _⟩ := h; rw [e] at h; cases h
  | frz w => cases hu
  | dct ks ws =>
    obtain ⟨vs, ⟨l, q, h1, h2, h3⟩, _⟩ := h
    have hl : l = false := by
      cases ks with
      | nil => cases h1; rfl
      | cons w ks =>
        cases w with
        | ty t =>
          have ht : t = "T" := beq_iff_eq.mp hu
          subst ht
          have z : kindW (.ty "T" :: ks) = (mapO keyT ks).map fun kk => (false, .inr kk) := rfl
          rw [z] at h1
          cases m : mapO keyT ks with
          | none => rw [m] at h1; cases h1
          | some kk => rw [m] at h1; cases h1; rfl
        | int i =>
          have z : kindW (.int i :: ks) = (mapO keyW (.int i :: ks)).map fun kk => (false, .inl kk) := rfl
          rw [z] at h1
          cases m : mapO keyW (.int i :: ks) with
          | none => rw [m] at h1; cases h1
          | some kk => rw [m] at h1; cases h1; rfl
        | str x =>
          have z : kindW (.str x :: ks) = (mapO keyW (.str x :: ks)).map fun kk => (false, .inl kk) := rfl
          rw [z] at h1
          cases m : mapO keyW (.str x :: ks) with
          | none => rw [m] at h1; cases h1
          | some kk => rw [m] at h1; cases h1; rfl
        | _ => cases h1
    subst hl
    have h3' : H a = some (dObj q vs) := h3
    rw [e] at h3'
    cases q <;> cases h3'
theorem StOk.setCell (k : StOk K mg μ st hid H) {n : Nat} {c c' : Cel} {p : Addr} {o : HO} (h0 : μ[n]? = some p) (h1 : st[n]? = some c) (l : c.live = true) (l' : c'.live = true) (q : CelOk K mg (Fz μ st hid H) μ (upd H p o) p c') (hu : c.unl = true := by rfl) :
    StOk K mg μ (st.set n c') hid (upd H p o) ∧ Grow hid μ st H μ (st.set n c') (upd H p o) := by
  obtain ⟨k1, e, hh⟩ := k.setCell0 h0 h1 l l' q
  have nf := unl_nf (k.ok n p c h0 h1) hu
  exact ⟨k1, ⟨.refl _, by rw [e]; exact .refl _, fun a ha => upd_ne fun z => hh (z ▸ ha), fun a o' u h => by
    have ne : a ≠ p := fun z => nf o' u (by rw [← z]; exact h)
    rw [upd_ne ne]; exact h⟩⟩
/-- a new cell -/
theorem StOk.newCell (k : StOk K mg μ st hid H) {c : Cel} {p : Addr} {o : HO} (hp : H p = none) (lc : c.live = true) (q : CelOk K mg (Fz μ st hid H) (μ ++ [p]) (upd H p o) p c) :
    StOk K mg (μ ++ [p]) (st ++ [c]) hid (upd H p o) ∧ Grow hid μ st H (μ ++ [p]) (st ++ [c]) (upd H p o) := by
  have nl := k.notLive hp
  have lv : ∀ a, LiveA (μ ++ [p]) (st ++ [c]) hid a ↔ a = p ∨ LiveA μ st hid a := fun a => by
    unfold LiveA
    constructor
    · rintro (h | ⟨m, d, e1, e2, e3⟩)
      · exact .inr (.inl h)
      · by_cases z : m < st.length
        · rw [List.getElem?_append_left (by rw [k.len]; exact z)] at e1
          rw [List.getElem?_append_left z] at e2
          exact .inr (.inr ⟨m, d, e1, e2, e3⟩)
        · by_cases y : m = st.length
          · subst y
            rw [List.getElem?_append_right (by rw [k.len]; exact Nat.le_refl _), k.len] at e1
            simp at e1
            exact .inl e1.symm
          · rw [List.getElem?_append_right (by omega)] at e2
            rw [List.getElem?_eq_none (by simp; omega)] at e2; cases e2
    · rintro (h | h | ⟨m, d, e1, e2, e3⟩)
      · subst h
        exact .inr ⟨st.length, c, by rw [List.getElem?_append_right (by rw [k.len]; exact Nat.le_refl _), k.len]; simp, by simp, lc⟩
      · exact .inl h
      · have z : m < st.length := by
          rcases Nat.lt_or_ge m st.length with q | q
          · exact q
          · rw [List.getElem?_eq_none q] at e2; cases e2
        exact .inr ⟨m, d, by rw [List.getElem?_append_left (by rw [k.len]; exact z)]; exact e1, by rw [List.getElem?_append_left z]; exact e2, e3⟩
  have e : Fz (μ ++ [p]) (st ++ [c]) hid (upd H p o) = Fz μ st hid H := by
    funext a
    by_cases h : LiveA μ st hid a
    · unfold Fz; rw [if_pos h, if_pos ((lv a).mpr (.inr h))]
    · by_cases z : a = p
      · subst z
        unfold Fz; rw [if_neg h, if_pos ((lv a).mpr (.inl rfl)), hp]
      · unfold Fz; rw [if_neg h, if_neg (fun y => ((lv a).mp y).elim z h), upd_ne z]
  have pre : Pre μ (μ ++ [p]) := ⟨[p], rfl⟩
  have spl : ∀ {m : Nat} {a : Addr} {d : Cel}, (μ ++ [p])[m]? = some a → (st ++ [c])[m]? = some d → (m < st.length ∧ μ[m]? = some a ∧ st[m]? = some d) ∨ (m = st.length ∧ a = p ∧ d = c) := fun {m a d} e1 e2 => by
    by_cases z : m < st.length
    · rw [List.getElem?_append_left (by rw [k.len]; exact z)] at e1
      rw [List.getElem?_append_left z] at e2
      exact .inl ⟨z, e1, e2⟩
    · by_cases y : m = st.length
      · subst y
        rw [List.getElem?_append_right (by rw [k.len]; exact Nat.le_refl _), k.len] at e1
        rw [List.getElem?_append_right (Nat.le_refl _)] at e2
        simp at e1 e2
        exact .inr ⟨rfl, e1.symm, e2.symm⟩
      · rw [List.getElem?_append_right (by omega)] at e2
        rw [List.getElem?_eq_none (by simp; omega)] at e2; cases e2
  have np : ∀ {m : Nat} {a : Addr} {d : Cel}, μ[m]? = some a → st[m]? = some d → d.live = true → a ≠ p := fun {m a d} e1 e2 e3 z => by
    obtain ⟨u, y⟩ := (k.ok m a d e1 e2).there e3
    rw [z, hp] at y; cases y
  refine ⟨⟨by simp [k.len], fun i j a d d' h2 h3 h4 h4' h5 h5' => ?_, fun j a d h2 h3 h4 => ?_, fun a ha => ?_, fun j a d h2 h3 => ?_⟩, ⟨pre, by rw [e]; exact .refl _, fun a ha => upd_ne fun z => (k.hidt a ha).1 (z ▸ hp), fun a o' u h => by rw [upd_ne (ne_of_none h hp)]; exact h⟩⟩
  · rcases spl h2 h4 with ⟨y1, y2, y3⟩ | ⟨y1, y2, y3⟩ <;> rcases spl h3 h4' with ⟨z1, z2, z3⟩ | ⟨z1, z2, z3⟩
    · exact k.inj i j a d d' y2 z2 y3 z3 h5 h5'
    · exact absurd z2 (np y2 y3 h5)
    · exact absurd y2 (np z2 z3 h5')
    · omega
  · rcases spl h2 h3 with ⟨y1, y2, y3⟩ | ⟨y1, y2, y3⟩
    · exact k.hidn j a d y2 y3 h4
    · subst y2; exact fun z => (k.hidt a z).1 hp
  · have hne : a ≠ p := fun z => (k.hidt a ha).1 (z ▸ hp)
    rw [upd_ne hne]; exact k.hidt a ha
  · rw [e]
    rcases spl h2 h3 with ⟨y1, y2, y3⟩ | ⟨y1, y2, y3⟩
    · exact ((k.ok j a d y2 y3).le (.refl _) pre).of_eq fun l => upd_ne (np y2 y3 l)
    · subst y2 y3; exact q
end
end SL

namespace SL
open PySem PySem.Spec PyProof.Rows L2

inductive SOut where
  | nx (fr : Fr) (st : Sto) | rt (w : W) (st : Sto) | bk (fr : Fr) (st : Sto) | ct (fr : Fr) (st : Sto) | er (x : Exc) (fr : Fr) (st : Sto) | bad
abbrev SSem := Fr → Sto → SOut
def Out.stm {α : Type} (o : Out α) (fr : Fr) (f : α → Sto → SOut) : SOut := match o with
  | .ok a st => f a st
  | .err x st => .er x fr st
  | .bad => .bad
@[simp] theorem Out.stm_ok {α : Type} (a : α) (st : Sto) (fr : Fr) (f : α → Sto → SOut) : (Out.ok a st).stm fr f = f a st := rfl
@[simp] theorem Out.stm_err {α : Type} (x : Exc) (st : Sto) (fr : Fr) (f : α → Sto → SOut) : (Out.err x st).stm fr f = .er x fr st := rfl
@[simp] theorem Out.stm_bad {α : Type} (fr : Fr) (f : α → Sto → SOut) : (Out.bad).stm fr f = .bad := rfl
def SPost (K : PySem.W.Frag) (mg : Str → Option Value) (Wx : Wish) (hid μ : List Addr) (st : Sto) (H : Hp) (D : Ends) : SOut → Prop
  | .nx fr' st' => ∀ μ' σ' H', SI K mg Wx μ' st' hid fr' σ' H' → Grow hid μ st H μ' st' H' → D.nx σ' H'
  | .rt w st' => ∀ μ' H' v, StOk K mg μ' st' hid H' → Grow hid μ st H μ' st' H' → Rep K mg (Fz μ' st' hid H') μ' w v → D.rt v H'
  | .bk fr' st' => ∀ μ' σ' H', SI K mg Wx μ' st' hid fr' σ' H' → Grow hid μ st H μ' st' H' → D.bk σ' H'
  | .ct fr' st' => ∀ μ' σ' H', SI K mg Wx μ' st' hid fr' σ' H' → Grow hid μ st H μ' st' H' → D.ct σ' H'
  | .er x fr' st' => ∀ μ' σ' H' c d, SI K mg Wx μ' st' hid fr' σ' H' → Grow hid μ st H μ' st' H' → XRep K mg (Fz μ' st' hid H') μ' x c d → Wx.w c d σ' H'
  | .bad => False
theorem SPost.from {K : PySem.W.Frag} {mg : Str → Option Value} {Wx : Wish} {hid μ μ' : List Addr} {st st' : Sto} {H H' : Hp} {D : Ends} {o : SOut} (x : Grow hid μ st H μ' st' H') (h : SPost K mg Wx hid μ st H D o) : SPost K mg Wx hid μ' st' H' D o := by
  cases o with
  | nx fr s => exact fun μ2 σ2 H2 a b => h μ2 σ2 H2 a (x.trans b)
  | rt w s => exact fun μ2 H2 v a b c => h μ2 H2 v a (x.trans b) c
  | bk fr s => exact fun μ2 σ2 H2 a b => h μ2 σ2 H2 a (x.trans b)
  | ct fr s => exact fun μ2 σ2 H2 a b => h μ2 σ2 H2 a (x.trans b)
  | er e fr s => exact fun μ2 σ2 H2 c d a b r => h μ2 σ2 H2 c d a (x.trans b) r
  | bad => exact h
def tS (K : PySem.W.Frag) (mg : Str → Option Value) (Wx : Wish) (f : SSem) : TS := fun D σ H => ∃ μ st hid fr, SI K mg Wx μ st hid fr σ H ∧ SPost K mg Wx hid μ st H D (f fr st)
abbrev SV (X : Cx) (Wx : Wish) (s : Stmt) (f : SSem) : Prop := PS X s (tS X.K X.mg Wx f)
abbrev BV (X : Cx) (Wx : Wish) (s : List Stmt) (f : SSem) : Prop := PSs X s (tS X.K X.mg Wx f)
section
variable {X : Cx} {Wx : Wish}
/-! ## blocks -/
def sNil : SSem := fun fr st => .nx fr st
def sSeq (f g : SSem) : SSem := fun fr st => match f fr st with
  | .nx fr1 st1 => g fr1 st1
  | o => o
theorem bv_nil : BV X Wx [] sNil := PSsm pss_nil fun D σ H ⟨μ, st, hid, fr, S, P⟩ => P μ σ H S .refl
theorem bv_cons {s : Stmt} {r : List Stmt} {f g : SSem} (h1 : SV X Wx s f) (h2 : BV X Wx r g) : BV X Wx (s :: r) (sSeq f g) := PSsm (pss_cons h1 h2) fun D σ H ⟨μ, st, hid, fr, S, P⟩ => by
  refine ⟨μ, st, hid, fr, S, ?_⟩
  unfold sSeq at P
  cases h : f fr st with
  | nx fr1 st1 =>
    rw [h] at P
    exact fun μ1 σ1 H1 S1 g1 => ⟨μ1, st1, hid, fr1, S1, SPost.from g1 P⟩
  | rt w s => rw [h] at P; exact P
  | bk fr s => rw [h] at P; exact P
  | ct fr s => rw [h] at P; exact P
  | er e fr s => rw [h] at P; exact P
  | bad => rw [h] at P; exact P
theorem bv_one {s : Stmt} {f : SSem} (h : SV X Wx s f) : BV X Wx [s] f := pss_one h
def sBk : SSem := fun fr st => .bk fr st
def sCt : SSem := fun fr st => .ct fr st
theorem sv_pass {pos : Pos} : SV X Wx (.Pass pos) sNil := PSm ps_pass fun D σ H ⟨μ, st, hid, fr, S, P⟩ => P μ σ H S .refl
theorem sv_break {pos : Pos} : SV X Wx (.Break pos) sBk := PSm ps_break fun D σ H ⟨μ, st, hid, fr, S, P⟩ => P μ σ H S .refl
theorem sv_continue {pos : Pos} : SV X Wx (.Continue pos) sCt := PSm ps_continue fun D σ H ⟨μ, st, hid, fr, S, P⟩ => P μ σ H S .refl
/-- an expression, then what follows -/
theorem stm_read {f : Sem} {k : W → Sto → SOut} {t : VK → VK} {hid μ : List Addr} {st : Sto} {fr : Fr} {σ : L2.St} {H : Hp} {D : Ends} {Q : VK} (S : SI X.K X.mg Wx μ st hid fr σ H) (P : SPost X.K X.mg Wx hid μ st H D ((f fr st).stm fr k))
    (h : ∀ w st1 μ1 H1 v, SI X.K X.mg Wx μ1 st1 hid fr σ H1 → Grow hid μ st H μ1 st1 H1 → Rep X.K X.mg (Fz μ1 st1 hid H1) μ1 w v → SPost X.K X.mg Wx hid μ1 st1 H1 D (k w st1) → Q v H1) : tE X.K X.mg Wx f σ H Q := by
  refine ⟨μ, st, hid, fr, S, ?_⟩
  cases e : f fr st with
  | bad => rw [e] at P; exact P
  | err x s => rw [e] at P; exact fun μ1 H1 c d k1 g1 xr => P μ1 σ H1 c d (S.next k1 g1) g1 xr
  | ok w st1 =>
    rw [e, Out.stm_ok] at P
    exact fun μ1 H1 v k1 g1 r1 => h w st1 μ1 H1 v (S.next k1 g1) g1 r1 (SPost.from g1 P)
def sExp (f : Sem) : SSem := fun fr st => (f fr st).stm fr fun _ st1 => .nx fr st1
theorem sv_expr {e : Expr} {f : Sem} {pos : Pos} (he : EV X Wx e f) (hs : swapsWith e none pos.line X.env = pure false := by rfl) : SV X Wx (.Expr e pos) (sExp f) := PSm (ps_expr he hs) fun D σ H ⟨μ, st, hid, fr, S, P⟩ => by
  exact stm_read (t := id) S P fun w st1 μ1 H1 v S1 g1 r1 P1 => P1 μ1 σ H1 S1 .refl
def sRet (f : Sem) : SSem := fun fr st => (f fr st).stm fr fun w st1 => .rt w st1
theorem sv_ret {e : Expr} {f : Sem} {pos : Pos} (he : EV X Wx e f) : SV X Wx (.Return (some e) pos) (sRet f) := PSm (ps_ret he) fun D σ H ⟨μ, st, hid, fr, S, P⟩ => by
  exact stm_read (t := id) S P fun w st1 μ1 H1 v S1 g1 r1 P1 => P1 μ1 H1 v S1.sto .refl r1
def sRetN : SSem := fun _ st => .rt .non st
theorem sv_retN {pos : Pos} : SV X Wx (.Return none pos) sRetN := PSm ps_retN fun D σ H ⟨μ, st, hid, fr, S, P⟩ => P μ H _ S.sto .refl rep_non
def sAsg (f : Sem) (g : TgF) : SSem := fun fr st => (f fr st).stm fr fun w st1 => match g w fr st1 with
  | some fr1 => .nx fr1 st1
  | none => .bad
theorem asg_read {f : Sem} {g : TgF} {sl : List Nat} : ∀ D σ H, tS X.K X.mg Wx (sAsg f g) D σ H → tAsg (tE X.K X.mg Wx f) (tG X.K X.mg Wx g sl) D σ H := fun D σ H ⟨μ, st, hid, fr, S, P⟩ => by
  refine stm_read (t := id) S P fun w st1 μ1 H1 v S1 g1 r1 P1 => ?_
  split at P1
  · rename_i fr1 e
    exact ⟨μ1, st1, hid, fr, w, fr1, S1, r1, e, fun σ' S' _ => P1 μ1 σ' H1 S' .refl⟩
  · exact P1.elim
theorem sv_asg {tg e : Expr} {f : Sem} {g : TgF} {sl : List Nat} {pos : Pos} (he : EV X Wx e f) (hg : GV X Wx tg g sl) (hs : swapsWithSole [tg] e pos.line X.env = pure false := by rfl) (hw : swappedStores [tg] e X.env = pure none := by rfl)
    (h1 : (assignEach [tg] X.env).map (·.2) = [assign tg X.env] := by rfl) : SV X Wx (.Assign [tg] e pos) (sAsg f g) := PSm (ps_asg he hg hs hw h1) asg_read
/-- name = value -/
theorem sv_set {i : Nat} {x : Str} {e : Expr} {f : Sem} {pos pos' : Pos} (hN : X.N.Nodup) (he : EV X Wx e f) (hi : X.N[i]? = some x := by rfl) (hx : Loc X.env.scope x := by first | exact Or.inl rfl | exact Or.inr rfl) (hs : swapsWith e (some (.Name x pos')) pos.line X.env = pure false := by rfl)
    (hf : X.fn x = true ∨ X.env.scope.names.lookup x = some .local := by first | exact .inl rfl | exact .inr rfl) (hk : i ∉ Wx.lock := by first | exact List.not_mem_nil | decide) : SV X Wx (.Assign [.Name x pos'] e pos) (sAsg f (gNm i)) := PSm (ps_set hN hi hx he hs hf) fun D σ H ⟨μ, st, hid, fr, S, P⟩ => by
  refine stm_read (t := id) S P fun w st1 μ1 H1 v S1 g1 r1 P1 => ?_
  exact P1 μ1 _ H1 (S1.set i hk r1) .refl
/-- name = [..] -/
theorem sv_setLcG {fin : LFin} (hf : FinOk X.K X.mg fin) {i : Nat} {y : Str} {py : Pos} {elt tg iter : Expr} {ifs : List Expr} {scope : Scope} {own : List (Str × Nat)} {pos spos : Pos} {f : SemI} {g : TgF} {sl : List Nat} {t : SemB} {e : Sem} (hc : X.calm = true) (hN : X.N.Nodup) (hi : IV X Wx tg iter f) (ok : blkC X.N X.env.scope scope own = true)
    (hsl : ∀ i ∈ sl, i ∈ own.map (·.2)) (hlk : ∀ i ∈ Wx.lock, i ∉ own.map (·.2))
    (hg : ∀ (s : Shared) (H : Hp) (C : Addr) (cl : List (Str × Addr)) (fp : List Addr), GV (X.blk s H scope (compEnvC scope cl C X.env) fp) Wx.blk tg g sl)
    (ht : ∀ (s : Shared) (H : Hp) (C : Addr) (cl : List (Str × Addr)) (fp : List Addr), PTs (X.blk s H scope (compEnvC scope cl C X.env) fp) ifs (tB' X.K X.mg Wx.blk t))
    (he : ∀ (s : Shared) (H : Hp) (C : Addr) (cl : List (Str × Addr)) (fp : List Addr), EV (X.blk s H scope (compEnvC scope cl C X.env) fp) Wx.blk elt e)
    (hsw : swapsWith (.ListComp elt [⟨tg, iter, ifs, 0⟩] scope pos) (some (.Name y py)) spos.line X.env = pure true) (hy : X.N[i]? = some y := by rfl) (hyl : X.env.scope.names.lookup y = some .local := by rfl) (hs : ∀ x, foldedSetIterable iter X.env x = pure x := by intro _; rfl) (hk : i ∉ Wx.lock := by first | exact List.not_mem_nil | decide) :
    SV X Wx (.Assign [.Name y py] (.ListComp elt [⟨tg, iter, ifs, 0⟩] scope pos) spos) (sAsg (eLcG fin f g (own.map (·.2)) t e) (gNm i)) :=
  PSm (ps_setLc hc hN hy hyl hsw hi (blkOk_by ok) hg ht he hs) fun D σ H ⟨μ, st, hid, fr, S, P⟩ => by
    refine lc_read hf hsl hlk σ H _ (stm_read (t := id) S P fun w st1 μ1 H1 v S1 g1 r1 P1 => ?_)
    exact P1 μ1 _ H1 (S1.set i hk r1) .refl
/-! ## if, for, while -/
def sIf (c : SemB) (f g : SSem) : SSem := fun fr st => (c fr st).stm fr fun b st1 => if b = true then f fr st1 else g fr st1
theorem sv_if {c : Expr} {a b : List Stmt} {fc : SemB} {f g : SSem} {pos : Pos} (hc : TV X Wx c fc) (ha : BV X Wx a f) (hb : BV X Wx b g) : SV X Wx (.If c a b pos) (sIf fc f g) := PSm (ps_if hc ha hb) fun D σ H ⟨μ, st, hid, fr, S, P⟩ => by
  refine ⟨μ, st, hid, fr, S, ?_⟩
  unfold sIf at P
  cases h : fc fr st with
  | bad => rw [h] at P; exact P
  | err x s => rw [h] at P; exact fun μ1 H1 c d k1 g1 xr => P μ1 σ H1 c d (S.next k1 g1) g1 xr
  | ok b st1 =>
    rw [h, Out.stm_ok] at P
    intro μ1 H1 k1 g1
    cases b with
    | true => exact iteT ⟨μ1, st1, hid, fr, S.next k1 g1, SPost.from g1 (by simpa using P)⟩
    | false => exact iteF ⟨μ1, st1, hid, fr, S.next k1 g1, SPost.from g1 (by simpa using P)⟩
open Classical in
noncomputable def forRun (x : W) (all : List W) (g : TgF) (b : SSem) : List W → Fr → Sto → SOut
  | [], fr, st => if srcOk x all st then .nx fr st else .bad
  | w :: r, fr, st => if srcOk x all st then (match g w fr st with
    | some fr1 => match b fr1 st with
      | .nx fr2 st2 => forRun x all g b r fr2 st2
      | .ct fr2 st2 => forRun x all g b r fr2 st2
      | .bk fr2 st2 => .nx fr2 st2
      | .rt u st2 => .rt u st2
      | .er e fr2 st2 => .er e fr2 st2
      | .bad => .bad
    | none => .bad) else .bad
noncomputable def sFor (f : SemI) (g : TgF) (b : SSem) : SSem := fun fr st => (f fr st).stm fr fun p st1 => forRun p.1 p.2 g b p.2 fr st1
theorem for_read {f : SemI} {g : TgF} {sl : List Nat} {b : SSem} : ∀ D σ H, tS X.K X.mg Wx (sFor f g b) D σ H → tFor (tI X.K X.mg Wx f) (tG X.K X.mg Wx g sl) (tS X.K X.mg Wx b) D σ H := fun D σ H ⟨μ, st, hid, fr, S, P⟩ => by
  refine ⟨μ, st, hid, fr, S, ?_⟩
  unfold sFor at P
  cases h1 : f fr st with
  | bad => rw [h1] at P; exact P
  | err x s => rw [h1] at P; exact fun μ1 H1 c d k1 g1 xr => P μ1 σ H1 c d (S.next k1 g1) g1 xr
  | ok p st1 =>
    obtain ⟨x, all⟩ := p
    rw [h1, Out.stm_ok] at P
    intro μ1 H1 J k1 g1 ji
    have P1 := SPost.from g1 P
    simp only at P1
    refine ⟨fun i m σ H => m = all.length - i ∧ i ≤ all.length ∧ ∃ μ st fr, SI X.K X.mg Wx μ st hid fr σ H ∧ Grow hid μ1 st1 H1 μ st H ∧ SPost X.K X.mg Wx hid μ st H D (forRun x all g b (all.drop i) fr st),
      ⟨_, rfl, Nat.zero_le _, μ1, st1, fr, S.next k1 g1, .refl, P1⟩, ?_⟩
    rintro i m σ2 H2 ⟨rfl, hi, μ2, st2, fr2, S2, g2, P2⟩
    by_cases hlt : i < all.length
    · rw [List.drop_eq_getElem_cons hlt, forRun] at P2
      split at P2
      · rename_i hs
        refine .inr ⟨ji.go _ _ _ _ i S2.sto g2.le g2.pre g2.lck hs hlt, fun σ H => ∃ μ st fr, SI X.K X.mg Wx μ st hid fr σ H ∧ Grow hid μ1 st1 H1 μ st H ∧ SPost X.K X.mg Wx hid μ st H D (forRun x all g b (all.drop (i + 1)) fr st),
          fun σ' H' q => ⟨_, by omega, rfl, hlt, q⟩, fun v H3 hy => ?_⟩
        obtain ⟨k3, g3, w, hw, rw_⟩ := ji.yld _ _ _ _ i v H3 S2.sto g2.le g2.pre g2.lck hs hlt hy
        have ew : all[i] = w := by
          rw [List.getElem?_eq_getElem hlt] at hw; exact Option.some.inj hw
        rw [ew] at P2
        cases e3 : g w fr2 st2 with
        | none => rw [e3] at P2; exact P2.elim
        | some fr3 =>
          rw [e3] at P2
          simp only at P2
          have P3 := SPost.from g3 P2
          refine ⟨μ2, st2, hid, fr2, w, fr3, S2.next k3 g3, rw_, e3, fun σ3 S3 _ => ⟨μ2, st2, hid, fr3, S3, ?_⟩⟩
          cases e4 : b fr3 st2 with
          | bad => rw [e4] at P3; exact P3
          | er e fr s => rw [e4] at P3; exact P3
          | rt w s => rw [e4] at P3; exact P3
          | bk fr s => rw [e4] at P3; exact P3
          | nx fr4 st4 => rw [e4] at P3; exact fun μ4 σ4 H4 S4 g4 => ⟨μ4, st4, fr4, S4, (g2.trans g3).trans g4, SPost.from g4 P3⟩
          | ct fr4 st4 => rw [e4] at P3; exact fun μ4 σ4 H4 S4 g4 => ⟨μ4, st4, fr4, S4, (g2.trans g3).trans g4, SPost.from g4 P3⟩
      · exact P2.elim
    · have hi2 : i = all.length := by omega
      subst hi2
      rw [List.drop_length, forRun] at P2
      split at P2
      · rename_i hs
        exact .inl ⟨ji.stop _ _ _ _ _ S2.sto g2.le g2.pre g2.lck hs (Nat.le_refl _), P2 μ2 σ2 H2 S2 .refl⟩
      · exact P2.elim
theorem sv_for {k : Nat} {tg iter : Expr} {body : List Stmt} {f : SemI} {g : TgF} {sl : List Nat} {b : SSem} {pos : Pos} (C : Ctx X Wx k) (hi : IV X Wx tg iter f) (hg : GV X Wx tg g sl) (hb : BV X Wx body b) (hs : ∀ x, foldedSetIterable iter X.env x = pure x := by intro _; rfl) :
    SV X Wx (.For tg iter body [] pos) (sFor f g b) := PSm (ps_for C.hp C.calm hi hg hb hs) for_read
def whRun (c : SemB) (b : SSem) : Nat → Fr → Sto → SOut
  | 0, _, _ => .bad
  | n + 1, fr, st => (c fr st).stm fr fun t st1 => if t = true then (match b fr st1 with
      | .nx fr2 st2 => whRun c b n fr2 st2
      | .ct fr2 st2 => whRun c b n fr2 st2
      | .bk fr2 st2 => .nx fr2 st2
      | .rt u st2 => .rt u st2
      | .er e fr2 st2 => .er e fr2 st2
      | .bad => .bad) else .nx fr st1
def sWhile (n : Nat) (c : SemB) (b : SSem) : SSem := fun fr st => whRun c b n fr st
theorem sv_while {k n : Nat} {c : Expr} {body : List Stmt} {fc : SemB} {b : SSem} {pos : Pos} (C : Ctx X Wx k) (hc : TV X Wx c fc) (hb : BV X Wx body b) : SV X Wx (.While c body [] pos) (sWhile n fc b) := PSm (ps_while C.hp hc hb) fun D σ H ⟨μ, st, hid, fr, S, P⟩ => by
  refine ⟨fun m σ H => ∃ μ st fr, SI X.K X.mg Wx μ st hid fr σ H ∧ SPost X.K X.mg Wx hid μ st H D (whRun fc b m fr st), ⟨n, μ, st, fr, S, P⟩, ?_⟩
  rintro m σ2 H2 ⟨μ2, st2, fr2, S2, P2⟩
  cases m with
  | zero => exact P2.elim
  | succ m =>
    rw [whRun] at P2
    refine ⟨μ2, st2, hid, fr2, S2, ?_⟩
    cases h : fc fr2 st2 with
    | bad => rw [h] at P2; exact P2
    | err x s => rw [h] at P2; exact fun μ1 H1 c d k1 g1 xr => P2 μ1 σ2 H1 c d (S2.next k1 g1) g1 xr
    | ok t st3 =>
      rw [h, Out.stm_ok] at P2
      intro μ3 H3 k3 g3
      have P3 := SPost.from g3 P2
      cases t with
      | false => exact iteF ((by simpa using P3 : SPost X.K X.mg Wx hid μ3 st3 H3 D (.nx fr2 st3)) μ3 σ2 H3 (S2.next k3 g3) .refl)
      | true =>
        simp only [if_true] at P3
        refine iteT ⟨fun σ H => ∃ μ st fr, SI X.K X.mg Wx μ st hid fr σ H ∧ SPost X.K X.mg Wx hid μ st H D (whRun fc b m fr st), fun σ' H' q => ⟨m, Nat.lt_succ_self m, q⟩, μ3, st3, hid, fr2, S2.next k3 g3, ?_⟩
        cases e4 : b fr2 st3 with
        | bad => rw [e4] at P3; exact P3
        | er e fr s => rw [e4] at P3; exact P3
        | rt w s => rw [e4] at P3; exact P3
        | bk fr s => rw [e4] at P3; exact P3
        | nx fr4 st4 => rw [e4] at P3; exact fun μ4 σ4 H4 S4 g4 => ⟨μ4, st4, fr4, S4, SPost.from g4 P3⟩
        | ct fr4 st4 => rw [e4] at P3; exact fun μ4 σ4 H4 S4 g4 => ⟨μ4, st4, fr4, S4, SPost.from g4 P3⟩

/-! ## a[i] = e -/
abbrev Op3 := W → W → W → Sto → Option Sto
def Op3S (X : Cx) (op : Op3) (t : TSet) : Prop := ∀ (hid μ : List Addr) (st st' : Sto) (H : Hp) (Q : Hp → Prop) (o i w : W) (ov iv v : V), StOk X.K X.mg μ st hid H → Rep X.K X.mg (Fz μ st hid H) μ o ov → Rep X.K X.mg (Fz μ st hid H) μ i iv → Rep X.K X.mg (Fz μ st hid H) μ w v →
  op o i w st = some st' → (∀ μ' H', StOk X.K X.mg μ' st' hid H' → Grow hid μ st H μ' st' H' → Q H') → t ov iv v H Q
def sSub (op : Op3) (f fo fi : Sem) : SSem := fun fr st => (f fr st).stm fr fun w st1 => (fo fr st1).stm fr fun o st2 => (fi fr st2).stm fr fun i st3 => match op o i w st3 with
  | some st4 => .nx fr st4
  | none => .bad
theorem sv_sub {o i e : Expr} {op : Op3} {t : TSet} {f fo fi : Sem} {pos tpos : Pos} (hp : PSet X t) (hs : Op3S X op t) (he : EV X Wx e f) (ho : EV X Wx o fo) (hi : EV X Wx i fi)
    (ha : ∀ v, assign (.Subscript o i tpos) X.env v = (do
      let ov ← holding [v] (eval o X.env)
      let iv ← holding [v, ov] (eval i X.env)
      standAt tpos
      holding [v, ov, iv] (setItem ov iv v)
      release [v, ov, iv] []) := by intro _; rfl)
    (hs1 : swapsWithSole [.Subscript o i tpos] e pos.line X.env = pure false := by rfl) (hw : swappedStores [.Subscript o i tpos] e X.env = pure none := by rfl) (h1 : (assignEach [.Subscript o i tpos] X.env).map (·.2) = [assign (.Subscript o i tpos) X.env] := by rfl) :
    SV X Wx (.Assign [.Subscript o i tpos] e pos) (sSub op f fo fi) := PSm (ps_asg he (pg_sub ho hi hp ha) hs1 hw h1) fun D σ H ⟨μ, st, hid, fr, S, P⟩ => by
  refine stm_read (t := id) S P fun w st1 μ1 H1 v S1 g1 r1 P1 => ?_
  refine stm_read (t := id) S1 P1 fun o st2 μ2 H2 ov S2 g2 r2 P2 => ?_
  refine stm_read (t := id) S2 P2 fun i st3 μ3 H3 iv S3 g3 r3 P3 => ?_
  split at P3
  · rename_i st4 e4
    exact hs hid μ3 st3 st4 H3 _ o i w ov iv v S3.sto (Rep.mono g3.le g3.pre _ _ r2) r3 (Rep.mono (g2.trans g3).le (g2.trans g3).pre _ _ r1) e4 fun μ4 H4 k4 g4 => P3 μ4 σ H4 (S3.next k4 g4) g4
  · exact P3.elim
/-- a list's cell -/
def uLst : Op3 := fun o i w st => match o, i with
  | .cell k, .int j => match st[k]? with
    | some (.lst ws) => (ixN ws.length j).map fun n => st.set k (.lst (ws.set n w))
    | _ => none
  | _, _ => none
theorem os_setL : Op3S X uLst rSetL := by
  intro hid μ st st' H Q o i w ov iv v k ro ri rw_ e q
  unfold uLst at e
  split at e
  · rename_i n j
    cases rep_int_inv ri
    split at e
    · rename_i ws e1
      obtain ⟨a, rfl, h1, vs, h2, h3⟩ := k.cell e1 ro
      cases e2 : ixN ws.length j with
      | none => rw [e2] at e; cases e
      | some m =>
        rw [e2] at e
        cases e
        refine ⟨a, vs, j, m, rfl, rfl, h2, by rw [← h3.length]; exact e2, ?_⟩
        obtain ⟨k2, g2⟩ := k.setCell (c' := .lst (ws.set m w)) (o := .lst (vs.set m v)) h1 e1 rfl rfl ⟨_, upd_same, h3.set m rw_⟩
        exact q _ _ k2 g2
    · cases e
  · cases e

/-! ## methods of lists -/
abbrev OpM := W → List W → Sto → Out W
def OpMS (X : Cx) (op : OpM) (r : V → List V → Hp → VK → Prop) : Prop := ∀ (Wx : WX) (hid μ : List Addr) (st : Sto) (σ : L2.St) (H : Hp) (Q : VK) (w : W) (ws : List W) (x : V) (vs : List V), StOk X.K X.mg μ st hid H → Rep X.K X.mg (Fz μ st hid H) μ w x → Reps X.K X.mg (Fz μ st hid H) μ ws vs →
  EPost X.K X.mg Wx hid μ st σ H Q (op w ws st) → r x vs H Q
/-- what a method's receiver must be -/
def isLst (st : Sto) (w : W) : Bool := (lstW st w).isSome
def eM (ty : Sto → W → Bool) (op : OpM) (f : Sem) (g : SemL) : Sem := fun fr st => (f fr st).bind fun w st1 => if ty st1 w = true then (g fr st1).bind fun ws st2 => op w ws st2 else .bad
theorem eM_read {T : String} {ty : Sto → W → Bool} {op : OpM} {r : V → List V → Hp → VK → Prop} {f : Sem} {g : SemL} (ht : ∀ (hid μ : List Addr) (st : Sto) (H : Hp) (w : W) (v : V), StOk X.K X.mg μ st hid H → Rep X.K X.mg (Fz μ st hid H) μ w v → ty st w = true → tyV X.K T v H) (hs : OpMS X op r) :
    ∀ σ H Q, tE X.K X.mg Wx (eM ty op f g) σ H Q → tBM X.K T r (tE X.K X.mg Wx f) (tA X.K X.mg Wx g) σ H Q := fun σ H Q ⟨μ, st, hid, fr, S, P⟩ => by
  refine ⟨μ, st, hid, fr, S, ?_⟩
  unfold eM at P
  cases h : f fr st with
  | bad => rw [h] at P; exact P
  | err x s => rw [h] at P; exact P
  | ok w st1 =>
    rw [h, Out.bind_ok] at P
    intro μ1 H1 v k1 g1 r1
    have P1 := EPost.from g1 P
    split at P1
    · rename_i hty
      refine ⟨ht hid μ1 st1 H1 w v k1 r1 hty, μ1, st1, hid, fr, S.next k1 g1, ?_⟩
      cases h2 : g fr st1 with
      | bad => rw [h2] at P1; exact P1
      | err x s => rw [h2] at P1; exact P1
      | ok ws st2 =>
        rw [h2, Out.bind_ok] at P1
        intro μ2 H2 vs k2 g2 r2
        exact hs Wx.w hid μ2 st2 σ H2 Q w ws v vs k2 (Rep.mono g2.le g2.pre _ _ r1) r2 (EPost.from g2 P1)
    · exact P1.elim
theorem ty_lst : ∀ (hid μ : List Addr) (st : Sto) (H : Hp) (w : W) (v : V), StOk X.K X.mg μ st hid H → Rep X.K X.mg (Fz μ st hid H) μ w v → isLst st w = true → tyV X.K "list" v H := fun hid μ st H w v k r h => by
  unfold isLst at h
  cases e : lstW st w with
  | none => rw [e] at h; cases h
  | some ws =>
    obtain ⟨a, vs, rfl, h1, _⟩ := lstW_at k e r
    exact .inl ⟨rfl, vs, h1⟩
def mAppend : OpM := fun x ws st => match x, ws with
  | .cell k, [w] => match st[k]? with
    | some (.lst us) => if us.length < LINE then .ok .non (st.set k (.lst (us ++ [w]))) else .bad
    | _ => .bad
  | _, _ => .bad
theorem os_append : OpMS X mAppend rAppend := by
  intro Wx hid μ st σ H Q w ws x vs k rx rs P
  unfold mAppend at P
  split at P
  · obtain ⟨v, rfl, r1⟩ := reps1 (ws := []) rs
    split at P
    · rename_i us e1
      split at P
      · rename_i hz
        obtain ⟨a, rfl, h1, zs, h2, h3⟩ := k.cell e1 rx
        refine ⟨a, zs, v, rfl, rfl, h2, by rw [← h3.length, sizeLine_eq]; exact hz, ?_⟩
        obtain ⟨k2, g2⟩ := k.setCell (c' := .lst (us ++ [_])) (o := .lst (zs ++ [v])) h1 e1 rfl rfl ⟨_, upd_same, h3.append (.cons r1 .nil)⟩
        exact P μ _ _ k2 g2 rep_non
      · exact P.elim
    · exact P.elim
  · exact P.elim
def mInsert : OpM := fun x ws st => match x, ws with
  | .cell k, [.int i, w] => match st[k]? with
    | some (.lst us) => if us.length < LINE ∧ 0 ≤ i ∧ i < 2 ^ 63 then .ok .non (st.set k (.lst (us.take i.toNat ++ [w] ++ us.drop i.toNat))) else .bad
    | _ => .bad
  | _, _ => .bad
theorem os_insert : OpMS X mInsert (fun x vs H Q => ∃ (l : Addr) (xs : List V) (i : Int) (y : V), x = .ref l ∧ vs = [.int i, y] ∧ H l = some (.lst xs) ∧ xs.length < sizeLine ∧ 0 ≤ i ∧ i < 2 ^ 63 ∧ Q .non (upd H l (.lst (xs.take i.toNat ++ [y] ++ xs.drop i.toNat)))) := by
  intro Wx hid μ st σ H Q w ws x vs k rx rs P
  unfold mInsert at P
  split at P
  · obtain ⟨v, y, rfl, r0, r1⟩ := reps2 rs
    cases rep_int_inv r0
    split at P
    · rename_i us e1
      split at P
      · rename_i hz
        obtain ⟨a, rfl, h1, zs, h2, h3⟩ := k.cell e1 rx
        refine ⟨a, zs, _, y, rfl, rfl, h2, by rw [← h3.length, sizeLine_eq]; exact hz.1, hz.2.1, hz.2.2, ?_⟩
        obtain ⟨k2, g2⟩ := k.setCell (c' := .lst (us.take _ ++ [_] ++ us.drop _)) (o := .lst (zs.take _ ++ [y] ++ zs.drop _)) h1 e1 rfl rfl ⟨_, upd_same, ((h3.take _).append (.cons r1 .nil)).append (h3.drop _)⟩
        exact P μ _ _ k2 g2 rep_non
      · exact P.elim
    · exact P.elim
  · exact P.elim
/-- a display that is to change: a new cell -/
def oCell : OpN := fun ws st => if small ws = true then .ok (.cell st.length) (st ++ [.lst ws]) else .bad
theorem ev_lstC {es : List Expr} {f : SemL} {pos : Pos} (h : AV X Wx es f) : EV X Wx (.List es pos) (eN oCell f) := PEm (pe_lst h) fun σ H Q P => by
  refine eN_read (r := fun vs H1 Q => vs.length ≤ sizeLine ∧ ∀ p, H1 p = none → Q (.ref p) (upd H1 p (.lst vs))) ?_ σ H Q P
  intro Wx hid μ st σ H Q ws vs k r P
  unfold oCell at P
  split at P
  · rename_i hs
    refine ⟨small_line hs r, fun p hp => ?_⟩
    obtain ⟨k2, g2⟩ := k.newCell (c := .lst ws) (o := .lst vs) hp rfl ⟨vs, upd_same, r.mono (.refl _) ⟨[p], rfl⟩⟩
    refine P _ _ _ k2 g2 ?_
    unfold Rep
    exact ⟨p, by rw [← k.len]; simp, rfl⟩
  · exact P.elim
end
end SL

namespace SL
open PySem PySem.Spec PyProof.Rows L2

/-! ## several except clauses, with and without a name -/
abbrev Hnd := Value × Option Nat × (Addr → Value → Option Addr → TS)
def clr (sl : Option Nat) (D : Ends) : Ends := match sl with
  | none => D
  | some i => { nx := fun σ H => D.nx (σ.set i none) H, rt := D.rt, bk := fun σ H => D.bk (σ.set i none) H, ct := fun σ H => D.ct (σ.set i none) H }
def stoE (sl : Option Nat) (σ : L2.St) (a : Addr) : L2.St := match sl with
  | none => σ
  | some i => σ.set i (some (.ref a))
def wGen (K : PySem.W.Frag) (Wo : WX) (D : Ends) : List Hnd → WX
  | [] => Wo
  | (c, sl, ts) :: r => fun cls d σ H => ∃ b, PySem.W.exmOne K cls c = some b ∧ (b = true → ∀ a, H a = none → ts a cls d (clr sl D) (stoE sl σ a) H) ∧ (b = false → wGen K Wo D r cls d σ H)
def SuiteOk (X : Cx) (ss : List Stmt) (ts : Addr → Value → Option Addr → TS) : Prop := ∀ (a : Addr) (ob : Obj) (cls : Value) (d : Option Addr) (pl : List (Addr × Obj)), Zc cls d ob → (∃ vs, ob.data = .fields vs) → PSs (X.suite a ((a, ob) :: pl)) ss (ts a cls d)
inductive HdsG (X : Cx) : List ExceptHandler → List Hnd → Prop
  | nil : HdsG X [] []
  | one {x : Str} {c : Value} {ts : Addr → Value → Option Addr → TS} {s0 : Stmt} {ss : List Stmt} {p1 p2 : Pos} {hs : List ExceptHandler} {l : List Hnd} (hc : Names X x c) (hu : SuiteOk X (s0 :: ss) ts) (r : HdsG X hs l) :
      HdsG X (.ExceptHandler (some (.Name x p1)) none (s0 :: ss) p2 :: hs) ((c, none, ts) :: l)
  | as {x n : Str} {i : Nat} {c : Value} {ts : Addr → Value → Option Addr → TS} {s0 : Stmt} {ss : List Stmt} {p1 p2 : Pos} {hs : List ExceptHandler} {l : List Hnd} (hc : Names X x c) (hi : X.N[i]? = some n) (hl : X.env.kindOf n = some .local) (hu : SuiteOk X (s0 :: ss) ts) (r : HdsG X hs l) :
      HdsG X (.ExceptHandler (some (.Name x p1)) (some n) (s0 :: ss) p2 :: hs) ((c, some i, ts) :: l)
section
variable {X : Cx}
theorem ps_tryG {body : List Stmt} {g0 : ExceptHandler} {gs : List ExceptHandler} {l : List Hnd} {pos : Pos} {tb : WX → TS} {Wo : WX} (hN : X.N.Nodup) (hst : X.stack = X.env :: X.outer) (hfm : X.env.frame = some X.env.locals) (tk : Takes X Wo)
    (hb : ∀ (W : WX) (pl : List (Addr × Obj)) (xe : Value → Shared → Prop), Takes (X.tr pl xe) W → PassesOwn (model X.prog X.w) X.A X.env xe → PSs (X.tr pl xe) body (tb W))
    (hh : HdsG X (g0 :: gs) l) : PS X (.Try body (g0 :: gs) [] [] pos) (fun D σ H => tb (wGen X.K Wo D l) D σ H) := by
  refine ⟨fun pins s σ H D I0 hw => ?_⟩
  have ok := I0.ok
  have hfr : X.A.frames = some (X.env :: X.outer) := by rw [← hst]; exact ok.frames
  refine wpAny_Try_except (wpAny_mono ((hb (wGen X.K Wo D l) (X.pn ++ pins) _ (fun u s' hx => ?_) PassesOwn.looking).run [] s σ H D (I0.toTry _) hw) (fun f s1 hf => ?_) fun _ _ z => z)
  · obtain ⟨a, B, sI, pq, σ1, H1, cls, d, rfl, J0, nb, up, sky, na, os, ag, wi⟩ := hx
    have J1 : Inv X pins σ1 H1 sI := J0.ofTry ok
    have sky1 : Sky B (X.env :: X.outer) a (Zc cls d) X.env.locals s'.heap := by rw [← hst]; exact sky
    refine Sky.land Zc.steady hfr hfm sky1 fun h3 fl up3 => ?_
    have J3 : Inv X pins σ1 H1 { s' with heap := h3 } := J1.landed nb fl.1 (up.trans up3) os ag
    obtain ⟨ob, vs, hob, hz, hdt⟩ := fl.there
    have nfr : a ∉ frs (X.env :: X.outer) := fun hm => by
      obtain ⟨_, ob', e', hnf⟩ := fl.2.2.1.mem hm
      rw [hob] at e'; cases e'
      exact hnf _ hdt
    have nL : a ≠ X.env.locals := fun z => nfr (List.mem_filterMap.mpr ⟨X.env, List.mem_cons_self, by rw [hfm, z]⟩)
    have nF : a ∉ X.fs := fun hm => by
      obtain ⟨e, he, q⟩ := List.mem_filterMap.mp hm
      exact nfr (List.mem_filterMap.mpr ⟨e, List.mem_cons_of_mem _ he, q⟩)
    have S3 := J3.suite hob hdt na nL nF
    -- the class's test
    have tst : ∀ {x : Str} {c : Value} {p : Pos} {Q : Value → Shared → Prop} {E : Value → Shared → Prop}, Names X x c → Q c { s' with heap := h3 } → wpAny (model X.prog X.w) (X.A.mark (some (.ref a))) (eval (.Name x p) X.env) Q E { s' with heap := h3 } := fun {x c p Q E} hc q => by
      obtain ⟨hg, hdb, hm | ⟨hm, hv, hnn⟩⟩ := hc
      · exact ld_glob (X := X.suite a ((a, ob) :: (X.pn ++ pins))) S3 hg hm q hdb
      · exact ld_blt (X := X.suite a ((a, ob) :: (X.pn ++ pins))) S3 hg hm hv q hnn hdb
    have lty : PySem.W.Looks (model X.prog X.w) h3 (typeOf (.ref a)) cls := fun A Q E s k q => wpAny_typeOf_ref (k _ _ hob) (by rw [hz.1]; exact q)
    -- the suite lands
    have lnd : ∀ {Q : Unit → Shared → Prop} {E : Value → Shared → Prop}, (∀ h4 ob4, Inv X pins σ1 H1 { s' with heap := h4 } → Zc cls d ob4 → (∃ vs, ob4.data = .fields vs) → Inv (X.suite a ((a, ob4) :: (X.pn ++ pins))) [] σ1 H1 { s' with heap := h4 } → Q () { s' with heap := h4 }) → wpAny (model X.prog X.w) (X.A.mark (some (.ref a))) (setFlight (.ref a) none) Q E { s' with heap := h3 } := fun {Q E} q => by
      refine HandSPX.lands_againZ fl fun h4 fl4 up4 => ?_
      have J4 : Inv X pins σ1 H1 { s' with heap := h4 } := J1.landed nb fl4.1 ((up.trans up3).trans up4) os ag
      obtain ⟨ob4, vs4, hob4, hz4, hdt4⟩ := fl4.there
      exact q h4 ob4 J4 hz4 ⟨_, hdt4⟩ (J4.suite hob4 hdt4 na nL nF)
    suffices go : ∀ {hs : List ExceptHandler} {l2 : List Hnd}, HdsG X hs l2 → wGen X.K Wo D l2 cls d σ1 H1 → wpAny (model X.prog X.w) X.A (handleBy (.ref a) X.env hs) (SP X pins D) X.xe { s' with heap := h3 } from go hh wi
    intro hs l2 hk
    induction hk with
    | nil =>
      intro wo
      refine wpAny_handleBy_nil ?_
      obtain ⟨_, _, _, ob2, us, T, _, _, e2, _, dt2, q1, _⟩ := id fl
      unfold PySem.passOn
      refine wpAny_bind (wpAny_field e2 dt2 q1 ?_)
      rw [if_neg (show ¬ ((Value.ref T == Value.none) = true) from by simp)]
      have fin : wpAny (model X.prog X.w) X.A (setFlight (.ref a) X.env.frame) (fun _ s4 => wpAny (model X.prog X.w) X.A (throw (Value.ref a) : PySem.Sem Flow) (SP X pins D) X.xe s4) X.xe { s' with heap := h3 } := by
        rw [hfm]
        exact HandSPX.setFlight_upZ fl fun h4 hd4 up4 => wpAny_throw (tk _ _ ⟨a, B, sI, pins, σ1, H1, cls, d, rfl, J1, nb, (up.trans up3).trans up4, .inr (.inr (by rw [hst]; exact hd4)), na, os, ag, wo⟩)
      first
        | exact wpAny_bind (wpAny_pure (wpAny_bind fin))
        | exact wpAny_bind fin
    | one hc hu r ih =>
      rintro ⟨b, hb1, yes, no⟩
      refine wpAny_handleBy_cons (codeAny_handlers_test ?_) (by intro q; cases q)
      refine tst hc ((PySem.W.exm_one (M := model X.prog X.w) J3.kIn lty hb1).here ?_)
      cases b with
      | false => exact ih (no rfl)
      | true =>
        refine codeAny_handlers_suite (lnd fun h4 ob4 J4 z4 d4 S4 => ?_)
        refine wpAny_mono ((hu a ob4 cls d (X.pn ++ pins) z4 d4).run [] _ _ H1 _ S4 (yes rfl a na)) (fun f s6 hf => ?_) (fun _ _ z => False.elim z)
        cases f with
        | next => obtain ⟨_, _, S6, q⟩ := hf; exact ⟨_, _, S6.unsuite ok, q⟩
        | brk => obtain ⟨_, _, S6, q⟩ := hf; exact ⟨_, _, S6.unsuite ok, q⟩
        | cont => obtain ⟨_, _, S6, q⟩ := hf; exact ⟨_, _, S6.unsuite ok, q⟩
        | ret u => obtain ⟨_, _, _, S6, rr, q⟩ := hf; exact ⟨_, _, _, S6.unsuite ok, rr, q⟩
    | @as x n i c ts s0 ss p1 p2 hs l2 hc hi hl hu r ih =>
      rintro ⟨b, hb1, yes, no⟩
      refine wpAny_handleBy_cons (codeAny_handlers_test ?_) (by intro q; cases q)
      refine tst hc ((PySem.W.exm_one (M := model X.prog X.w) J3.kIn lty hb1).here ?_)
      cases b with
      | false => exact ih (no rfl)
      | true =>
        refine codeAny_handlers_suite_as (lnd fun h4 ob4 J4 z4 d4 S4 => ?_)
        refine store_ok (X := X.suite a ((a, ob4) :: (X.pn ++ pins))) (v := .ref a) S4 hN hi (.inl hl) rfl (fun s5 S5 => ?_) (.inr hl)
        refine wpAny_mono ((hu a ob4 cls d (X.pn ++ pins) z4 d4).run [] s5 _ H1 _ S5 (yes rfl a na)) (fun f s6 hf => ?_) (fun _ _ z => False.elim z)
        have gone : ∀ {σ6 : L2.St} {H6 : Hp} {Q : Shared → Prop}, Inv (X.suite a ((a, ob4) :: (X.pn ++ pins))) [] σ6 H6 s6 → (∀ s7, Inv X pins (σ6.set i none) H6 s7 → Q s7) →
            wpAny (model X.prog X.w) X.A (do bindName X.env n .none; unbindBehindTheSuite X.env n p2) (fun _ s7 => Q s7) X.xe s6 := fun S6 hq => gone_ok (S6.unsuite ok) hN hi hl hq
        cases f with
        | next => obtain ⟨_, _, S6, q⟩ := hf; exact gone S6 fun _ J7 => ⟨_, _, J7, q⟩
        | brk => obtain ⟨_, _, S6, q⟩ := hf; exact gone S6 fun _ J7 => ⟨_, _, J7, q⟩
        | cont => obtain ⟨_, _, S6, q⟩ := hf; exact gone S6 fun _ J7 => ⟨_, _, J7, q⟩
        | ret u => obtain ⟨_, _, _, S6, rr, q⟩ := hf; exact gone S6 fun _ J7 => ⟨_, _, _, J7, rr, q⟩
  · cases f with
    | next => obtain ⟨_, _, J2, q⟩ := hf; exact wpAny_execs_nil ⟨_, _, J2.ofTry ok, q⟩
    | brk => obtain ⟨_, _, J2, q⟩ := hf; exact ⟨_, _, J2.ofTry ok, q⟩
    | cont => obtain ⟨_, _, J2, q⟩ := hf; exact ⟨_, _, J2.ofTry ok, q⟩
    | ret u => obtain ⟨_, _, _, J2, rr, q⟩ := hf; exact ⟨_, _, _, J2.ofTry ok, rr, q⟩
end
end SL

namespace SL
open PySem PySem.Spec PyProof.Rows L2

/-! ## own exceptions with one field -/
/-- what __init__ promises: the one field is laid -/
def spI1 (C : Addr) (fld : Str) : Sp := fun vs H Q _ => ∃ a y, vs = [.ref a, y] ∧ H a = some (exo a C none) ∧ ∀ dx, H dx = none → dx ≠ a → Q .non (upd (upd H dx (exd dx [(fld, y)])) a (exo a C (some dx)))
structure Exc1 (P : Program) (w : World) (K : PySem.W.Frag) (mg : Str → Option Value) (base : Heap) (c fld : Str) : Prop where
  ex : ∃ (C fI : Addr) (fd : FuncData) (x : Str), OexC K C ∧ PySem.W.findIn K (.ref C) "__init__" = some (some (.ref fI)) ∧ PySem.W.typeIn K (.ref fI) = some (.type "function") ∧ FnOk P w K mg base (L2.CX P w) 1 fI fd ["self", x] (spI1 C fld) ∧ Binds K fd ["self", x] [] ∧ mg c = some (.ref C)
theorem init1 {P : Program} {w : World} {K : PySem.W.Frag} {mg : Str → Option Value} {base : Heap} {qual : Str} {st : Stmt} {f C : Addr} {fd : FuncData} {x fld : Str} {p1 p2 p3 p4 : Pos} (F : Fun K "__init__" qual st f fd) (S : FnScope ["self", x] ["self", x] (defScope st))
    (hb : defBody st = [.Assign [.Attribute (.Name "self" p1) fld p2] (.Name x p3) p4]) (T : OexC K C) (hno : PySem.W.findIn K (.ref C) fld = some none) (hd : (x == ("__debug__" : Str)) = false) (hcd : (x == ("__classdict__" : Str)) = false) : FnOk P w K mg base (L2.CX P w) 1 f fd ["self", x] (spI1 C fld) := by
  refine F.okX (k := 0) S (fun vs H Q E h => ?_) (fun cdv A outer s H vs Q E hr h => ?_)
  · obtain ⟨a, y, rfl, _⟩ := h; rfl
  · rw [hb]
    have vis : ∀ z ∈ (["self", x] : List Str), Vis (defScope st) z := fun z hz => by
      rcases S.par z hz with q | q
      · exact .inl q
      · exact .inr (.inl q)
    refine ⟨_, pss_one (ps_ost (pe_var (i := 0) rfl (vis "self" (by simp))) (pe_var (i := 1) rfl (vis x (by simp)) hd hcd)), ?_⟩
    obtain ⟨a, y, rfl, h1, h2⟩ := h
    exact ⟨y, rfl, .ref a, rfl, a, C, rfl, T, hno, .inl ⟨h1, fun dx n ne => h2 dx n ne⟩⟩
theorem del_eq {H : Hp} {a d : Addr} {o o1 o2 o3 : HO} (ha : H a = none) (hd : d ≠ a) : upd (del (upd (upd (upd H a o) d o1) a o2) a) d o3 = upd H d o3 := by
  funext b
  by_cases e : b = d
  · subst e; rw [upd_same, upd_same]
  · rw [upd_ne e, upd_ne e]
    by_cases z : b = a
    · subst z; rw [del_same, ha]
    · rw [del_ne z, upd_ne z, upd_ne e, upd_ne z]
/-- raise C(e, ..): the error's fields are the arguments -/
def sRaise (c : Str) (ns : List Str) (f : SemL) : SSem := fun fr st => (f fr st).stm fr fun ws st1 => if ws.length = ns.length then .er ⟨c, ns, ws⟩ fr st1 else .bad
section
variable {X : Cx} {Wx : Wish}
theorem sv_raise1 {k : Nat} {c fld : Str} {f : SemL} {e : Expr} {es : List Expr} {p p2 pos : Pos} (C : Ctx X Wx k) (hk : 2 ≤ k) (E : Exc1 X.prog X.w X.K X.mg X.base c fld) (ha : AV X Wx (e :: es) f) (hg : Gl X c := by rfl) (hdb : (c == ("__debug__" : Str)) = false := by decide)
    (he : starEach (e :: es) X.env = (false, eval e X.env) :: starEach es X.env := by rfl) (hpl : (backTo p2 (starEach es X.env)).any (·.1) = false := by rfl) :
    SV X Wx (.Raise (some (.Call (.Name c p) (e :: es) [] p2)) none pos) (sRaise c [fld] f) := by
  obtain ⟨A, fI, fd, x, T, h1, h2, F, B, hm⟩ := E.ex
  refine PSm (ps_raise C.calm C.tk (pmk_oex (CX := L2.CX X.prog X.w) (k := 1) T h1 h2 F (C.room.mono hk) B .nil (fun pins σ H s u s' I z => ?_) hg hm ha hdb he hpl)) fun D σ H ⟨μ, st, hid, fr, S, P⟩ => ?_
  · obtain ⟨_, _, _, _, _, _, _, _, _, _, _, _, z⟩ := z
    exact z.elim
  · refine ⟨μ, st, hid, fr, S, ?_⟩
    unfold sRaise at P
    cases e1 : f fr st with
    | bad => rw [e1] at P; exact P
    | err x s => rw [e1] at P; exact fun μ1 H1 c d k1 g1 xr => P μ1 σ H1 c d (S.next k1 g1) g1 xr
    | ok ws st1 =>
      rw [e1, Out.stm_ok] at P
      intro μ1 H1 vs k1 g1 r1
      have P1 := SPost.from g1 P
      split at P1
      · rename_i hl
        have hv : vs.length = 1 := by rw [← r1.length]; exact hl
        obtain ⟨y, rfl⟩ : ∃ y, vs = [y] := by
          match vs, hv with
          | [y], _ => exact ⟨y, rfl⟩
        refine ⟨by simp, fun a na => ⟨a, y, rfl, upd_same, fun dx nd ne => ⟨rfl, dx, [(fld, y)], upd_same, by rw [upd_ne ne, upd_same], ?_, ?_⟩⟩⟩
        · rw [upd_ne ne] at nd; exact nd
        · rw [upd_ne ne] at nd
          rw [del_eq na ne]
          obtain ⟨k2, g2, e2⟩ := k1.laid (o := .xd [(fld, y)]) nd
          exact P1 μ1 σ _ _ _ ((S.next k1 g1).next k2 g2) g2 ⟨A, hm, rfl, .inr ⟨dx, [y], rfl, rfl, e2, r1.mono g2.le (.refl _)⟩⟩
      · exact P1.elim

/-! ## try -/
def clrF (sl : Option Nat) (fr : Fr) : Fr := match sl with
  | none => fr
  | some i => fr.set i none
structure HndS where
  cn : Str
  sl : Option Nat
  h : Exc → SSem
def SOut.clr (sl : Option Nat) : SOut → SOut
  | .nx fr st => .nx (clrF sl fr) st
  | .bk fr st => .bk (clrF sl fr) st
  | .ct fr st => .ct (clrF sl fr) st
  | .rt w st => .rt w st
  | .er _ _ _ => .bad
  | .bad => .bad
/-- which class stands under which -/
abbrev ExT := Str → Str → Option Bool
def slOk (sl : Option Nat) (fr : Fr) : Bool := match sl with
  | none => true
  | some i => decide (i < fr.length)
def hRun (T : ExT) (x : Exc) : List HndS → Fr → Sto → SOut
  | [], fr, st => .er x fr st
  | hd :: r, fr, st => match T x.c hd.cn with
    | some true => if slOk hd.sl fr = true then (hd.h x (clrF hd.sl fr) st).clr hd.sl else .bad
    | some false => hRun T x r fr st
    | none => .bad
def sTry (T : ExT) (b : SSem) (hs : List HndS) : SSem := fun fr st => match b fr st with
  | .er x fr1 st1 => hRun T x hs fr1 st1
  | o => o
theorem XRep.mono {K : PySem.W.Frag} {mg : Str → Option Value} {F F' : Hp} {μ μ' : List Addr} {x : Exc} {c : Value} {d : Option Addr} (l : Le F F') (p : Pre μ μ') (h : XRep K mg F μ x c d) : XRep K mg F' μ' x c d := by
  obtain ⟨C, h1, h2, h3⟩ := h
  refine ⟨C, h1, h2, ?_⟩
  rcases h3 with h3 | ⟨dx, vs, h3, h4, h5, h6⟩
  · exact .inl h3
  · exact .inr ⟨dx, vs, h3, h4, l.xd h5, h6.mono l p⟩
def Wish.suite (Wx : Wish) (K : PySem.W.Frag) (mg : Str → Option Value) (sl : Option Nat) (x : Exc) (a : Addr) (cls : Value) (d : Option Addr) : Wish where
  w := fun _ _ _ _ => False
  lock := sl.toList ++ Wx.lock
  y := fun σ F μ => Wx.y σ F μ ∧ XRep K mg F μ x cls d ∧ ∀ i, sl = some i → σ[i]? = some (some (.ref a))
  mono := fun σ F F' μ μ' l p h => ⟨Wx.mono _ _ _ _ _ l p h.1, h.2.1.mono l p, h.2.2⟩
  slot := fun σ σ' F μ e h => ⟨Wx.slot _ _ _ _ (fun i hi => e i (List.mem_append_right _ hi)) h.1, h.2.1, fun i hi => by
    rw [e i (List.mem_append_left _ (by rw [hi]; simp))]; exact h.2.2 i hi⟩
/-- what a wish within a try's body is -/
def Wish.tr (Wx : Wish) (W : WX) : Wish := ⟨W, Wx.lock, Wx.y, Wx.mono, Wx.slot⟩
theorem SI.tr {K : PySem.W.Frag} {mg : Str → Option Value} {μ : List Addr} {st : Sto} {hid : List Addr} {fr : Fr} {σ : L2.St} {H : Hp} (W : WX) (s : SI K mg Wx μ st hid fr σ H) : SI K mg (Wx.tr W) μ st hid fr σ H := ⟨s.sto, s.len, s.loc, s.ex⟩
theorem SI.ofTr {K : PySem.W.Frag} {mg : Str → Option Value} {μ : List Addr} {st : Sto} {hid : List Addr} {fr : Fr} {σ : L2.St} {H : Hp} {W : WX} (s : SI K mg (Wx.tr W) μ st hid fr σ H) : SI K mg Wx μ st hid fr σ H := ⟨s.sto, s.len, s.loc, s.ex⟩
def tsOf (K : PySem.W.Frag) (mg : Str → Option Value) (Wx : Wish) (sl : Option Nat) (h : Exc → SSem) : Addr → Value → Option Addr → TS := fun a cls d D σ H => ∃ x, tS K mg (Wx.suite K mg sl x a cls d) (h x) D σ H
/-- a suite by its meaning -/
def SuV (X : Cx) (Wx : Wish) (sl : Option Nat) (ss : List Stmt) (h : Exc → SSem) : Prop := ∀ (a : Addr) (ob : Obj) (cls : Value) (d : Option Addr) (pl : List (Addr × Obj)) (x : Exc), Zc cls d ob → (∃ vs, ob.data = .fields vs) → BV (X.suite a ((a, ob) :: pl)) (Wx.suite X.K X.mg sl x a cls d) ss (h x)
theorem SuV.ok {sl : Option Nat} {ss : List Stmt} {h : Exc → SSem} (u : SuV X Wx sl ss h) : SuiteOk X ss (tsOf X.K X.mg Wx sl h) := fun a ob cls d pl hz hf =>
  ⟨fun pins s σ H D I ⟨x, q⟩ => (u a ob cls d pl x hz hf).run pins s σ H D I q⟩
/-- the clauses by their meaning -/
inductive HV (X : Cx) (Wx : Wish) : List ExceptHandler → List HndS → List Hnd → Prop
  | nil : HV X Wx [] [] []
  | one {x : Str} {C : Addr} {h : Exc → SSem} {s0 : Stmt} {ss : List Stmt} {p1 p2 : Pos} {hs : List ExceptHandler} {l : List HndS} {m : List Hnd} (hg : Gl X x) (hd : (x == ("__debug__" : Str)) = false) (hm : X.mg x = some (.ref C)) (hu : SuV X Wx none (s0 :: ss) h) (r : HV X Wx hs l m) :
      HV X Wx (.ExceptHandler (some (.Name x p1)) none (s0 :: ss) p2 :: hs) (⟨x, none, h⟩ :: l) ((.ref C, none, tsOf X.K X.mg Wx none h) :: m)
  | as {x n : Str} {i : Nat} {C : Addr} {h : Exc → SSem} {s0 : Stmt} {ss : List Stmt} {p1 p2 : Pos} {hs : List ExceptHandler} {l : List HndS} {m : List Hnd} (hg : Gl X x) (hd : (x == ("__debug__" : Str)) = false) (hm : X.mg x = some (.ref C)) (hi : X.N[i]? = some n) (hl : X.env.kindOf n = some .local) (hk : i ∉ Wx.lock) (hu : SuV X Wx (some i) (s0 :: ss) h) (r : HV X Wx hs l m) :
      HV X Wx (.ExceptHandler (some (.Name x p1)) (some n) (s0 :: ss) p2 :: hs) (⟨x, some i, h⟩ :: l) ((.ref C, some i, tsOf X.K X.mg Wx (some i) h) :: m)
theorem HV.ok {hs : List ExceptHandler} {l : List HndS} {m : List Hnd} (v : HV X Wx hs l m) : HdsG X hs m := by
  induction v with
  | nil => exact .nil
  | one hg hd hm hu r ih => exact .one ⟨hg, hd, .inl hm⟩ hu.ok ih
  | as hg hd hm hi hl hk hu r ih => exact .as ⟨hg, hd, .inl hm⟩ hi hl hu.ok ih
/-- the table of classes says what is so -/
def ExTOk (K : PySem.W.Frag) (mg : Str → Option Value) (T : ExT) : Prop := ∀ c c' b, T c c' = some b → ∀ C C', mg c = some (.ref C) → mg c' = some (.ref C') → PySem.W.exmOne K (.ref C) (.ref C') = some b
theorem SI.clr {K : PySem.W.Frag} {mg : Str → Option Value} {μ : List Addr} {st : Sto} {hid : List Addr} {fr : Fr} {σ : L2.St} {H : Hp} {sl : Option Nat} {x : Exc} {a : Addr} {cls : Value} {d : Option Addr} (s : SI K mg (Wx.suite K mg sl x a cls d) μ st hid fr σ H) (hk : ∀ i, sl = some i → i ∉ Wx.lock) :
    SI K mg Wx μ st hid (clrF sl fr) (match sl with | none => σ | some i => σ.set i none) H := by
  cases sl with
  | none => exact ⟨s.sto, s.len, s.loc, s.ex.1⟩
  | some i =>
    refine ⟨s.sto, by simpa [clrF] using s.len, fun j w h => ?_, Wx.slot _ _ _ _ (fun j hj => List.getElem?_set_ne fun (z : i = j) => hk i rfl (z ▸ hj)) s.ex.1⟩
    have h' : (fr.set i none)[j]? = some (some w) := h
    by_cases e : i = j
    · subst e
      by_cases q : i < fr.length
      · rw [List.getElem?_set_self q] at h'; cases h'
      · rw [List.getElem?_eq_none (by simpa using q)] at h'; cases h'
    · rw [List.getElem?_set_ne e] at h'
      obtain ⟨v, e1, e2⟩ := s.loc j w h'
      exact ⟨v, by show (σ.set i none)[j]? = _; rw [List.getElem?_set_ne e]; exact e1, e2⟩
theorem hRun_at {T : ExT} (hT : ExTOk X.K X.mg T) {D : Ends} : ∀ {hs : List ExceptHandler} {l : List HndS} {m : List Hnd}, HV X Wx hs l m → ∀ {hid μ : List Addr} {st : Sto} {fr : Fr} {σ : L2.St} {H : Hp} {x : Exc} {cls : Value} {d : Option Addr}, SI X.K X.mg Wx μ st hid fr σ H → XRep X.K X.mg (Fz μ st hid H) μ x cls d →
    SPost X.K X.mg Wx hid μ st H D (hRun T x l fr st) → wGen X.K Wx.w D m cls d σ H := by
  intro hs l m v
  -- one clause: its suite at the cleared frame
  have key : ∀ {sl : Option Nat} {h : Exc → SSem} {hid μ : List Addr} {st : Sto} {fr : Fr} {σ : L2.St} {H : Hp} {x : Exc} {cls : Value} {d : Option Addr}, (∀ i, sl = some i → i ∉ Wx.lock ∧ i < fr.length) → SI X.K X.mg Wx μ st hid fr σ H → XRep X.K X.mg (Fz μ st hid H) μ x cls d →
      SPost X.K X.mg Wx hid μ st H D ((h x (clrF sl fr) st).clr sl) → ∀ a, tsOf X.K X.mg Wx sl h a cls d (clr sl D) (stoE sl σ a) H := by
    intro sl h hid μ st fr σ H x cls d hk S xr P a
    refine ⟨x, μ, st, hid, clrF sl fr, ?_, ?_⟩
    · cases sl with
      | none => exact ⟨S.sto, S.len, S.loc, S.ex, xr, fun i z => nomatch z⟩
      | some i =>
        obtain ⟨hk1, hk2⟩ := hk i rfl
        refine ⟨S.sto, by simpa [clrF, stoE] using S.len, fun j w h' => ?_, Wx.slot _ _ _ _ (fun j hj => List.getElem?_set_ne fun (z : i = j) => hk1 (z ▸ hj)) S.ex, xr, fun j z => ?_⟩
        · have h'' : (fr.set i none)[j]? = some (some w) := h'
          by_cases e : i = j
          · subst e
            rw [List.getElem?_set_self hk2] at h''; cases h''
          · rw [List.getElem?_set_ne e] at h''
            obtain ⟨v, e1, e2⟩ := S.loc j w h''
            exact ⟨v, by show (σ.set i _)[j]? = _; rw [List.getElem?_set_ne e]; exact e1, e2⟩
        · cases z
          exact List.getElem?_set_self (by rw [← S.len]; exact hk2)
    · have hkl : ∀ i, sl = some i → i ∉ Wx.lock := fun i z => (hk i z).1
      have nxt : ∀ {μ' : List Addr} {st' : Sto} {fr' : Fr} {σ' : L2.St} {H' : Hp} {R : L2.St → Hp → Prop}, SI X.K X.mg (Wx.suite X.K X.mg sl x a cls d) μ' st' hid fr' σ' H' → (∀ σ2, SI X.K X.mg Wx μ' st' hid (clrF sl fr') σ2 H' → R σ2 H') →
          (match sl with | none => R σ' H' | some i => R (σ'.set i none) H') := fun {μ' st' fr' σ' H' R} s q => by
        have s2 := s.clr hkl
        cases sl with
        | none => exact q _ s2
        | some i => exact q _ s2
      cases e : h x (clrF sl fr) st with
      | bad => rw [e] at P; exact P
      | er z f s => rw [e] at P; exact P.elim
      | rt w s =>
        rw [e] at P
        have P' : ∀ μ' H' v, StOk X.K X.mg μ' s hid H' → Grow hid μ st H μ' s H' → Rep X.K X.mg (Fz μ' s hid H') μ' w v → D.rt v H' := P
        intro μ' H' v k g r
        cases sl with
        | none => exact P' μ' H' v k g r
        | some i => exact P' μ' H' v k g r
      | nx f s =>
        rw [e] at P
        have P' : ∀ μ' σ' H', SI X.K X.mg Wx μ' s hid (clrF sl f) σ' H' → Grow hid μ st H μ' s H' → D.nx σ' H' := P
        intro μ' σ' H' S' g
        have q := nxt (R := D.nx) S' fun σ2 s2 => P' μ' σ2 H' s2 g
        cases sl with
        | none => exact q
        | some i => exact q
      | bk f s =>
        rw [e] at P
        have P' : ∀ μ' σ' H', SI X.K X.mg Wx μ' s hid (clrF sl f) σ' H' → Grow hid μ st H μ' s H' → D.bk σ' H' := P
        intro μ' σ' H' S' g
        have q := nxt (R := D.bk) S' fun σ2 s2 => P' μ' σ2 H' s2 g
        cases sl with
        | none => exact q
        | some i => exact q
      | ct f s =>
        rw [e] at P
        have P' : ∀ μ' σ' H', SI X.K X.mg Wx μ' s hid (clrF sl f) σ' H' → Grow hid μ st H μ' s H' → D.ct σ' H' := P
        intro μ' σ' H' S' g
        have q := nxt (R := D.ct) S' fun σ2 s2 => P' μ' σ2 H' s2 g
        cases sl with
        | none => exact q
        | some i => exact q
  induction v with
  | nil =>
    intro hid μ st fr σ H x cls d S xr P
    exact P μ σ H cls d S .refl xr
  | @one n C h s0 ss p1 p2 hs l m hg hd hm hu r ih =>
    intro hid μ st fr σ H x cls d S xr P
    obtain ⟨C', h1, rfl, h3⟩ := id xr
    rw [hRun] at P
    simp only at P
    split at P
    · rename_i e
      split at P
      · exact ⟨true, hT _ _ _ e _ _ h1 hm, fun _ a na => key (sl := none) (fun i z => nomatch z) S xr P a, fun z => (nomatch z)⟩
      · exact P.elim
    · rename_i e
      exact ⟨false, hT _ _ _ e _ _ h1 hm, fun z => (nomatch z), fun _ => ih S xr P⟩
    · exact P.elim
  | @as n nn i C h s0 ss p1 p2 hs l m hg hd hm hi hl hk hu r ih =>
    intro hid μ st fr σ H x cls d S xr P
    obtain ⟨C', h1, rfl, h3⟩ := id xr
    rw [hRun] at P
    simp only at P
    split at P
    · rename_i e
      split at P
      · rename_i hs
        refine ⟨true, hT _ _ _ e _ _ h1 hm, fun _ a na => key (sl := some i) (fun j z => ?_) S xr P a, fun z => (nomatch z)⟩
        cases z
        exact ⟨hk, of_decide_eq_true hs⟩
      · exact P.elim
    · rename_i e
      exact ⟨false, hT _ _ _ e _ _ h1 hm, fun z => (nomatch z), fun _ => ih S xr P⟩
    · exact P.elim
theorem sv_try {k : Nat} {T : ExT} {body : List Stmt} {g0 : ExceptHandler} {gs : List ExceptHandler} {b : SSem} {l : List HndS} {m : List Hnd} {pos : Pos} (C : Ctx X Wx k) (hT : ExTOk X.K X.mg T) (hst : X.stack = X.env :: X.outer) (hfm : X.env.frame = some X.env.locals)
    (hb : ∀ (W : WX) (pl : List (Addr × Obj)) (xe : Value → Shared → Prop), Ctx (X.tr pl xe) (Wx.tr W) k → BV (X.tr pl xe) (Wx.tr W) body b) (hh : HV X Wx (g0 :: gs) l m) : SV X Wx (.Try body (g0 :: gs) [] [] pos) (sTry T b l) :=
  PSm (ps_tryG (tb := fun W => tS X.K X.mg (Wx.tr W) b) C.nd hst hfm C.tk (fun W pl xe tk hp => hb W pl xe ⟨C.calm, C.nd, C.room, tk, hp⟩) hh.ok) fun D σ H ⟨μ, st, hid, fr, S, P⟩ => by
    refine ⟨μ, st, hid, fr, S.tr _, ?_⟩
    unfold sTry at P
    cases e : b fr st with
    | bad => rw [e] at P; exact P
    | rt w s => rw [e] at P; exact P
    | nx f s => rw [e] at P; exact fun μ' σ' H' S' g => P μ' σ' H' S'.ofTr g
    | bk f s => rw [e] at P; exact fun μ' σ' H' S' g => P μ' σ' H' S'.ofTr g
    | ct f s => rw [e] at P; exact fun μ' σ' H' S' g => P μ' σ' H' S'.ofTr g
    | er x f s =>
      rw [e] at P
      intro μ' σ' H' c d S' g xr
      exact hRun_at hT hh S'.ofTr xr (SPost.from g P)
/-! ## a field of a caught error -/
def lkp : List Str → List W → Str → Option W
  | n :: ns, w :: ws, f => if f == n then some w else lkp ns ws f
  | _, _, _ => none
theorem lkp_at {K : PySem.W.Frag} {mg : Str → Option Value} {F : Hp} {μ : List Addr} {f : Str} {w : W} : ∀ {ns : List Str} {ws : List W} {vs : List V}, lkp ns ws f = some w → Reps K mg F μ ws vs → ∃ v, (ns.zip vs).lookup f = some v ∧ Rep K mg F μ w v
  | [], _, _, h, _ => by unfold lkp at h; cases h
  | _ :: _, [], _, h, _ => by unfold lkp at h; cases h
  | n :: ns, u :: ws, vs, h, r => by
    unfold lkp at h
    obtain ⟨v, t, rfl, h1, h2⟩ := r.cons_inv
    rw [List.zip_cons_cons, List.lookup_cons]
    cases e : f == n with
    | true => rw [e] at h; cases h; exact ⟨v, rfl, h1⟩
    | false => rw [e] at h; exact lkp_at h h2
def eXf (x : Exc) (c n : Str) : Sem := fun _ st => if x.c = c then (match lkp x.ns x.vs n with
  | some w => .ok w st
  | none => .bad) else .bad
theorem ev_xf {a : Addr} {oe : Obj} {cls : Value} {d : Option Addr} {pn : List (Addr × Obj)} {C : Addr} {x : Exc} {c nm n : Str} {i : Nat} {p pos : Pos} (T : XfC X.K C) (hm : X.mg c = some (.ref C)) (hno : PySem.W.findIn X.K (.ref C) n = some none) (hz : Zc cls d oe) (hf : ∃ vs, oe.data = .fields vs)
    (hN : X.N[i]? = some nm) (hv : Vis X.env.scope nm) (hd : (nm == ("__debug__" : Str)) = false := by decide) (hcd : (nm == ("__classdict__" : Str)) = false := by decide) (hb : attributeBase (.Name nm p) n X.env (eval (.Name nm p) X.env) = eval (.Name nm p) X.env := by rfl) :
    EV (X.suite a ((a, oe) :: pn)) (Wx.suite X.K X.mg (some i) x a cls d) (.Attribute (.Name nm p) n pos) (eXf x c n) :=
  PEm (pe_xf T hno hz hf (pe_var (X := X.suite a ((a, oe) :: pn)) (i := i) hN hv hd hcd) hb) fun σ H Q ⟨μ, st, hid, fr, S, P⟩ => by
    obtain ⟨_, ⟨C', h1, h2, h3⟩, h4⟩ := S.ex
    refine ⟨.ref a, h4 i rfl, rfl, ?_⟩
    unfold eXf at P
    split at P
    · rename_i e
      have h1' : X.mg c = some (.ref C') := by rw [← e]; exact h1
      rw [hm] at h1'
      cases h1'
      refine ⟨h2, ?_⟩
      split at P
      · rename_i w ew
        rcases h3 with h3 | ⟨dx, vs, h3, h4, h5, h6⟩
        · rw [h3] at ew
          cases ew
        · obtain ⟨v, h7, h8⟩ := lkp_at ew h6
          exact ⟨dx, _, v, h3, (Fz.sub h5).1, h7, P μ H v S.sto .refl h8⟩
      · exact P.elim
    · exact P.elim
end
end SL

namespace SL
open PySem PySem.Spec PyProof.Rows L2

/-! ## a def's end: its own cells are let go -/
mutual
def fz0 (n : Nat) (f : Nat → Option W) : W → Option W
  | .tup ws => (fz0s n f ws).map .tup
  | .lst ws => (fz0s n f ws).map .lst
  | .ro ws => (fz0s n f ws).map .ro
  | .dct ks ws => (fz0s n f ws).map (.dct ks)
  | .ins c ns ws => (fz0s n f ws).map (.ins c ns)
  | .cell k => if k < n then some (.cell k) else f k
  | .non => some .non
  | .bl b => some (.bl b)
  | .int i => some (.int i)
  | .str x => some (.str x)
  | .ty x => some (.ty x)
  | .cls x => some (.cls x)
def fz0s (n : Nat) (f : Nat → Option W) : List W → Option (List W)
  | [] => some []
  | w :: r => match fz0 n f w, fz0s n f r with
    | some a, some b => some (a :: b)
    | _, _ => none
end
def fzc (n : Nat) (st : Sto) : Nat → Nat → Option W
  | 0, _ => none
  | m + 1, k => match st[k]? with
    | some (.lst ws) => (fz0s n (fzc n st m) ws).map .lst
    | some (.dct ks ws) => (fz0s n (fzc n st m) ws).map (.dct ks)
    | some (.ins c ns ws) => (fz0s n (fzc n st m) ws).map (.ins c ns)
    | some (.frz w) => fz0 n (fzc n st m) w
    | none => none
/-- the old cells know no new ones -/
def oldW (n : Nat) (c : Cel) : Bool := match c with
  | .lst ws => (fz0s n (fun _ => none) ws).isSome
  | .dct _ ws => (fz0s n (fun _ => none) ws).isSome
  | .ins _ _ ws => (fz0s n (fun _ => none) ws).isSome
  | .frz w => (fz0 n (fun _ => none) w).isSome
def leave (n : Nat) (w : W) (st : Sto) : Out W := if st.length = n then .ok w st else match fz0 n (fzc n st (st.length + 1)) w with
  | some u => if (st.take n).all (oldW n) = true then .ok u (st.take n) else .bad
  | none => .bad
def leaveX (n : Nat) (x : Exc) (st : Sto) : Out W := if st.length = n then .err x st else match fz0s n (fzc n st (st.length + 1)) x.vs with
  | some us => if (st.take n).all (oldW n) = true then .err ⟨x.c, x.ns, us⟩ (st.take n) else .bad
  | none => .bad
/-- .. but the one cell that it hands back, which goes on to live -/
def leaveC (n : Nat) (w : W) (st : Sto) : Out W := match w with
  | .cell j => if n ≤ j then (match st[j]? with
    | some c => if c.live = true ∧ oldW n c = true ∧ (st.take n).all (oldW n) = true then .ok (.cell n) (st.take n ++ [c]) else .bad
    | none => .bad) else .bad
  | _ => .bad
def mkFnG (lv : Nat → W → Sto → Out W) (m : Nat) (b : SSem) : Fn := fun ws st => match b (ws.map some ++ List.replicate (m - ws.length) none) st with
  | .nx _ st1 => leave st.length .non st1
  | .rt w st1 => lv st.length w st1
  | .er x _ st1 => leaveX st.length x st1
  | _ => .bad
def mkFn (m : Nat) (b : SSem) : Fn := mkFnG leave m b
def mkFnC (m : Nat) (b : SSem) : Fn := mkFnG leaveC m b
/-- .. or all goes on to live -/
def leaveA (n : Nat) (w : W) (st : Sto) : Out W := .ok w st
def mkFnA (m : Nat) (b : SSem) : Fn := mkFnG leaveA m b
section
variable {K : PySem.W.Frag} {mg : Str → Option Value} {F F' : Hp} {μ μ' : List Addr} {n : Nat} {f : Nat → Option W}
mutual
theorem fz0_at (l : Le F F') (hc : ∀ k, k < n → ∀ v, Rep K mg F μ (.cell k) v → Rep K mg F' μ' (.cell k) v) (hf : ∀ k, n ≤ k → ∀ u v, f k = some u → Rep K mg F μ (.cell k) v → Rep K mg F' μ' u v) : ∀ (w u : W) (v : V), fz0 n f w = some u → Rep K mg F μ w v → Rep K mg F' μ' u v
  | .non, u, v, h, r => by unfold fz0 at h; cases h; cases rep_non_inv r; exact rep_non
  | .bl b, u, v, h, r => by unfold fz0 at h; cases h; cases rep_bl_inv r; exact rep_bl
  | .int b, u, v, h, r => by unfold fz0 at h; cases h; cases rep_int_inv r; exact rep_int
  | .str b, u, v, h, r => by unfold fz0 at h; cases h; cases rep_str_inv r; exact rep_str
  | .ty b, u, v, h, r => by unfold fz0 at h; cases h; unfold Rep at r ⊢; exact r
  | .cls b, u, v, h, r => by unfold fz0 at h; cases h; unfold Rep at r ⊢; exact r
  | .tup ws, u, v, h, r => by
    unfold fz0 at h
    cases e : fz0s n f ws with
    | none => rw [e] at h; cases h
    | some us =>
      rw [e] at h; cases h
      unfold Rep at r ⊢
      obtain ⟨a, vs, rfl, h1, h2⟩ := r
      exact ⟨a, vs, rfl, h1.le l, fz0s_at l hc hf ws us vs e h2⟩
  | .lst ws, u, v, h, r => by
    unfold fz0 at h
    cases e : fz0s n f ws with
    | none => rw [e] at h; cases h
    | some us =>
      rw [e] at h; cases h
      unfold Rep at r ⊢
      obtain ⟨a, vs, rfl, h1, h2⟩ := r
      exact ⟨a, vs, rfl, l.lst h1, fz0s_at l hc hf ws us vs e h2⟩
  | .ro ws, u, v, h, r => by
    unfold fz0 at h
    cases e : fz0s n f ws with
    | none => rw [e] at h; cases h
    | some us =>
      rw [e] at h; cases h
      unfold Rep at r ⊢
      obtain ⟨a, vs, rfl, h1, h2⟩ := r
      exact ⟨a, vs, rfl, SqL.le l h1, fz0s_at l hc hf ws us vs e h2⟩
  | .dct ks ws, u, v, h, r => by
    unfold fz0 at h
    cases e : fz0s n f ws with
    | none => rw [e] at h; cases h
    | some us =>
      rw [e] at h; cases h
      unfold Rep at r ⊢
      obtain ⟨a, vs, rfl, h1, h2⟩ := r
      exact ⟨a, vs, rfl, h1.le l, fz0s_at l hc hf ws us vs e h2⟩
  | .ins c ns ws, u, v, h, r => by
    unfold fz0 at h
    cases e : fz0s n f ws with
    | none => rw [e] at h; cases h
    | some us =>
      rw [e] at h; cases h
      unfold Rep at r ⊢
      obtain ⟨a, C, dx, vs, rfl, g, ll, h1, h2⟩ := r
      exact ⟨a, C, dx, vs, rfl, g, ll, l.ins h1, fz0s_at l hc hf ws us vs e h2⟩
  | .cell k, u, v, h, r => by
    unfold fz0 at h
    split at h
    · rename_i hk
      cases h
      exact hc k hk v r
    · rename_i hk
      exact hf k (Nat.le_of_not_lt hk) u v h r
theorem fz0s_at (l : Le F F') (hc : ∀ k, k < n → ∀ v, Rep K mg F μ (.cell k) v → Rep K mg F' μ' (.cell k) v) (hf : ∀ k, n ≤ k → ∀ u v, f k = some u → Rep K mg F μ (.cell k) v → Rep K mg F' μ' u v) : ∀ (ws us : List W) (vs : List V), fz0s n f ws = some us → Reps K mg F μ ws vs → Reps K mg F' μ' us vs
  | [], us, vs, h, r => by
    unfold fz0s at h; cases h
    rw [Reps.nil_iff] at r; subst r; exact .nil
  | w :: ws, us, vs, h, r => by
    unfold fz0s at h
    obtain ⟨v, t, rfl, h1, h2⟩ := r.cons_inv
    cases e1 : fz0 n f w with
    | none => rw [e1] at h; cases h
    | some a =>
      cases e2 : fz0s n f ws with
      | none => rw [e1, e2] at h; cases h
      | some b =>
        rw [e1, e2] at h; cases h
        exact .cons (fz0_at l hc hf w a v e1 h1) (fz0s_at l hc hf ws b t e2 h2)
end
end
mutual
/-- with nothing for new cells a value stays what it is -/
theorem fz0_id {n : Nat} : ∀ (w u : W), fz0 n (fun _ => none) w = some u → u = w
  | .non, u, h => by unfold fz0 at h; cases h; rfl
  | .bl b, u, h => by unfold fz0 at h; cases h; rfl
  | .int b, u, h => by unfold fz0 at h; cases h; rfl
  | .str b, u, h => by unfold fz0 at h; cases h; rfl
  | .ty b, u, h => by unfold fz0 at h; cases h; rfl
  | .cls b, u, h => by unfold fz0 at h; cases h; rfl
  | .tup ws, u, h => by
    unfold fz0 at h
    cases e : fz0s n (fun _ => none) ws with
    | none => rw [e] at h; cases h
    | some us => rw [e] at h; cases h; rw [fz0s_id ws us e]
  | .lst ws, u, h => by
    unfold fz0 at h
    cases e : fz0s n (fun _ => none) ws with
    | none => rw [e] at h; cases h
    | some us => rw [e] at h; cases h; rw [fz0s_id ws us e]
  | .ro ws, u, h => by
    unfold fz0 at h
    cases e : fz0s n (fun _ => none) ws with
    | none => rw [e] at h; cases h
    | some us => rw [e] at h; cases h; rw [fz0s_id ws us e]
  | .dct ks ws, u, h => by
    unfold fz0 at h
    cases e : fz0s n (fun _ => none) ws with
    | none => rw [e] at h; cases h
    | some us => rw [e] at h; cases h; rw [fz0s_id ws us e]
  | .ins c ns ws, u, h => by
    unfold fz0 at h
    cases e : fz0s n (fun _ => none) ws with
    | none => rw [e] at h; cases h
    | some us => rw [e] at h; cases h; rw [fz0s_id ws us e]
  | .cell k, u, h => by
    unfold fz0 at h
    split at h
    · cases h; rfl
    · cases h
theorem fz0s_id {n : Nat} : ∀ (ws us : List W), fz0s n (fun _ => none) ws = some us → us = ws
  | [], us, h => by unfold fz0s at h; cases h; rfl
  | w :: ws, us, h => by
    unfold fz0s at h
    cases e1 : fz0 n (fun _ => none) w with
    | none => rw [e1] at h; cases h
    | some a =>
      cases e2 : fz0s n (fun _ => none) ws with
      | none => rw [e1, e2] at h; cases h
      | some b => rw [e1, e2] at h; cases h; rw [fz0_id w a e1, fz0s_id ws b e2]
end
section
variable {K : PySem.W.Frag} {mg : Str → Option Value} {μ : List Addr} {st : Sto} {hid : List Addr} {H : Hp} {n : Nat}
theorem take_get {α : Type} {l : List α} {n k : Nat} {a : α} (h : (l.take n)[k]? = some a) : k < n ∧ l[k]? = some a := by
  rw [List.getElem?_take] at h
  split at h
  · exact ⟨by assumption, h⟩
  · cases h
theorem live_take {a : Addr} (h : LiveA (μ.take n) (st.take n) hid a) : LiveA μ st hid a := by
  rcases h with h | ⟨k, c, h1, h2, h3⟩
  · exact .inl h
  · exact .inr ⟨k, c, (take_get h1).2, (take_get h2).2, h3⟩
theorem fz_take (μ : List Addr) (st : Sto) (hid : List Addr) (H : Hp) (n : Nat) : Le (Fz μ st hid H) (Fz (μ.take n) (st.take n) hid H) := Le.of fun a o h => by
  obtain ⟨h1, h2⟩ := Fz.sub h
  exact Fz.mk h1 fun z => h2 (live_take z)
theorem cell_take {F F' : Hp} : ∀ k, k < n → ∀ v, Rep K mg F μ (.cell k) v → Rep K mg F' (μ.take n) (.cell k) v := fun k hk v r => by
  unfold Rep at r ⊢
  obtain ⟨a, h1, h2⟩ := r
  exact ⟨a, by rw [List.getElem?_take, if_pos hk]; exact h1, h2⟩
/-- the cells from n on are let go -/
theorem StOk.take (k : StOk K mg μ st hid H) (hn : n ≤ st.length) (ho : (st.take n).all (oldW n) = true) : StOk K mg (μ.take n) (st.take n) hid H := by
  refine ⟨by rw [List.length_take, List.length_take, k.len], fun i j a c d h1 h2 h3 h4 h5 h6 => k.inj i j a c d (take_get h1).2 (take_get h2).2 (take_get h3).2 (take_get h4).2 h5 h6, fun i a c h1 h2 h3 => k.hidn i a c (take_get h1).2 (take_get h2).2 h3, k.hidt, fun i a c h1 h2 => ?_⟩
  have q := k.ok i a c (take_get h1).2 (take_get h2).2
  have l := fz_take μ st hid H n
  have old : oldW n c = true := List.all_eq_true.mp ho c (List.mem_of_getElem? h2)
  have go : ∀ {ws : List W} {vs : List V}, (fz0s n (fun _ => none) ws).isSome = true → Reps K mg (Fz μ st hid H) μ ws vs → Reps K mg (Fz (μ.take n) (st.take n) hid H) (μ.take n) ws vs := fun {ws vs} hs r => by
    cases e : fz0s n (fun _ => none) ws with
    | none => rw [e] at hs; cases hs
    | some us =>
      have z := fz0s_id ws us e
      subst z
      exact fz0s_at l cell_take (fun _ _ _ _ z => by cases z) _ _ _ e r
  cases c with
  | lst ws => obtain ⟨vs, e, r⟩ := q; exact ⟨vs, e, go old r⟩
  | dct ks ws => obtain ⟨vs, e, r⟩ := q; exact ⟨vs, e, go old r⟩
  | ins c ns ws => obtain ⟨C, dx, vs, g, l', e, r⟩ := q; exact ⟨C, dx, vs, g, l', e, go old r⟩
  | frz w =>
    have old' : (fz0 n (fun _ => none) w).isSome = true := old
    cases e : fz0 n (fun _ => none) w with
    | none => rw [e] at old'; cases old'
    | some u =>
      have z := fz0_id w u e
      subst z
      exact fz0_at l cell_take (fun _ _ _ _ z => by cases z) _ _ _ e q
theorem fzc_at (k : StOk K mg μ st hid H) : ∀ (m j : Nat) (u : W) (v : V), n ≤ j → fzc n st m j = some u → Rep K mg (Fz μ st hid H) μ (.cell j) v → Rep K mg (Fz (μ.take n) (st.take n) hid H) (μ.take n) u v := by
  have l := fz_take μ st hid H n
  intro m
  induction m with
  | zero => intro j u v hj h r; cases h
  | succ m ih =>
    intro j u v hj h r
    obtain ⟨a, e1, rfl⟩ := rep_cell_inv r
    have seen : ∀ {c : Cel} {o : HO}, st[j]? = some c → c.live = true → H a = some o → Fz (μ.take n) (st.take n) hid H a = some o := fun {c o} e2 lc e3 => Fz.mk e3 fun z => by
      rcases z with z | ⟨i, d, h1, h2, h3⟩
      · exact k.hidn j a c e1 e2 lc z
      · have q := k.inj i j a d c (take_get h1).2 e1 (take_get h2).2 e2 h3 lc
        have := (take_get h1).1
        omega
    have go : ∀ {ws us : List W} {vs : List V}, fz0s n (fzc n st m) ws = some us → Reps K mg (Fz μ st hid H) μ ws vs → Reps K mg (Fz (μ.take n) (st.take n) hid H) (μ.take n) us vs := fun e r => fz0s_at l cell_take (fun i hi u v e r => ih i u v hi e r) _ _ _ e r
    unfold fzc at h
    split at h
    · rename_i ws e2
      cases e : fz0s n (fzc n st m) ws with
      | none => rw [e] at h; cases h
      | some us =>
        rw [e] at h; cases h
        obtain ⟨vs, h1, h2⟩ := k.ok j a _ e1 e2
        unfold Rep
        exact ⟨a, vs, rfl, seen e2 rfl h1, go e h2⟩
    · rename_i ks ws e2
      cases e : fz0s n (fzc n st m) ws with
      | none => rw [e] at h; cases h
      | some us =>
        rw [e] at h; cases h
        obtain ⟨vs, h1, h2⟩ := k.ok j a _ e1 e2
        obtain ⟨o, h3⟩ := h1.some
        unfold Rep
        exact ⟨a, vs, rfl, h1.at ((seen e2 rfl h3).trans h3.symm), go e h2⟩
    · rename_i c ns ws e2
      cases e : fz0s n (fzc n st m) ws with
      | none => rw [e] at h; cases h
      | some us =>
        rw [e] at h; cases h
        obtain ⟨C, dx, vs, g, ll, h1, h2⟩ := k.ok j a _ e1 e2
        unfold Rep
        exact ⟨a, C, dx, vs, rfl, g, ll, seen e2 rfl h1, go e h2⟩
    · rename_i w e2
      have q := k.ok j a _ e1 e2
      exact fz0_at l cell_take (fun i hi u v e r => ih i u v hi e r) w u _ h q
    · cases h
theorem leave_at {Wx : WX} {μ0 : List Addr} {st0 : Sto} {H0 : Hp} {σ : L2.St} {Q : VK} {w : W} {v : V} (hn : μ0.length = n) (g : Grow hid μ0 st0 H0 μ st H) (k : StOk K mg μ st hid H) (r : Rep K mg (Fz μ st hid H) μ w v) (P : EPost K mg Wx hid μ0 st0 σ H0 Q (leave n w st)) : Q v H := by
  unfold leave at P
  split at P
  · exact P μ H v k g r
  · split at P
    · rename_i u e
      split at P
      · rename_i ho
        obtain ⟨e2, he⟩ := id g.pre
        have hle : n ≤ st.length := by rw [← k.len, he, List.length_append, hn]; omega
        have ht : μ.take n = μ0 := by rw [he, ← hn]; simp
        have l := fz_take μ st hid H n
        refine P (μ.take n) H v (k.take hle ho) ⟨by rw [ht]; exact .refl _, g.le.trans l, g.hid, g.lck⟩ (fz0_at l cell_take (fun i hi u v e r => fzc_at k _ i u v hi e r) w u v e r)
      · exact P.elim
    · exact P.elim
theorem leaveX_at {Wx : WX} {μ0 : List Addr} {st0 : Sto} {H0 : Hp} {σ : L2.St} {Q : VK} {x : Exc} {c : Value} {d : Option Addr} (hn : μ0.length = n) (g : Grow hid μ0 st0 H0 μ st H) (k : StOk K mg μ st hid H) (r : XRep K mg (Fz μ st hid H) μ x c d) (P : EPost K mg Wx hid μ0 st0 σ H0 Q (leaveX n x st)) : Wx c d σ H := by
  unfold leaveX at P
  split at P
  · exact P μ H c d k g r
  · split at P
    · rename_i us e
      split at P
      · rename_i ho
        obtain ⟨e2, he⟩ := id g.pre
        have hle : n ≤ st.length := by rw [← k.len, he, List.length_append, hn]; omega
        have ht : μ.take n = μ0 := by rw [he, ← hn]; simp
        have l := fz_take μ st hid H n
        refine P (μ.take n) H c d (k.take hle ho) ⟨by rw [ht]; exact .refl _, g.le.trans l, g.hid, g.lck⟩ ?_
        obtain ⟨C, h1, h2, h3⟩ := r
        refine ⟨C, h1, h2, ?_⟩
        rcases h3 with h3 | ⟨dx, vs, h3, h4, h5, h6⟩
        · exact .inl h3
        · exact .inr ⟨dx, vs, h3, h4, l.xd h5, fz0s_at l cell_take (fun i hi u v e r => fzc_at k _ i u v hi e r) _ _ _ e h6⟩
      · exact P.elim
    · exact P.elim
end

/-- a way to leave is sound -/
def LvOk (K : PySem.W.Frag) (mg : Str → Option Value) (lv : Nat → W → Sto → Out W) : Prop := ∀ (n : Nat) (hid μ0 μ : List Addr) (st0 st : Sto) (H0 H : Hp) (Wx : WX) (σ : L2.St) (Q : VK) (w : W) (v : V), μ0.length = n → Grow hid μ0 st0 H0 μ st H → StOk K mg μ st hid H → Rep K mg (Fz μ st hid H) μ w v → EPost K mg Wx hid μ0 st0 σ H0 Q (lv n w st) → Q v H
theorem lv_leave {K : PySem.W.Frag} {mg : Str → Option Value} : LvOk K mg leave := fun n hid μ0 μ st0 st H0 H Wx σ Q w v hn g k r P => leave_at hn g k r P
theorem lv_leaveA {K : PySem.W.Frag} {mg : Str → Option Value} : LvOk K mg leaveA := fun n hid μ0 μ st0 st H0 H Wx σ Q w v hn g k r P => P μ H v k g r
theorem lv_leaveC {K : PySem.W.Frag} {mg : Str → Option Value} : LvOk K mg leaveC := fun n hid μ0 μ st0 st H0 H Wx σ Q w v hn g k r P => by
  unfold leaveC at P
  split at P
  · rename_i j
    split at P
    · rename_i hj
      split at P
      · rename_i c e
        split at P
        · rename_i hc
          obtain ⟨lc, oc, ho⟩ := hc
          obtain ⟨e2, he⟩ := id g.pre
          have hle : n ≤ st.length := by rw [← k.len, he, List.length_append, hn]; omega
          have ht : μ.take n = μ0 := by rw [he, ← hn]; simp
          obtain ⟨a, e1, rfl⟩ := rep_cell_inv r
          have k1 := k.take hle ho
          have l := fz_take μ st hid H n
          have na : ¬ LiveA (μ.take n) (st.take n) hid a := fun z => by
            rcases z with z | ⟨i, d, h1, h2, h3⟩
            · exact k.hidn j a c e1 e lc z
            · have q := k.inj i j a d c (take_get h1).2 e1 (take_get h2).2 e h3 lc
              have := (take_get h1).1
              omega
          have lt : (μ.take n).length = n := by rw [ht]; exact hn
          have ls : (st.take n).length = n := by rw [List.length_take]; omega
          have spl : ∀ {m : Nat} {b : Addr} {d : Cel}, (μ.take n ++ [a])[m]? = some b → (st.take n ++ [c])[m]? = some d → (m < n ∧ μ[m]? = some b ∧ st[m]? = some d ∧ (μ.take n)[m]? = some b ∧ (st.take n)[m]? = some d) ∨ (m = n ∧ b = a ∧ d = c) := fun {m b d} h1 h2 => by
            by_cases z : m < n
            · rw [List.getElem?_append_left (by omega)] at h1 h2
              exact .inl ⟨z, (take_get h1).2, (take_get h2).2, h1, h2⟩
            · by_cases y : m = n
              · subst y
                rw [List.getElem?_append_right (by omega), lt] at h1
                rw [List.getElem?_append_right (by omega), ls] at h2
                simp at h1 h2
                exact .inr ⟨rfl, h1.symm, h2.symm⟩
              · rw [List.getElem?_append_right (by omega), ls, List.getElem?_eq_none (by simp; omega)] at h2
                cases h2
          have lv : ∀ b, LiveA (μ.take n ++ [a]) (st.take n ++ [c]) hid b → b = a ∨ LiveA (μ.take n) (st.take n) hid b := fun b z => by
            rcases z with z | ⟨i, d, h1, h2, h3⟩
            · exact .inr (.inl z)
            · rcases spl h1 h2 with ⟨y1, y2, y3, y4, y5⟩ | ⟨y1, y2, y3⟩
              · exact .inr (.inr ⟨i, d, y4, y5, h3⟩)
              · exact .inl y2
          have lf : ∀ b o, b ≠ a → Fz (μ.take n) (st.take n) hid H b = some o → Fz (μ.take n ++ [a]) (st.take n ++ [c]) hid H b = some o := fun b o hb q => by
            obtain ⟨q1, q2⟩ := Fz.sub q
            exact Fz.mk q1 fun z => (lv b z).elim hb q2
          -- from the whole state: a was live there, so nothing read leans on it
          have lw : Le (Fz μ st hid H) (Fz (μ.take n ++ [a]) (st.take n ++ [c]) hid H) := Le.of fun b o q => by
            obtain ⟨q1, q2⟩ := Fz.sub q
            exact Fz.mk q1 fun z => (lv b z).elim (fun y => q2 (y ▸ .inr ⟨j, c, e1, e, lc⟩)) fun y => q2 (live_take y)
          have cw : ∀ {F : Hp} (i : Nat), i < n → ∀ v, Rep K mg (Fz μ st hid H) μ (.cell i) v → Rep K mg F (μ.take n ++ [a]) (.cell i) v := fun i hi v r => by
            unfold Rep at r ⊢
            obtain ⟨b, h1, h2⟩ := r
            exact ⟨b, by rw [List.getElem?_append_left (by omega), List.getElem?_take, if_pos hi]; exact h1, h2⟩
          have go : ∀ {ws : List W} {vs : List V}, (fz0s n (fun _ => none) ws).isSome = true → Reps K mg (Fz μ st hid H) μ ws vs → Reps K mg (Fz (μ.take n ++ [a]) (st.take n ++ [c]) hid H) (μ.take n ++ [a]) ws vs := fun {ws vs} hs r => by
            cases q : fz0s n (fun _ => none) ws with
            | none => rw [q] at hs; cases hs
            | some us =>
              have z := fz0s_id ws us q
              subst z
              exact fz0s_at lw cw (fun _ _ _ _ z => by cases z) _ _ _ q r
          have cel : ∀ {m : Nat} {b : Addr} {d : Cel}, μ[m]? = some b → st[m]? = some d → oldW n d = true → CelOk K mg (Fz (μ.take n ++ [a]) (st.take n ++ [c]) hid H) (μ.take n ++ [a]) H b d := fun {m b d} h1 h2 old => by
            have q := k.ok m b d h1 h2
            cases d with
            | lst ws => obtain ⟨vs, e, r⟩ := q; exact ⟨vs, e, go old r⟩
            | dct ks ws => obtain ⟨vs, e, r⟩ := q; exact ⟨vs, e, go old r⟩
            | ins c ns ws => obtain ⟨C, dx, vs, g, l', e, r⟩ := q; exact ⟨C, dx, vs, g, l', e, go old r⟩
            | frz w =>
              have old' : (fz0 n (fun _ => none) w).isSome = true := old
              cases y : fz0 n (fun _ => none) w with
              | none => rw [y] at old'; cases old'
              | some u =>
                have z := fz0_id w u y
                subst z
                exact fz0_at lw cw (fun _ _ _ _ z => by cases z) _ _ _ y q
          have oldT : ∀ {m : Nat} {d : Cel}, (st.take n)[m]? = some d → oldW n d = true := fun h => List.all_eq_true.mp ho _ (List.mem_of_getElem? h)
          refine P (μ.take n ++ [a]) H _ ⟨by simp [lt, ls], fun i i2 b d d2 h1 h2 h3 h4 h5 h6 => ?_, fun i b d h1 h2 h3 => ?_, k.hidt, fun i b d h1 h2 => ?_⟩ ⟨by rw [ht]; exact ⟨[a], rfl⟩, g.le.trans lw, g.hid, g.lck⟩ ?_
          · rcases spl h1 h3 with ⟨y1, y2, y3, _, _⟩ | ⟨y1, y2, y3⟩ <;> rcases spl h2 h4 with ⟨z1, z2, z3, _, _⟩ | ⟨z1, z2, z3⟩
            · exact k.inj i i2 b d d2 y2 z2 y3 z3 h5 h6
            · subst z2 z3
              have := k.inj i j b d d2 y2 e1 y3 e h5 h6
              omega
            · subst y2 y3
              have := k.inj i2 j b d2 d z2 e1 z3 e h6 h5
              omega
            · omega
          · rcases spl h1 h2 with ⟨y1, y2, y3, _, _⟩ | ⟨y1, y2, y3⟩
            · exact k.hidn i b d y2 y3 h3
            · subst y2 y3; exact k.hidn j b d e1 e h3
          · rcases spl h1 h2 with ⟨y1, y2, y3, y4, y5⟩ | ⟨y1, y2, y3⟩
            · exact cel y2 y3 (oldT y5)
            · subst y2 y3; exact cel e1 e oc
          · unfold Rep
            exact ⟨a, by rw [List.getElem?_append_right (by omega), lt]; simp, rfl⟩
        · exact P.elim
      · exact P.elim
    · exact P.elim
  · exact P.elim

/-! ## a def keeps what its body says -/
theorem start_get {N : List Str} {vs : List V} {i : Nat} {v : V} (h : vs[i]? = some v) : (L2.start N vs)[i]? = some (some v) := by
  have hi : i < vs.length := by
    rcases Nat.lt_or_ge i vs.length with q | q
    · exact q
    · rw [List.getElem?_eq_none q] at h; cases h
  unfold L2.start
  rw [List.getElem?_append_left (by simpa using hi), List.getElem?_map, h]; rfl
theorem fn_okG {lv : Nat → W → Sto → Out W} {P : Program} {w : World} {K : PySem.W.Frag} {mg : Str → Option Value} {base : Heap} {x qual : Str} {st : Stmt} {f : Addr} {fd : FuncData} {N ps : List Str} {k m n : Nat} {b : SSem} (hlv : LvOk K mg lv) (F : Fun K x qual st f fd) (S : FnScope N ps (defScope st)) (hm : N.length = m := by rfl) (hn : ps.length = n := by rfl)
    (hb : ∀ (cdv : Value) (A : Around) (outer : List Env) (s : Shared) (H : Hp) (E : XK), Ctx (cxOf (L2.CX P w) P w K mg base N qual (defScope st) f cdv A outer s H E) (Wish.of fun c d _ H => E c d H) k → BV (cxOf (L2.CX P w) P w K mg base N qual (defScope st) f cdv A outer s H E) (Wish.of fun c d _ H => E c d H) (defBody st) b) :
    FnOk P w K mg base (L2.CX P w) (k + 1) f fd ps (spF K mg n (mkFnG lv m b)) := by
  refine F.okX S (fun vs H Q E h => ?_) (fun cdv A outer s H vs Q E hr h => ?_)
  · obtain ⟨_, _, _, _, h, _⟩ := h
    rw [h, hn]
  · refine ⟨_, hb cdv A outer s H E ⟨rfl, S.nd, hr, takes_of rfl rfl rfl rfl, passes_of (K := fun e s'' => L2.CX P w outer H s E e s'') rfl⟩, ?_⟩
    obtain ⟨hid, μ, st0, ws, hl, k0, r, P0⟩ := h
    have wl : ws.length = vs.length := r.length
    refine ⟨μ, st0, hid, ws.map some ++ List.replicate (m - ws.length) none, ⟨k0, ?_, fun i u hi => ?_, trivial⟩, ?_⟩
    · unfold L2.start
      simp only [List.length_append, List.length_map, List.length_replicate, wl, hm]
    · by_cases hlt : i < ws.length
      · rw [List.getElem?_append_left (by simpa using hlt), List.getElem?_map] at hi
        cases e : ws[i]? with
        | none => rw [e] at hi; cases hi
        | some u' =>
          rw [e] at hi
          cases hi
          obtain ⟨v, e1, e2⟩ := r.get e
          exact ⟨v, start_get e1, e2⟩
      · rw [List.getElem?_append_right (by simpa using hlt), List.getElem?_replicate] at hi
        split at hi <;> cases hi
    · unfold mkFnG at P0
      cases e : b (ws.map some ++ List.replicate (m - ws.length) none) st0 with
      | bad => rw [e] at P0; exact P0
      | bk f s => rw [e] at P0; exact P0.elim
      | ct f s => rw [e] at P0; exact P0.elim
      | nx f s =>
        rw [e] at P0
        exact fun μ' σ' H' S' g => leave_at k0.len g S'.sto rep_non P0
      | rt u s =>
        rw [e] at P0
        exact fun μ' H' v k' g r' => hlv _ _ _ _ _ _ _ _ _ _ _ _ _ k0.len g k' r' P0
      | er x f s =>
        rw [e] at P0
        exact fun μ' σ' H' c d S' g xr => leaveX_at k0.len g S'.sto xr P0
end SL

namespace SL
open PySem PySem.Spec PyProof.Rows L2

/-! ## a def of the text, by its name -/
structure FnIs (P : Program) (w : World) (K : PySem.W.Frag) (mg : Str → Option Value) (base : Heap) (x : Str) (k n : Nat) (F : Fn) : Prop where
  ex : ∃ (g : Addr) (fd : FuncData) (ps : List Str), FnOk P w K mg base (L2.CX P w) k g fd ps (spF K mg n F) ∧ mg x = some (.ref g) ∧ PySem.W.keepIn K (.ref g) = true ∧ Binds K fd ps []
section
variable {X : Cx} {Wx : Wish}
theorem ev_callI {k j n : Nat} {x : Str} {F : Fn} {e : Expr} {es : List Expr} {f : SemL} {p pos : Pos} (I : FnIs X.prog X.w X.K X.mg X.base x k n F) (C : Ctx X Wx j) (hk : k ≤ j) (ha : AV X Wx (e :: es) f) (ar : ArN n f) (hg : Gl X x := by rfl) (hdb : (x == ("__debug__" : Str)) = false := by decide)
    (he : starEach (e :: es) X.env = (false, eval e X.env) :: starEach es X.env := by rfl) (hpl : (backTo pos (starEach es X.env)).any (·.1) = false := by rfl) : EV X Wx (.Call (.Name x p) (e :: es) [] pos) (eCall F f) := by
  obtain ⟨g, fd, ps, h1, h2, h3, h4⟩ := I.ex
  exact ev_call h1 (C.room.mono hk) h2 h3 h4 C.tk ha ar hg hdb he hpl
theorem ev_call0 {k j : Nat} {x : Str} {F : Fn} {p pos : Pos} (I : FnIs X.prog X.w X.K X.mg X.base x k 0 F) (C : Ctx X Wx j) (hk : k ≤ j) (hg : Gl X x := by rfl) (hdb : (x == ("__debug__" : Str)) = false := by decide) : EV X Wx (.Call (.Name x p) [] [] pos) (eCall F aNil) := by
  obtain ⟨g, fd, ps, h1, h2, h3, h4⟩ := I.ex
  refine ⟨fun pins s σ H Q J hq => ?_⟩
  refine wpAny_Call_Name_kw (ld_glob J hg h2 ?_ hdb)
  exact PySem.W.callWith_K0 J.kIn h3 (run_fnS (us := []) (E := WE Wx.w) h1 (C.room.mono hk) h4 (passAt C.tk σ) J .nil (eCall_read (f := aNil) arN_nil σ H Q hq |> fun z => by
    obtain ⟨μ, st, hid, fr, S, P⟩ := z
    exact P μ H [] S.sto .refl .nil))
/-- a method of a built-in type -/
theorem ev_m {T id : String} {name : Str} {ty : Sto → W → Bool} {op : OpM} {r : V → List V → Hp → VK → Prop} {o e : Expr} {es : List Expr} {f : Sem} {g : SemL} {apos cpos : Pos} (pa : PlainAttrs T) (slot : Slot T name id) (hty : typeOf (.builtin id) = pure (.type "method_descriptor"))
    (ht : ∀ (hid μ : List Addr) (st : Sto) (H : Hp) (w : W) (v : V), StOk X.K X.mg μ st hid H → Rep X.K X.mg (Fz μ st hid H) μ w v → ty st w = true → tyV X.K T v H) (hm : MtR X id r) (hs : OpMS X op r) (ho : EV X Wx o f) (ha : AV X Wx (e :: es) g)
    (hbase : attributeBase o name X.env (eval o X.env) = eval o X.env := by rfl) (hline : (apos.endLine == cpos.line) = true := by rfl) (he : starEach (e :: es) X.env = (false, eval e X.env) :: starEach es X.env := by rfl) (hpl : (backTo cpos (starEach es X.env)).any (·.1) = false := by rfl)
    (hfew : ((backTo cpos (starEach (e :: es) X.env)).all (fun x => !x.1) && (backToKw cpos (keywordEach [] X.env)).all (fun x => x.1.isSome) && decide ((e :: es).length + ([] : List Keyword).length + (if ([] : List Keyword).isEmpty then 0 else 1) < 30)) = true := by rfl) :
    EV X Wx (.Call (.Attribute o name apos) (e :: es) [] cpos) (eM ty op f g) := PEm (pe_bm pa slot hty hm ho ha (hbase := hbase) (hline := hline) (hs := he) (hplain := hpl) (hfew := hfew)) (eM_read ht hs)
/-- {} -/
theorem ev_dict0 {pos : Pos} : EV X Wx (.Dict [] [] pos) (eC (.dct [] [])) := PEm pe_dnewK fun σ H Q ⟨μ, st, hid, fr, S, P⟩ => by
  intro d hd
  refine ok_new (o := .dK []) P S.sto hd fun F l e => ?_
  unfold Rep
  exact ⟨d, [], rfl, ⟨false, .inl [], rfl, rfl, .inl e, fun _ kk z => nomatch z⟩, .nil⟩
theorem lkS {K : PySem.W.Frag} {mg : Str → Option Value} {i j : Nat} {x : Exc} {a : Addr} {cls : Value} {d : Option Addr} (h : i ≠ j) (h2 : i ∉ Wx.lock) : i ∉ (Wx.suite K mg (some j) x a cls d).lock := fun z => by
  rcases List.mem_append.mp z with z | z
  · exact h (List.mem_singleton.mp z)
  · exact h2 z
theorem lkN {K : PySem.W.Frag} {mg : Str → Option Value} {i : Nat} {x : Exc} {a : Addr} {cls : Value} {d : Option Addr} (h2 : i ∉ Wx.lock) : i ∉ (Wx.suite K mg none x a cls d).lock := h2
end
/-- the body's own context -/
theorem fn_is {lv : Nat → W → Sto → Out W} {P : Program} {w : World} {K : PySem.W.Frag} {mg : Str → Option Value} {base : Heap} {x qual : Str} {st : Stmt} {f : Addr} {fd : FuncData} {N ps : List Str} {k m n : Nat} {b : SSem} (hlv : LvOk K mg lv) (F : Fun K x qual st f fd) (hx : mg x = some (.ref f)) (hB : Binds K fd ps []) (S : FnScope N ps (defScope st))
    (hb : ∀ (cdv : Value) (A : Around) (outer : List Env) (s : Shared) (H : Hp) (E : XK), Ctx (cxOf (L2.CX P w) P w K mg base N qual (defScope st) f cdv A outer s H E) (Wish.of fun c d _ H => E c d H) k → BV (cxOf (L2.CX P w) P w K mg base N qual (defScope st) f cdv A outer s H E) (Wish.of fun c d _ H => E c d H) (defBody st) b)
    (hm : N.length = m := by rfl) (hn : ps.length = n := by rfl) : FnIs P w K mg base x (k + 1) n (mkFnG lv m b) :=
  ⟨f, fd, ps, fn_okG hlv F S hm hn hb, hx, F.kp, hB⟩
end SL

namespace SL
open PySem PySem.Spec PyProof.Rows L2
section
variable {X : Cx} {Wx : Wish}
theorem ev_blk {k : Nat} {s : Shared} {H : Hp} {scope : Scope} {cenv : Env} {fp : List Addr} {elt : Expr} {e : Sem} (C : Ctx X Wx k) (h : Ctx (X.blk s H scope cenv fp) Wx.blk k → EV (X.blk s H scope cenv fp) Wx.blk elt e) : EV (X.blk s H scope cenv fp) Wx.blk elt e := h (C.blk ..)
theorem pt_blk {k : Nat} {s : Shared} {H : Hp} {scope : Scope} {cenv : Env} {fp : List Addr} {ifs : List Expr} {t : TT} (C : Ctx X Wx k) (h : Ctx (X.blk s H scope cenv fp) Wx.blk k → PTs (X.blk s H scope cenv fp) ifs t) : PTs (X.blk s H scope cenv fp) ifs t := h (C.blk ..)
theorem bv_bad {ss : List Stmt} : BV X Wx ss (fun _ _ => .bad) := ⟨fun pins s σ H D I h => by
  obtain ⟨μ, st, hid, fr, S, P⟩ := h
  exact False.elim P⟩
theorem ev_gI {x : Str} {i : Int} {pos : Pos} (hm : ∃ t, X.mg x = some (.int i t)) (hg : Gl X x := by rfl) (hd : (x == ("__debug__" : Str)) = false := by decide) : EV X Wx (.Name x pos) (eC (.int i)) := by
  obtain ⟨t, h⟩ := hm
  exact ev_globI h hg hd
theorem ev_gS {x : Str} {i : Str} {pos : Pos} (hm : ∃ t, X.mg x = some (.str i t)) (hg : Gl X x := by rfl) (hd : (x == ("__debug__" : Str)) = false := by decide) : EV X Wx (.Name x pos) (eC (.str i)) := by
  obtain ⟨t, h⟩ := hm
  exact ev_globS h hg hd
end
theorem cx_no {P : Program} (w : World) (H : Hp) (s : Shared) (e : Value) (s' : Shared) (z : L2.CX P w [] H s (fun _ _ _ => False) e s') : False := by
  obtain ⟨_, _, _, _, _, _, _, _, _, _, _, _, z⟩ := z
  exact z
theorem ro_reps {K : PySem.W.Frag} {mg : Str → Option Value} {F : Hp} {μ : List Addr} : ∀ ns : List Int, Reps K mg F μ (ns.map W.int) (ns.map V.int)
  | [] => .nil
  | n :: r => .cons rep_int (ro_reps r)
theorem fz_nil {H : Hp} : Fz [] [] [] H = H := by
  funext a
  unfold Fz
  rw [if_neg]
  rintro (h | ⟨k, c, h, _⟩)
  · cases h
  · cases h
theorem spF_of {K : PySem.W.Frag} {mg : Str → Option Value} {F : Fn} {a : Addr} {ns : List Int} {H : Hp} {Q : VK} {E : XK} {st : Sto} (hS : SqL K H a (ns.map V.int)) (e : F [.ro (ns.map W.int)] [] = .ok (.bl true) st) (hq : ∀ H', Q (.bl true) H') : spF K mg 1 F [.ref a] H Q E := by
  refine ⟨[], [], [], [.ro (ns.map W.int)], rfl, ⟨rfl, fun i j a c d h => (nomatch h), fun i a c h => (nomatch h), fun a h => (nomatch h), fun i a c h => (nomatch h)⟩, .cons ?_ .nil, ?_⟩
  · unfold Rep
    exact ⟨a, _, rfl, by rw [fz_nil]; exact hS, ro_reps ns⟩
  · rw [e]
    intro μ' H' v k g r
    cases rep_bl_inv r
    exact hq H'
end SL

namespace SL
open PySem PySem.Spec PyProof.Rows L2
/-! ## instances of own classes -/
def insW (st : Sto) : W → Option (Str × List Str × List W)
  | .ins c ns ws => some (c, ns, ws)
  | .cell k => match st[k]? with
    | some (.ins c ns ws) => some (c, ns, ws)
    | some (.frz (.ins c ns ws)) => some (c, ns, ws)
    | _ => none
  | _ => none
theorem rep_ins_inv {K : PySem.W.Frag} {mg : Str → Option Value} {F : Hp} {μ : List Addr} {c : Str} {ns : List Str} {ws : List W} {v : V} (h : Rep K mg F μ (.ins c ns ws) v) : ∃ a C dx vs, v = .ref a ∧ mg c = some (.ref C) ∧ ns.length = vs.length ∧ F a = some (.ins C dx (ns.zip vs)) ∧ Reps K mg F μ ws vs := by
  unfold Rep at h; exact h
theorem insW_at {K : PySem.W.Frag} {mg : Str → Option Value} {μ : List Addr} {st : Sto} {hid : List Addr} {H : Hp} (s : StOk K mg μ st hid H) {w : W} {c : Str} {ns : List Str} {ws : List W} {v : V} (h : insW st w = some (c, ns, ws)) (r : Rep K mg (Fz μ st hid H) μ w v) :
    ∃ a C dx vs, v = .ref a ∧ mg c = some (.ref C) ∧ ns.length = vs.length ∧ H a = some (.ins C dx (ns.zip vs)) ∧ Reps K mg (Fz μ st hid H) μ ws vs := by
  cases w with
  | ins c' ns' ws' =>
    unfold insW at h; cases h
    obtain ⟨a, C, dx, vs, h1, h2, h3, h4, h5⟩ := rep_ins_inv r
    exact ⟨a, C, dx, vs, h1, h2, h3, (Fz.sub h4).1, h5⟩
  | cell k =>
    unfold insW at h
    simp only at h
    split at h
    · rename_i c' ns' ws' e
      cases h
      obtain ⟨a, e1, e2, C, dx, vs, h1, h2, h3, h4⟩ := s.cell e r
      exact ⟨a, C, dx, vs, e1, h1, h2, h3, h4⟩
    · rename_i c' ns' ws' e
      cases h
      obtain ⟨a, e1, e2, h1⟩ := s.cell e r
      obtain ⟨b, C, dx, vs, e3, h1, h2, h3, h4⟩ := rep_ins_inv h1
      cases e3
      exact ⟨a, C, dx, vs, e1, h1, h2, (Fz.sub h3).1, h4⟩
    · cases h
  | _ => cases h
def FldOk (K : PySem.W.Frag) (mg : Str → Option Value) (cs : List Str) (f : Str) : Prop := ∀ c ∈ cs, ∀ C, mg c = some (.ref C) → Cls K C ∧ NoAttr K C f
theorem fldNil {K : PySem.W.Frag} {mg : Str → Option Value} {f : Str} : FldOk K mg [] f := fun c h => (nomatch h)
theorem fldCons {K : PySem.W.Frag} {mg : Str → Option Value} {c f : Str} {cs : List Str} {C : Addr} (hm : mg c = some (.ref C)) (h : Cls K C) (n : PySem.W.findIn K (.ref C) f = some none) (t : FldOk K mg cs f) : FldOk K mg (c :: cs) f := fun d hd D hD => by
  rcases List.mem_cons.mp hd with rfl | hd
  · rw [hm] at hD; cases hD; exact ⟨h, n⟩
  · exact t d hd D hD
/-- e.n -/
def eFld (cs : List Str) (n : Str) (f : Sem) : Sem := fun fr st => (f fr st).bind fun w st1 => match insW st1 w with
  | some (c, ns, ws) => if cs.contains c = true then (match lkp ns ws n with
    | some u => .ok u st1
    | none => .bad) else .bad
  | none => .bad
def putNs (n : Str) : List Str → List Str
  | [] => [n]
  | m :: r => if m = n then m :: r else m :: putNs n r
def putL {α : Type} (n : Str) (a : α) : List Str → List α → List α
  | [], _ => [a]
  | m :: r, u :: us => if m = n then a :: us else u :: putL n a r us
  | _ :: _, [] => [a]
theorem put_zip {n : Str} {v : V} : ∀ {ns : List Str} {vs : List V}, ns.length = vs.length → putF n v (ns.zip vs) = (putNs n ns).zip (putL n v ns vs) ∧ (putNs n ns).length = (putL n v ns vs).length
  | [], [], _ => ⟨rfl, rfl⟩
  | m :: ns, [], h => by simp at h
  | [], v :: vs, h => by simp at h
  | m :: ns, u :: vs, h => by
    obtain ⟨h1, h2⟩ := put_zip (n := n) (v := v) (ns := ns) (vs := vs) (by simpa using h)
    have hl : ns.length = vs.length := by simpa using h
    unfold putNs putL
    rw [List.zip_cons_cons, putF]
    by_cases e : m = n
    · rw [if_pos e, if_pos e, if_pos e]
      exact ⟨rfl, by simpa using h⟩
    · rw [if_neg e, if_neg e, if_neg e, h1]
      exact ⟨rfl, by simpa using h2⟩
theorem put_reps {K : PySem.W.Frag} {mg : Str → Option Value} {F : Hp} {μ : List Addr} {n : Str} {w : W} {v : V} (rw_ : Rep K mg F μ w v) : ∀ {ns : List Str} {ws : List W} {vs : List V}, Reps K mg F μ ws vs → ns.length = vs.length → Reps K mg F μ (putL n w ns ws) (putL n v ns vs)
  | [], ws, vs, r, h => by
    cases vs with
    | nil => cases ws <;> exact .cons rw_ .nil
    | cons => simp at h
  | m :: ns, [], vs, r, h => by rw [Reps.nil_iff] at r; subst r; simp at h
  | m :: ns, u :: ws, vs, r, h => by
    obtain ⟨x, t, rfl, h1, h2⟩ := r.cons_inv
    unfold putL
    by_cases e : m = n
    · rw [if_pos e, if_pos e]; exact .cons rw_ h2
    · rw [if_neg e, if_neg e]; exact .cons h1 (put_reps rw_ h2 (by simpa using h))
/-- o.n = e, o under construction -/
def sFldS (cs : List Str) (n : Str) (e o : Sem) : SSem := fun fr st => (e fr st).stm fr fun w st1 => (o fr st1).stm fr fun x st2 => match x with
  | .cell k => match st2[k]? with
    | some (.ins c ns ws) => if cs.contains c = true ∧ ns.length < 1000 then .nx fr (st2.set k (.ins c (putNs n ns) (putL n w ns ws))) else .bad
    | _ => .bad
  | _ => .bad
section
variable {X : Cx} {Wx : Wish}
theorem ev_fld {cs : List Str} {n : Str} {e : Expr} {f : Sem} {pos : Pos} (T : FldOk X.K X.mg cs n) (he : EV X Wx e f) (hb : attributeBase e n X.env (eval e X.env) = eval e X.env := by rfl) : EV X Wx (.Attribute e n pos) (eFld cs n f) := PEm (pe_fld he hb) fun σ H Q ⟨μ, st, hid, fr, S, P⟩ => by
  refine ⟨μ, st, hid, fr, S, ?_⟩
  unfold eFld at P
  cases h : f fr st with
  | bad => rw [h] at P; exact P
  | err x s => rw [h] at P; exact P
  | ok w st1 =>
    rw [h, Out.bind_ok] at P
    intro μ1 H1 v k1 g1 r1
    have P1 := EPost.from g1 P
    split at P1
    · rename_i c ns ws e
      split at P1
      · rename_i hc
        obtain ⟨a, C, dx, vs, rfl, hm, hl, ha, rr⟩ := insW_at k1 e r1
        obtain ⟨cl, no⟩ := T c (by simpa using hc) C hm
        split at P1
        · rename_i u eu
          obtain ⟨y, ey, ry⟩ := lkp_at eu rr
          exact ⟨a, C, dx, _, y, rfl, ha, cl, no, ey, P1 μ1 H1 y k1 .refl ry⟩
        · exact P1.elim
      · exact P1.elim
    · exact P1.elim
theorem sv_fld {cs : List Str} {n : Str} {o e : Expr} {fo fe : Sem} {pos pos' : Pos} (T : FldOk X.K X.mg cs n) (he : EV X Wx e fe) (ho : EV X Wx o fo) (hs : swapsWith e (some (.Attribute o n pos')) pos.line X.env = pure false := by rfl) :
    SV X Wx (.Assign [.Attribute o n pos'] e pos) (sFldS cs n fe fo) := PSm (ps_fld ho he hs) fun D σ H ⟨μ, st, hid, fr, S, P⟩ => by
  refine stm_read (t := id) S P fun w st1 μ1 H1 v S1 g1 r1 P1 => ?_
  refine stm_read (t := id) S1 P1 fun x st2 μ2 H2 ov S2 g2 r2 P2 => ?_
  split at P2
  · rename_i k
    split at P2
    · rename_i c ns ws ek
      split at P2
      · rename_i hc
        obtain ⟨a, rfl, h1, C, dx, vs, hm, hl, ha, rr⟩ := S2.sto.cell ek r2
        obtain ⟨cl, no⟩ := T c (by simpa using hc.1) C hm
        obtain ⟨z1, z2⟩ := put_zip (n := n) (v := v) hl
        refine ⟨a, C, dx, _, rfl, ha, cl, no, by rw [List.length_zip, ← hl, Nat.min_self]; exact hc.2, ?_⟩
        obtain ⟨k2, g3⟩ := S2.sto.setCell (c' := .ins c (putNs n ns) (putL n w ns ws)) (o := .ins C dx (putF n v (ns.zip vs))) h1 ek rfl rfl ⟨C, dx, putL n v ns vs, hm, z2, by rw [upd_same, z1], put_reps (Rep.mono g2.le g2.pre _ _ r1) rr hl⟩
        exact P2 μ2 σ _ (S2.next k2 g3) g3
      · exact P2.elim
    · exact P2.elim
  · exact P2.elim
end
/-! ## making -/
structure MkIs (P : Program) (w : World) (K : PySem.W.Frag) (mg : Str → Option Value) (base : Heap) (c : Str) (k n : Nat) (F : Fn) : Prop where
  ex : ∃ (C g : Addr) (fd : FuncData) (ps : List Str), Mk K C g ∧ FnOk P w K mg base (L2.CX P w) k g fd ps (spF K mg (n + 1) F) ∧ mg c = some (.ref C) ∧ Binds K fd ps []
def eMakeG (lv : Nat → W → Sto → Out W) (c : Str) (F : Fn) (f : SemL) : Sem := fun fr st => (f fr st).bind fun ws st1 => match F (.cell st1.length :: ws) (st1 ++ [.ins c [] []]) with
  | .ok .non st2 => lv st1.length (.cell st1.length) st2
  | .err x st2 => leaveX st1.length x st2
  | _ => .bad
abbrev eMake (c : Str) (F : Fn) (f : SemL) : Sem := eMakeG leave c F f
/-- the wish at one state -/
def tMakeS (C : Addr) (sp : Sp) (E : L2.St → XK) (t : TA) : TE := fun σ H Q => t σ H fun us H1 => ∀ x dx, H1 x = none → H1 dx = none → dx ≠ x → sp (V.ref x :: us) (upd (upd H1 dx (.own x)) x (.ins C dx [])) (fun v H2 => v = .non ∧ Q (.ref x) H2) (E σ)
section
variable {X : Cx} {Wx : Wish}
theorem make_run {k : Nat} {C g : Addr} {fd : FuncData} {ps : List Str} {sp : Sp} {E : XK} {pins : List (Addr × Obj)} {σ : L2.St} {H : Hp} {s : Shared} {Q : VK} {us : List Value} {vs : List V} (M : Mk X.K C g) (G : FnOk X.prog X.w X.K X.mg X.base (L2.CX X.prog X.w) k g fd ps sp) (hr : Room (k + 1) X.A) (B : Binds X.K fd ps [])
    (hx : PassesAt (L2.CX X.prog X.w) X σ E) (J : Inv X pins σ H s) (r : Vals vs us) (hq : ∀ x dx, H x = none → H dx = none → dx ≠ x → sp (V.ref x :: vs) (upd (upd H dx (.own x)) x (.ins C dx [])) (fun v H2 => v = .non ∧ Q (.ref x) H2) E) :
    wpAny (model X.prog X.w) X.A (call (.ref C) us) (EP X pins σ Q) X.xe s := by
  have q1 := hq (s.heap.objs.size + 1) s.heap.objs.size (J.hok.fresh (Nat.le_succ _)) (J.hok.fresh (Nat.le_refl _)) (Nat.ne_of_lt (Nat.lt_succ_self _))
  have J2 := Inv.made (C := C) J
  have rr : Vals (V.ref (s.heap.objs.size + 1) :: vs) (Value.ref (s.heap.objs.size + 1) :: us) := .cons rfl r
  have ll : (Value.ref (s.heap.objs.size + 1) :: us).length = ps.length := by
    have z := rr.length
    rw [G.len _ _ _ _ q1] at z
    exact z.symm
  have bb := B { s with heap := (s.heap.push PySem.W.emptyDict).push (PySem.W.instObj C s.heap.objs.size) } (Value.ref (s.heap.objs.size + 1) :: us) J2.kIn (by rw [List.append_nil]; exact ll)
  rw [List.append_nil] at bb
  refine wpAny_call (make_map (f := g) J.kIn M.makes M.init (beq_iff_eq.mp M.fn) (codeAny_mono (G.run _ X.stack _ _ ⟨Value.ref (s.heap.objs.size + 1) :: us, []⟩ (Value.ref (s.heap.objs.size + 1) :: us) _ _ E (hr.make C us [])
    (J2.env0.make C us []) bb rr q1) fun o s' z => ?_))
  cases o with
  | error e => exact hx pins _ _ e s' J2 z
  | ok fl =>
    cases fl with
    | ret u =>
      obtain ⟨v, H', J3, rv, ev, q3⟩ := J2.after z
      subst ev
      exact ⟨rv, ⟨V.ref (s.heap.objs.size + 1), H', J3, rfl, q3⟩⟩
    | next => exact False.elim z
    | brk => exact False.elim z
    | cont => exact False.elim z
theorem pe_makeS {k : Nat} {C g : Addr} {fd : FuncData} {ps : List Str} {sp : Sp} {E : L2.St → XK} {t : TA} {c : Str} {e : Expr} {es : List Expr} {p pos : Pos} (M : Mk X.K C g) (G : FnOk X.prog X.w X.K X.mg X.base (L2.CX X.prog X.w) k g fd ps sp) (hr : Room (k + 1) X.A) (B : Binds X.K fd ps []) (hm : X.mg c = some (.ref C)) (hx : ∀ σ, PassesAt (L2.CX X.prog X.w) X σ (E σ)) (ha : PA X (e :: es) t) (hg : Gl X c)
    (hdb : (c == ("__debug__" : Str)) = false) (he : starEach (e :: es) X.env = (false, eval e X.env) :: starEach es X.env) (hpl : (backTo pos (starEach es X.env)).any (·.1) = false) : PE X (.Call (.Name c p) (e :: es) [] pos) (tMakeS C sp E t) := ⟨fun pins s σ H Q J hq =>
  wpAny_Call_Name_kw (ld_glob J hg hm (PySem.W.callWith_K (h₀ := X.base) J.ok.mod.kin M.kp (thn (ha.run pos pins s σ H _ J hq) fun us s1 ⟨vs, H1, J1, r, q⟩ => ⟨J1.kIn, make_run M G hr B (hx σ) J1 r q⟩) he hpl) hdb)⟩
theorem make_read {lv : Nat → W → Sto → Out W} (hlv : LvOk X.K X.mg lv) {n : Nat} {c : Str} {C : Addr} {F : Fn} {f : SemL} (hm : X.mg c = some (.ref C)) (ar : ArN n f) : ∀ σ H Q, tE X.K X.mg Wx (eMakeG lv c F f) σ H Q → tMakeS C (spF X.K X.mg (n + 1) F) (WE Wx.w) (tA X.K X.mg Wx f) σ H Q := fun σ H Q ⟨μ, st, hid, fr, S, P⟩ => by
  refine ⟨μ, st, hid, fr, S, ?_⟩
  unfold eMakeG at P
  cases h : f fr st with
  | bad => rw [h] at P; exact P
  | err x s => rw [h] at P; exact P
  | ok ws st1 =>
    rw [h, Out.bind_ok] at P
    intro μ1 H1 vs k1 g1 r1 x dx nx nd ne
    have P1 := EPost.from g1 P
    obtain ⟨k2, g2, _⟩ := k1.laid (o := .own x) nd
    obtain ⟨k3, g3⟩ := k2.newCell (c := .ins c [] []) (p := x) (o := .ins C dx []) (by rw [upd_ne (Ne.symm ne)]; exact nx) rfl ⟨C, dx, [], hm, rfl, upd_same, .nil⟩
    have g4 := g2.trans g3
    refine ⟨hid, μ1 ++ [x], st1 ++ [.ins c [] []], .cell st1.length :: ws, by rw [List.length_cons, ← r1.length, ar _ _ _ _ h], k3, .cons ?_ (r1.mono g4.le g4.pre), ?_⟩
    · unfold Rep
      exact ⟨x, by rw [← k1.len]; simp, rfl⟩
    · cases e : F (.cell st1.length :: ws) (st1 ++ [.ins c [] []]) with
      | bad => rw [e] at P1; exact P1
      | err y st2 =>
        rw [e] at P1
        exact fun μ' H' c d k' g' xr => leaveX_at k1.len (g4.trans g') k' xr P1
      | ok u st2 =>
        rw [e] at P1
        intro μ' H' v k' g' rv
        cases u with
        | non =>
          refine ⟨rep_non_inv rv, ?_⟩
          refine hlv st1.length hid μ1 μ' st1 st2 H1 H' Wx.w σ Q (.cell st1.length) (.ref x) k1.len (g4.trans g') k' ?_ P1
          unfold Rep
          exact ⟨x, g'.pre.get (by rw [← k1.len]; simp), rfl⟩
        | _ => exact P1.elim
theorem ev_makeG {lv : Nat → W → Sto → Out W} (hlv : LvOk X.K X.mg lv) {k j n : Nat} {c : Str} {F : Fn} {f : SemL} {e : Expr} {es : List Expr} {p pos : Pos} (I : MkIs X.prog X.w X.K X.mg X.base c k n F) (C : Ctx X Wx j) (hk : k + 1 ≤ j) (ha : AV X Wx (e :: es) f) (ar : ArN n f) (hg : Gl X c := by rfl) (hdb : (c == ("__debug__" : Str)) = false := by decide)
    (he : starEach (e :: es) X.env = (false, eval e X.env) :: starEach es X.env := by rfl) (hpl : (backTo pos (starEach es X.env)).any (·.1) = false := by rfl) : EV X Wx (.Call (.Name c p) (e :: es) [] pos) (eMakeG lv c F f) := by
  obtain ⟨A, g, fd, ps, M, G, hm, B⟩ := I.ex
  exact PEm (pe_makeS M G (C.room.mono hk) B hm (fun σ => passAt C.tk σ) ha hg hdb he hpl) (make_read hlv hm ar)
end
end SL

namespace SL
open PySem PySem.Spec PyProof.Rows L2
/-! ## own classes: isinstance, == -/
structure ClsC (K : PySem.W.Frag) (C : Addr) : Prop where
  cl : Cls K C
  ha : PySem.W.findIn K (.ref C) "__class__" = some (some (.builtin "object.__class__"))
  hn : PySem.W.specialIn K (.builtin "object.__class__") "__get__" = some (some (.builtin "getset_descriptor.__get__"))
  htk : PySem.W.takesIn K (.builtin "object.__class__") = some true
  hm : PySem.W.mroIn K C (.type "object") = some true
  ic : PySem.W.isClsIn K C = true
  ty : PySem.W.typeIn K (.ref C) = some (.type "type")
def mroNo (t : String) : Bool := match fastBuiltinMro t with
  | some l => l.all fun v => match v with
    | .type _ => true
    | _ => false
  | none => false
theorem sub_no {K : PySem.W.Frag} {C : Addr} {t : String} (h : mroNo t = true) : PySem.W.subIn K (.type t) (.ref C) = some false := by
  show (fastBuiltinMro t).map (·.contains (.ref C)) = some false
  unfold mroNo at h
  cases e : fastBuiltinMro t with
  | none => rw [e] at h; cases h
  | some l =>
    rw [e] at h
    show some (l.contains (Value.ref C)) = some false
    congr 1
    have h' : (l.all fun v => match v with | .type _ => true | _ => false) = true := h
    clear e h
    induction l with
    | nil => rfl
    | cons a l ih =>
      rw [List.all_cons, Bool.and_eq_true] at h'
      rw [List.contains_cons, ih h'.2]
      cases a <;> first | rfl | (exact absurd h'.1 (by simp))
theorem kit_no {K : PySem.W.Frag} {C : Addr} (T : ClsC K C) {t : String} (ht : tyN t = true) : PySem.W.kitOne K (.type t) (.ref C) = some false := by
  have h : mroNo t = true := by
    simp only [tyN, Bool.or_eq_true, beq_iff_eq] at ht
    rcases ht with (((((rfl | rfl) | rfl) | rfl) | rfl) | rfl) | rfl <;> decide +kernel
  have e1 : ((PySem.W.clsIn K C).isSome && PySem.W.typeIn K (.ref C) == some (.type "type")) = true := by
    have z : (PySem.W.clsIn K C).isSome = true := T.ic
    rw [z, T.ty]; rfl
  show (if (Value.type t == Value.ref C) = true then some true else (if ((PySem.W.clsIn K C).isSome && PySem.W.typeIn K (.ref C) == some (.type "type")) = true then PySem.W.subIn K (.type t) (.ref C) else none)) = some false
  rw [if_pos e1, sub_no h]
  rfl
theorem kit_self {K : PySem.W.Frag} {C : Addr} : PySem.W.kitOne K (.ref C) (.ref C) = some true := by
  unfold PySem.W.kitOne
  rw [if_pos (by simp)]
/-- isinstance(x, c) -/
def oIsC (c : Str) : OpN := fun ws st => match ws with
  | [x, .cls d] => if d = c then (match insW st x with
    | some (e, _, _) => if e = c then .ok (.bl true) st else .bad
    | none => match tyW st x with
      | some t => if tyN t = true then .ok (.bl false) st else .bad
      | none => .bad) else .bad
  | _ => .bad
section
variable {X : Cx} {Wx : Wish}
theorem ev_cls {c : Str} {C : Addr} {pos : Pos} (hm : X.mg c = some (.ref C)) (hg : Gl X c := by rfl) (hd : (c == ("__debug__" : Str)) = false := by decide) : EV X Wx (.Name c pos) (eC (.cls c)) :=
  ev_c (v := .ref C) (pe_glob hg hm rfl hd) fun F μ => by unfold Rep; exact ⟨C, hm, rfl⟩
theorem os_isC {c : Str} {C : Addr} (hm : X.mg c = some (.ref C)) (T : ClsC X.K C) : OpNS X (oIsC c) (rIsi X.K) := by
  intro Wx hid μ st σ H Q ws vs k r P
  unfold oIsC at P
  split at P
  · rename_i x d
    obtain ⟨v, z, rfl, r1, r2⟩ := reps2 r
    split at P
    · rename_i hd
      subst hd
      obtain ⟨C', h1, rfl⟩ := rep_cls_inv r2
      rw [hm] at h1
      cases h1
      split at P
      · rename_i e n w hi
        split at P
        · rename_i he
          subst he
          obtain ⟨a, D, dx, us, rfl, g1, g2, g3, g4⟩ := insW_at k hi r1
          rw [hm] at g1
          cases g1
          exact ⟨.ref a, .ref C, .ref C, .ref C, true, rfl, .own C, .base (.ins g3 T.cl T.ha T.hn T.htk T.hm), kit_self, P μ H _ k .refl rep_bl⟩
        · exact P.elim
      · split at P
        · rename_i t ht
          split at P
          · rename_i hn
            exact ⟨v, .ref C, .type t, .ref C, false, rfl, .own C, tyW_at k ht r1, kit_no T hn, P μ H _ k .refl rep_bl⟩
          · exact P.elim
        · exact P.elim
    · exact P.elim
  · exact P.elim
/-! ### == by an own __eq__ -/
structure EqIs (P : Program) (w : World) (K : PySem.W.Frag) (mg : Str → Option Value) (base : Heap) (c : Str) (k : Nat) (F : Fn) : Prop where
  ex : ∃ (C g : Addr) (fd : FuncData) (ps : List Str), mg c = some (.ref C) ∧ FnOk P w K mg base (L2.CX P w) k g fd ps (spF K mg 2 F) ∧ PySem.W.findIn K (.ref C) "__eq__" = some (some (.ref g)) ∧ PySem.W.isFn K (.ref g) = true ∧ Binds K fd ps []
/-- both of the class c, or both data -/
def oEqO (c : Str) (F : Fn) : Op2 := fun x y st => match insW st x, insW st y with
  | some (d, _, _), some (e, _, _) => if d = c ∧ e = c then (match F [x, y] st with
    | .ok (.bl b) st1 => .ok (.bl b) st1
    | _ => .bad) else .bad
  | none, none => oEq x y st
  | _, _ => .bad
def rOwn (K : PySem.W.Frag) (mg : Str → Option Value) (C : Addr) (F : Fn) : R2 := fun x y H Q => ∃ a b dx dy fs gs, x = .ref a ∧ y = .ref b ∧ H a = some (.ins C dx fs) ∧ H b = some (.ins C dy gs) ∧ spF K mg 2 F [x, y] H (fun v H2 => (∃ t, v = .bl t) ∧ Q v H2) fun _ _ _ => False
theorem op_own {k : Nat} {C g : Addr} {fd : FuncData} {ps : List Str} {F : Fn} (G : FnOk X.prog X.w X.K X.mg X.base (L2.CX X.prog X.w) k g fd ps (spF X.K X.mg 2 F)) (he : PySem.W.findIn X.K (.ref C) "__eq__" = some (some (.ref g))) (hf : PySem.W.isFn X.K (.ref g) = true) (B : Binds X.K fd ps []) (hr : Room k X.A) :
    OpR X (compareOp .Eq) (rOwn X.K X.mg C F) := by
  intro pins s σ H x y v u Q J rx ry hq
  obtain ⟨a, b, dx, dy, fs, gs, rfl, rfl, h1, h2, q⟩ := hq
  cases rx
  cases ry
  show wpAny (model X.prog X.w) X.A (richCompare .Eq (.ref a) (.ref b)) (EP X pins σ Q) X.xe s
  obtain ⟨mA, i1, _⟩ := ins_get J.hok h1
  obtain ⟨mB, i2, _⟩ := ins_get J.hok h2
  obtain ⟨oa, i1, _⟩ := i1.look
  obtain ⟨ob, i2, _⟩ := i2.look
  obtain ⟨m, hF⟩ := J.fr
  refine PySem.W.cmp_K (op := .Eq) (tb := .ref C) hr.units0 hF J.ok.mod.kin i1 i2.type (by simp [PySem.W.notFirst]) he hf ?_
  have ll := G.len _ _ _ _ q
  have rr : Vals [V.ref a, V.ref b] [Value.ref a, Value.ref b] := .cons rfl (.cons rfl .nil)
  have bb := B s [.ref a, .ref b] J.kIn (by rw [List.append_nil]; exact ll)
  rw [List.append_nil] at bb
  refine wpAny_call (codeAny_mono (G.run X.A X.stack s H ⟨[.ref a, .ref b], []⟩ [.ref a, .ref b] [.ref a, .ref b] _ _ hr J.env0 bb rr q) fun o s' z => ?_)
  cases o with
  | error e =>
    obtain ⟨_, _, _, _, _, _, _, _, _, _, _, _, z⟩ := z
    exact z.elim
  | ok fl =>
    cases fl with
    | ret w =>
      obtain ⟨t, H', J', rz, ⟨b, ez⟩, ex⟩ := J.after z
      subst ez
      cases rz
      exact ⟨.bl b, H', J', rfl, ex⟩
    | next => exact False.elim z
    | brk => exact False.elim z
    | cont => exact False.elim z
def rEqAllO (K : PySem.W.Frag) (mg : Str → Option Value) (C : Addr) (F : Fn) (r : R2) : R2 := fun x y H Q => r x y H Q ∨ rOwn K mg C F x y H Q
theorem ev_eqO {k j : Nat} {c : Str} {F : Fn} {a b : Expr} {f g : Sem} {pos : Pos} (I : EqIs X.prog X.w X.K X.mg X.base c k F) (C : Ctx X Wx j) (hk : k ≤ j) (ha : EV X Wx a f) (hb : EV X Wx b g) (hmk : behindInMarks .Eq b = false) : EV X Wx (.Compare a [.Eq] [b] pos) (e2 (oEqO c F) f g) := by
  obtain ⟨A, ad, fd, ps, hm, G, he, hf, B⟩ := I.ex
  refine ev_cmp ((op_eqD C.room.units).or (op_own G he hf B (C.room.mono hk))) ?_ ha hb hmk
  intro Wx' hid μ st σ H Q w u x y k1 rx ry P
  unfold oEqO at P
  split at P
  · rename_i d n1 w1 e n2 w2 h1 h2
    split at P
    · rename_i hde
      obtain ⟨rfl, rfl⟩ := hde
      obtain ⟨p, D, dx, us, rfl, g1, g2, g3, g4⟩ := insW_at k1 h1 rx
      obtain ⟨q, D', dy, us', rfl, g1', g2', g3', g4'⟩ := insW_at k1 h2 ry
      rw [hm] at g1 g1'
      cases g1
      cases g1'
      refine .inr ⟨p, q, dx, dy, _, _, rfl, rfl, g3, g3', hid, μ, st, [w, u], rfl, k1, .cons rx (.cons ry .nil), ?_⟩
      cases z : F [w, u] st with
      | bad => rw [z] at P; exact P.elim
      | err e s => rw [z] at P; exact P.elim
      | ok r st1 =>
        rw [z] at P
        cases r with
        | bl t =>
          intro μ' H' v k' g' rv
          exact ⟨⟨t, rep_bl_inv rv⟩, P μ' H' v k' g' rv⟩
        | _ => exact P.elim
    · exact P.elim
  · exact .inl (os_eq _ hid μ st σ H Q w u x y k1 rx ry P)
  · exact P.elim
end
end SL

/-! # sorted of tuples of ints, any number of them -/
namespace SLs
open PySem PySem.Spec PyProof.Rows
section
variable {prog : Program} {w : World} {A : Around} {E : Value → Shared → Prop} {s : Shared}
theorem swo_rank (r : Value → Int) : SrtO.Swo fun v u => decide (r v < r u) := by
  refine ⟨fun x y h => ?_, fun x y z h1 h2 => ?_⟩
  · have := of_decide_eq_true h
    exact decide_eq_false (by omega)
  · have a := of_decide_eq_false h1
    have b := of_decide_eq_false h2
    exact decide_eq_false (by omega)
theorem ints_len {xs : List Value} {ns : List Int} (i : IntsAre xs ns) : xs.length = ns.length := by
  induction i with
  | nil => rfl
  | cons => simp_all
theorem tups_any {a : Addr} {vs : List Value} {d : Nat} {B : Int} (hd : 1 ≤ d) (h2 : 2 ≤ vs.length) (x : TS.TupsOk s.heap d B vs) (r : Value → Int) (hr : ∀ v, v ∈ vs → ∀ ns, TS.TupInts s.heap v ns → r v = TS.code B ns) (ha : ∀ o, s.heap.get? a = some o → o.cls ≠ .type "tuple") :
    SrtO.SortableO prog w A s a vs fun v u => decide (r v < r u) := by
  intro h' keep
  have kp : ∀ b o, s.heap.get? b = some o → o.cls = .type "tuple" → h'.get? b = some o := fun b o e c => keep b o (fun z => by subst z; exact ha o e c) e
  have x' := x.keeps kp
  obtain ⟨fs, k, hl, hi⟩ := TS.firsts_of hd vs x'
  refine ⟨_, fun Q E hq => PySem.W.kat_kind (T := Value.type "int") k (by omega) (fun f hf => ?_) rfl hq, ?_⟩
  · obtain ⟨n, t, rfl⟩ := hi f hf
    exact PySem.W.Looks.of_pure rfl
  · intro p q hm hm'
    obtain ⟨ns0, t0, hn0, hb0⟩ := x _ hm
    obtain ⟨ms0, u0, hn1, hb1⟩ := x _ hm'
    have r1 := hr _ hm _ t0
    have r2 := hr _ hm' _ u0
    obtain ⟨a1, xs, e1, ⟨o1, ho1, hc1, n1, hd1⟩, i1⟩ := t0.keeps kp
    obtain ⟨a2, ys, e2, ⟨o2, ho2, hc2, n2, hd2⟩, i2⟩ := u0.keeps kp
    show wpAny (model prog w) A (keyLt' _ p.1 q.1) (fun z s' => s' = _ ∧ z = decide (r p.1 < r q.1)) (fun _ _ => False) _
    rw [r1, r2, e1, e2]
    refine PySem.W.kat_lt ho1 hd1 ho2 hd2 ?_
    have sz : decide (xs.size < ys.size) = false := by
      have l1 := ints_len i1
      have l2 := ints_len i2
      rw [Array.length_toList] at l1 l2
      exact decide_eq_false (by omega)
    rw [sz]
    exact TS.lex_ints 0 i1 i2 (by omega) hb0 hb1 ⟨rfl, rfl⟩
end
end SLs
namespace SL
open PySem PySem.Spec PyProof.Rows L2
def rSortAny (K : PySem.W.Frag) : List V → Hp → VK → Prop := fun vs H Q => ∃ (a : Addr) (xs : List V) (d : Nat) (B : Int), vs = [V.ref a] ∧ SqL K H a xs ∧ 1 ≤ d ∧ (∀ x ∈ xs, ∃ ns, TupI K H x ns ∧ ns.length = d ∧ TS.Bd B ns) ∧
  ∀ (ys : List V) (p : Addr), ys.Perm xs → ys.Pairwise (fun x y => ∀ n m, TupI K H x n → TupI K H y m → TS.code B n ≤ TS.code B m) → H p = none → Q (.ref p) (upd H p (.lst ys))
section
variable {X : Cx}
theorem cr_sortAny : CallR X (.builtin "sorted") (rSortAny X.K) := by
  intro pins s σ H vs us Q J r hq
  obtain ⟨a, xs, d, B, rfl, hs, hd, hx, q⟩ := hq
  obtain ⟨its, rq, hl, hz⟩ := J.list hs
  rw [Vals.ref1 r]
  obtain ⟨e1, e2⟩ := bkV_refs rq fun x mx => by
    obtain ⟨ks, ⟨t, e, _⟩, _⟩ := hx x mx
    exact ⟨t, e⟩
  have raw : TS.TupsOk s.heap d B its := fun v hv => by
    obtain ⟨t, rfl⟩ := e2 v hv
    have hm : V.ref t ∈ xs := by
      rw [e1]
      exact List.mem_map.mpr ⟨_, hv, rfl⟩
    obtain ⟨ns, ⟨t', e, ht⟩, hn, hb⟩ := hx _ hm
    cases e
    exact ⟨ns, tupI_raw J ht, hn, hb⟩
  refine SrtO.sorted_ord (SLs.swo_rank fun v => TS.code B (TS.intsOf s.heap v)) hl.isList (by rw [← rq.length]; exact hz) (fun h2 h₁ b hb kk => ?_) fun out hs1 hb1 => ?_
  · refine SLs.tups_any (s := { s with heap := h₁ }) hd h2 (raw.keeps fun b o e _ => (kk b o e).2) _ (fun v hv ns t => ?_) fun o e => ?_
    · obtain ⟨ms, t2, _⟩ := raw v hv
      rw [t2.ints, ← t.ints, (t2.keeps fun b o e _ => (kk b o e).2).ints]
    · have e' : some o = some (seqObj "list" its.toArray 0) := e.symm.trans hb
      cases e'
      intro c
      exact absurd (Value.type.inj c) (by decide)
  · obtain ⟨n, hn⟩ := sortedAll_at s.heap its out.toArray
    have h3 : ∀ u ∈ out, ∃ a, u = Value.ref a := fun u hu => e2 u (hb1.perm.mem_iff.mp hu)
    have pm : (out.map bkV).Perm xs := by
      rw [e1]
      exact hb1.perm.map bkV
    have hlen : (out.map bkV).length ≤ sizeLine := by
      rw [pm.length_eq]
      exact hz
    refine ⟨.ref _, upd H (s.heap.objs.size + 1) (.lst (out.map bkV)), J.laid (t' := s.toks) (fun _ _ => sortedAll_old) (Nat.le_succ _) ⟨hlen, out, n, bkV_vals h3, hn⟩, rfl, q _ _ pm ?_ (J.hok.fresh (Nat.le_succ _))⟩
    rw [List.pairwise_map]
    refine List.Pairwise.imp (fun {u v} huv n m k1 k2 => ?_) hs1
    obtain ⟨t, et, ht⟩ := k1
    obtain ⟨t', et', ht'⟩ := k2
    have i1 := (tupI_raw J ht).ints
    have i2 := (tupI_raw J ht').ints
    rw [← bkV_ref et] at i1
    rw [← bkV_ref et'] at i2
    have z := of_decide_eq_false huv
    rw [i1, i2] at z
    omega
end
end SL

/-! # (x,) * n for n = 1 and n <= 0 (for n >= 2 the library has it) -/
namespace SLm
open PySem PySem.Spec PyProof.Rows L2
/-- times one: the tuple itself -/
theorem tup_one (l : Addr) (items : Array Value) (n : Nat) (dd : Option Addr) (sl : Array (Option Value)) (u : Tok) :
    Meets (Builtin.«tuple.__mul__» ⟨[.ref l, .int 1 u], []⟩) (fun _ R s => s.heap.get? l = some { cls := .type "tuple", dict := dd, data := .seq items n, slots := sl } ∧ R (.ok (.ret (Value.ref l))) s) :=
  .of_wp fun prog w A R s h => by
    obtain ⟨hp, g, d, tk, os⟩ := s
    obtain ⟨hl, h⟩ := h
    have f1 := AutoSeq1.idx_int
    have c1 : (items.isEmpty || (1 : Int) == 1) = true := by simp
    wp_walk using wpAny_loadPart' hl
    repeat (first
      | (refine wpAny_ite_false (decide_eq_false (by decide)) ?_; wp_walk using wpAny_loadPart' hl)
      | (refine wpAny_ite_true (decide_eq_true (by exact c1)) ?_; wp_walk using wpAny_loadPart' hl))
    exact ⟨_, rfl, h⟩
/-- times nothing: a new empty tuple -/
theorem tup_none (l : Addr) (items : Array Value) (n : Nat) (dd : Option Addr) (sl : Array (Option Value)) (x : Int) (u : Tok) (c0 : (decide (x < -(2 ^ 63)) || decide (x ≥ 2 ^ 63)) = false) (c1 : x ≤ 0) (c3 : items.isEmpty = false) :
    Meets (Builtin.«tuple.__mul__» ⟨[.ref l, .int x u], []⟩) (fun _ R s => s.heap.get? l = some { cls := .type "tuple", dict := dd, data := .seq items n, slots := sl } ∧
      R (.ok (.ret (Value.ref s.heap.objs.size))) { s with heap := s.heap.push { cls := Value.type "tuple", data := Data.seq #[] }, toks := s.toks }) :=
  .of_wp fun prog w A R s h => by
    obtain ⟨hp, g, d, tk, os⟩ := s
    obtain ⟨hl, h⟩ := h
    have f1 := AutoSeq1.idx_int
    have k1 : (items.isEmpty || x == 1) = false := by
      rw [c3, Bool.false_or]
      exact beq_eq_false_iff_ne.mpr (by omega)
    have k2 : (decide (x ≤ 0) || items.isEmpty) = true := by
      rw [decide_eq_true c1]; rfl
    wp_walk using wpAny_loadPart' hl
    repeat (first
      | (refine wpAny_ite_false (decide_eq_false (by rw [c0]; exact Bool.false_ne_true)) ?_; wp_walk using wpAny_loadPart' hl)
      | (refine wpAny_ite_false (decide_eq_false (by rw [k1]; exact Bool.false_ne_true)) ?_; wp_walk using wpAny_loadPart' hl)
      | (refine wpAny_ite_true (decide_eq_true (by exact k2)) ?_; wp_walk using wpAny_loadPart' hl))
    exact ⟨_, rfl, h⟩
end SLm
namespace SL
open PySem PySem.Spec PyProof.Rows L2
def rRepFew (K : PySem.W.Frag) : R2 := fun x y H Q => ∃ l k xs, x = .ref l ∧ y = .int k ∧ SqT K H l xs ∧ xs ≠ [] ∧ -1000 ≤ k ∧ k ≤ 1 ∧ (k = 1 → Q (.ref l) H) ∧ (k ≤ 0 → ∀ p, H p = none → Q (.ref p) (upd H p (.tup [])))
section
variable {X : Cx}
theorem op_repFew : OpR X (binaryOp .Mult) (rRepFew X.K) := by
  intro pins s σ H x y v u Q J rx ry hq
  obtain ⟨l, k, xs, rfl, rfl, hT, hne, b1, b2, q1, q0⟩ := hq
  cases rx
  obtain ⟨t, rfl⟩ := ry
  obtain ⟨its, r, ⟨⟨cls, dd, data, sl⟩, ho, hc, n, hd⟩, hs⟩ := J.tuple hT
  simp only at hc hd
  subst hc hd
  have em : its.toArray.isEmpty = false := by
    cases its with
    | nil => exact absurd (List.eq_nil_of_length_eq_zero r.length) hne
    | cons a b => rfl
  have rest : ∀ (R : Value → Shared → Prop), (call (.builtin "tuple.__mul__") [.ref l, .int k t] |> fun m => wpAny (model X.prog X.w) X.A m R X.xe s) → wpAny (model X.prog X.w) X.A (binaryOp .Mult (.ref l) (.int k t)) R X.xe s := fun R hm =>
    wpAny_binaryOp_repeat_ref (T := "tuple") (U := "int") (by decide) ⟨_, ho, rfl⟩ (fun s' => typeIs_int s' k t) noFill_tuple_mul F.fills_int_mul F.slot_int_rmul repeat_tuple F.slot_int_index.lookup
      (call_meets F.slot_int_rmul (typeIs_int s k t) F.entry_int_rmul (F.args_int_rmul_2 _ _) (int_rmul_tuple k t l its.toArray n dd sl) ⟨ho, rfl, ⟨_, ho, rfl⟩, hm⟩)
  refine rest _ ?_
  by_cases h1 : k = 1
  · subst h1
    exact call_meets F.slot_tuple_mul ⟨_, ho, rfl⟩ F.entry_tuple_mul (F.args_tuple_mul_2 _ _) (SLm.tup_one l its.toArray n dd sl t) ⟨ho, .ref l, H, J, rfl, q1 rfl⟩
  · have h0 : k ≤ 0 := by omega
    have c0 : (decide (k < -(2 ^ 63)) || decide (k ≥ 2 ^ 63)) = false := by
      rw [decide_eq_false (by omega), decide_eq_false (by omega)] <;> rfl
    refine call_meets F.slot_tuple_mul ⟨_, ho, rfl⟩ F.entry_tuple_mul (F.args_tuple_mul_2 _ _) (SLm.tup_none l its.toArray n dd sl k t c0 h0 em) ⟨ho, ?_⟩
    refine ⟨.ref s.heap.objs.size, _, J.laid (t' := s.toks) (o := .tup []) (fun b ob q => Heap.get?_push_of_some _ q) (Nat.le_refl _) ?_, rfl, q0 h0 _ (J.hok.fresh (Nat.le_refl _))⟩
    exact ⟨Nat.zero_le _, [], .nil, IsTup.new _ _⟩
/-- ints; a tuple so many times -/
noncomputable def oMulX : Op2 := fun x y st => match x, y with
  | .tup ws, .int k => if ws = [] then .bad else if dec (-1000 ≤ k ∧ k ≤ 1000 ∧ ws.length ≤ 1000) = true then .ok (.tup (List.replicate k.toNat ws).flatten) st else .bad
  | x, y => oMul x y st
def rMulX (K : PySem.W.Frag) : R2 := fun x y H Q => rMulAll x y H Q ∨ rRepT K x y H Q ∨ rRepFew K x y H Q
theorem or_mulX : OpR X (binaryOp .Mult) (rMulX X.K) := or_mul.or (op_repT.or op_repFew)
theorem reps_rep {K : PySem.W.Frag} {mg : Str → Option Value} {F : Hp} {μ : List Addr} {ws : List W} {vs : List V} (r : Reps K mg F μ ws vs) : ∀ m : Nat, Reps K mg F μ (List.replicate m ws).flatten (List.replicate m vs).flatten
  | 0 => .nil
  | m + 1 => by
    rw [List.replicate_succ, List.replicate_succ, List.flatten_cons, List.flatten_cons]
    exact r.append (reps_rep r m)
theorem os_mulX : Op2S X oMulX (rMulX X.K) := by
  intro Wx hid μ st σ H Q w u x y k rx ry P
  unfold oMulX at P
  split at P
  · rename_i ws m
    cases rep_int_inv ry
    split at P
    · exact P.elim
    · rename_i hne
      split at P
      · rename_i hg
        obtain ⟨g1, g2, g3⟩ := dec_of hg
        obtain ⟨a, vs, rfl, h1, h2⟩ := rep_tup_inv rx
        have hl := h2.length
        have hv : vs ≠ [] := fun z => by
          rw [z] at hl
          exact hne (List.eq_nil_of_length_eq_zero hl)
        by_cases hm : 2 ≤ m
        · exact .inr (.inl ⟨a, m, vs, rfl, rfl, h1.fz, hv, hm, g2, by rw [← hl]; exact g3, fun p hp => ok_new P k hp fun F l e => rep_tup e (reps_rep (h2.mono l (.refl _)) _)⟩)
        · refine .inr (.inr ⟨a, m, vs, rfl, rfl, h1.fz, hv, g1, by omega, fun e => ?_, fun e p hp => ?_⟩)
          · subst e
            have z : (List.replicate (1 : Int).toNat ws).flatten = ws := by simp
            rw [z] at P
            exact P μ H _ k .refl rx
          · have z : (List.replicate m.toNat ws).flatten = [] := by
              have : m.toNat = 0 := by omega
              rw [this]; rfl
            rw [z] at P
            exact ok_new P k hp fun F l e => rep_tup e .nil
      · exact P.elim
  · exact .inl (os_mul _ hid μ st σ H Q _ _ _ _ k rx ry P)
/-! ## sorted -/
def tupsI : List W → Option (List (List Int))
  | [] => some []
  | .tup ws :: r => match intsW ws, tupsI r with
    | some n, some l => some (n :: l)
    | _, _ => none
  | _ => none
def lexLt : List Int → List Int → Bool
  | [], [] => false
  | [], _ :: _ => true
  | _ :: _, [] => false
  | a :: l, b :: m => if a = b then lexLt l m else decide (a < b)
def sortT (L : List (List Int)) : List (List Int) := L.mergeSort fun a b => !lexLt b a
noncomputable def oSortT : OpN := fun ws st => match ws with
  | [x] => match (lstW st x).bind tupsI with
    | some L => if dec (∃ (d : Nat) (B : Int), 1 ≤ d ∧ ∀ l ∈ L, l.length = d ∧ TS.Bd B l) = true then .ok (.lst ((sortT L).map fun l => .tup (l.map .int))) st else .bad
    | none => .bad
  | _ => .bad
theorem lex_code {B : Int} : ∀ {a b : List Int}, a.length = b.length → TS.Bd B a → TS.Bd B b → lexLt a b = decide (TS.code B a < TS.code B b)
  | [], [], _, _, _ => (decide_eq_false (Int.lt_irrefl _)).symm
  | [], _ :: _, h, _, _ => by simp at h
  | _ :: _, [], h, _, _ => by simp at h
  | p :: l, q :: m, h, h1, h2 => by
    have hl : l.length = m.length := by simpa using h
    unfold lexLt
    by_cases e : p = q
    · subst e
      rw [if_pos rfl, lex_code hl h1.tail h2.tail]
      exact decide_eq_decide.mpr (TS.code_same hl).symm
    · rw [if_neg e]
      refine decide_eq_decide.mpr ⟨fun x => TS.code_lt hl h1.tail h2.tail x, fun x => ?_⟩
      rcases Int.lt_trichotomy p q with y | y | y
      · exact y
      · exact absurd y e
      · have := TS.code_lt hl.symm h2.tail h1.tail y
        omega
theorem lex_tri : ∀ {a b : List Int}, a.length = b.length → lexLt a b = false → lexLt b a = false → a = b
  | [], [], _, _, _ => rfl
  | [], _ :: _, h, _, _ => by simp at h
  | _ :: _, [], h, _, _ => by simp at h
  | p :: l, q :: m, h, h1, h2 => by
    unfold lexLt at h1 h2
    by_cases e : p = q
    · subst e
      rw [if_pos rfl] at h1 h2
      rw [lex_tri (by simpa using h) h1 h2]
    · rw [if_neg e] at h1
      rw [if_neg (Ne.symm e)] at h2
      have a := of_decide_eq_false h1
      have b := of_decide_eq_false h2
      exact absurd (by omega) e
theorem lex_asym : ∀ (a b : List Int), lexLt a b = false ∨ lexLt b a = false
  | [], [] => .inl rfl
  | [], _ :: _ => .inr rfl
  | _ :: _, [] => .inl rfl
  | p :: l, q :: m => by
    unfold lexLt
    by_cases e : p = q
    · subst e
      rw [if_pos rfl, if_pos rfl]
      exact lex_asym l m
    · rw [if_neg e, if_neg (Ne.symm e)]
      rcases Int.lt_or_gt_of_ne e with h | h
      · exact .inr (decide_eq_false (by omega))
      · exact .inl (decide_eq_false (by omega))
theorem lex_trans : ∀ (a b c : List Int), lexLt b a = false → lexLt c b = false → lexLt c a = false
  | [], b, [], _, _ => rfl
  | [], [], _ :: _, _, _ => rfl
  | [], _ :: _, _ :: _, _, _ => rfl
  | _ :: _, [], _, h, _ => by unfold lexLt at h; cases h
  | _ :: _, _ :: _, [], _, h => by unfold lexLt at h; cases h
  | p :: l, q :: m, r :: n, h1, h2 => by
    unfold lexLt at h1 h2 ⊢
    by_cases e1 : q = p
    · subst e1
      rw [if_pos rfl] at h1
      by_cases e2 : r = q
      · subst e2
        rw [if_pos rfl] at h2 ⊢
        exact lex_trans l m n h1 h2
      · rw [if_neg e2] at h2 ⊢
        exact h2
    · rw [if_neg e1] at h1
      have a := of_decide_eq_false h1
      by_cases e2 : r = q
      · subst e2
        rw [if_neg e1]
        exact h1
      · rw [if_neg e2] at h2
        have b := of_decide_eq_false h2
        rw [if_neg (by omega)]
        exact decide_eq_false (by omega)
/-- there is one sorted order -/
theorem one_order {α : Type} {R : α → α → Prop} : ∀ {l m : List α}, l.Perm m → l.Pairwise R → m.Pairwise R → (∀ a ∈ l, ∀ b ∈ l, R a b → R b a → a = b) → l = m
  | [], m, p, _, _, _ => by rw [p.symm.eq_nil]
  | a :: l, [], p, _, _, _ => by exact absurd p.eq_nil (by simp)
  | a :: l, b :: m, p, h1, h2, h => by
    have ha : a ∈ b :: m := p.mem_iff.mp List.mem_cons_self
    have hb : b ∈ a :: l := p.mem_iff.mpr List.mem_cons_self
    have e : a = b := by
      rcases List.mem_cons.mp ha with e | ha'
      · exact e
      · rcases List.mem_cons.mp hb with e | hb'
        · exact e.symm
        · exact h a List.mem_cons_self b hb ((List.pairwise_cons.mp h1).1 b hb') ((List.pairwise_cons.mp h2).1 a ha')
    subst e
    rw [one_order (List.Perm.cons_inv p) (List.pairwise_cons.mp h1).2 (List.pairwise_cons.mp h2).2 fun x hx y hy => h x (List.mem_cons_of_mem _ hx) y (List.mem_cons_of_mem _ hy)]
end
end SL

namespace SL
open PySem PySem.Spec PyProof.Rows L2
/-! ## sorted, sound -/
section
variable {K : PySem.W.Frag} {mg : Str → Option Value} {F : Hp} {μ : List Addr}
def tupOf (l : List Int) : W := .tup (l.map .int)
theorem intsW_eq : ∀ {ws : List W} {ns : List Int}, intsW ws = some ns → ws = ns.map .int
  | [], ns, h => by unfold intsW at h; cases h; rfl
  | .int b :: ws, ns, h => by
    unfold intsW at h
    cases e : intsW ws with
    | none => rw [e] at h; cases h
    | some ms => rw [e] at h; cases h; rw [intsW_eq e]; rfl
  | .non :: _, _, h | .ty _ :: _, _, h | .bl _ :: _, _, h | .str _ :: _, _, h | .tup _ :: _, _, h | .lst _ :: _, _, h | .dct _ _ :: _, _, h | .ins _ _ _ :: _, _, h | .cell _ :: _, _, h | .ro _ :: _, _, h | .cls _ :: _, _, h => by unfold intsW at h; cases h
theorem tupsI_eq : ∀ {ws : List W} {L : List (List Int)}, tupsI ws = some L → ws = L.map tupOf
  | [], L, h => by unfold tupsI at h; cases h; rfl
  | .tup us :: ws, L, h => by
    unfold tupsI at h
    cases e1 : intsW us with
    | none => rw [e1] at h; cases h
    | some n =>
      cases e2 : tupsI ws with
      | none => rw [e1, e2] at h; cases h
      | some l =>
        rw [e1, e2] at h; cases h
        rw [intsW_eq e1, tupsI_eq e2]; rfl
  | .non :: _, _, h | .ty _ :: _, _, h | .bl _ :: _, _, h | .str _ :: _, _, h | .int _ :: _, _, h | .lst _ :: _, _, h | .dct _ _ :: _, _, h | .ins _ _ _ :: _, _, h | .cell _ :: _, _, h | .ro _ :: _, _, h | .cls _ :: _, _, h => by unfold tupsI at h; cases h
theorem reps_ints : ∀ {ns : List Int} {vs : List V}, Reps K mg F μ (ns.map .int) vs → vs = ns.map .int
  | [], vs, h => by rw [List.map_nil, Reps.nil_iff] at h; exact h
  | n :: ns, vs, h => by
    obtain ⟨v, t, rfl, h1, h2⟩ := h.cons_inv
    rw [rep_int_inv h1, reps_ints h2]; rfl
/-- another order of the values: another order of what they stand for -/
theorem reps_perm {α : Type} {f : α → W} {xs ys : List V} (p : ys.Perm xs) : ∀ {L : List α}, Reps K mg F μ (L.map f) xs → ∃ M : List α, M.Perm L ∧ Reps K mg F μ (M.map f) ys := by
  induction p with
  | nil => intro L r; exact ⟨L, .refl _, r⟩
  | cons x _ ih =>
    intro L r
    cases L with
    | nil => rw [List.map_nil, Reps.nil_iff] at r; cases r
    | cons a L =>
      obtain ⟨v, t, e, h1, h2⟩ := r.cons_inv
      cases e
      obtain ⟨M, h3, h4⟩ := ih h2
      exact ⟨a :: M, h3.cons a, .cons h1 h4⟩
  | swap x y l =>
    intro L r
    match L, r with
    | [], r => rw [List.map_nil, Reps.nil_iff] at r; cases r
    | [a], r =>
      obtain ⟨v, t, e, h1, h2⟩ := r.cons_inv
      cases e
      rw [List.map_nil, Reps.nil_iff] at h2; cases h2
    | a :: b :: L, r =>
      obtain ⟨v, t, e, h1, h2⟩ := r.cons_inv
      cases e
      obtain ⟨v2, t2, e2, h3, h4⟩ := h2.cons_inv
      cases e2
      exact ⟨b :: a :: L, .swap a b L, .cons h3 (.cons h1 h4)⟩
  | trans _ _ ih1 ih2 =>
    intro L r
    obtain ⟨M, h1, h2⟩ := ih2 r
    obtain ⟨N, h3, h4⟩ := ih1 h2
    exact ⟨N, h3.trans h1, h4⟩
theorem pair_of {α : Type} {f : α → W} {R : V → V → Prop} {S : α → α → Prop} {ys : List V} (hp : ys.Pairwise R) : ∀ {M : List α}, Reps K mg F μ (M.map f) ys → (∀ a ∈ M, ∀ b ∈ M, ∀ v u, Rep K mg F μ (f a) v → Rep K mg F μ (f b) u → R v u → S a b) → M.Pairwise S := by
  induction hp with
  | nil =>
    intro M r _
    cases M with
    | nil => exact .nil
    | cons a M => have := r.length; simp at this
  | @cons v ys h _ ih =>
    intro M r hs
    cases M with
    | nil => have := r.length; simp at this
    | cons a M =>
      obtain ⟨v', t, e, h1, h2⟩ := r.cons_inv
      cases e
      refine .cons (fun b hb => ?_) (ih h2 fun a ha b hb => hs a (List.mem_cons_of_mem _ ha) b (List.mem_cons_of_mem _ hb))
      obtain ⟨i, hi, rfl⟩ := List.mem_iff_getElem.mp hb
      obtain ⟨u, e1, e2⟩ := h2.get (i := i) (w := f M[i]) (by simp [hi])
      exact hs a List.mem_cons_self _ (List.mem_cons_of_mem _ (List.getElem_mem hi)) v u h1 e2 (h u (List.mem_of_getElem? e1))
end
section
variable {X : Cx}
theorem tup_I {K : PySem.W.Frag} {mg : Str → Option Value} {H : Hp} {hid μ : List Addr} {st : Sto} {l : List Int} {v : V} (r : Rep K mg (Fz μ st hid H) μ (tupOf l) v) : TupI K H v l := by
  obtain ⟨a, vs, rfl, h1, h2⟩ := rep_tup_inv r
  rw [reps_ints h2] at h1
  exact ⟨a, rfl, h1.fz⟩
theorem os_sortT : OpNS X oSortT (rSortAny X.K) := by
  intro Wx hid μ st σ H Q ws vs k r P
  unfold oSortT at P
  split at P
  · rename_i x
    obtain ⟨v, rfl, r1⟩ := reps1 (ws := []) r
    split at P
    · rename_i L e
      split at P
      · rename_i hg
        obtain ⟨d, B, hd, hL⟩ := dec_of hg
        cases e1 : lstW st x with
        | none => rw [e1] at e; cases e
        | some us =>
          rw [e1] at e
          obtain ⟨a, xs, rfl, h1, h2⟩ := lstW_at k e1 r1
          rw [tupsI_eq e] at h2
          refine ⟨a, xs, d, B, rfl, h1, hd, fun y hy => ?_, fun ys p pm sr hp => ?_⟩
          · obtain ⟨i, hi⟩ := List.getElem?_of_mem hy
            obtain ⟨w, g1, g2⟩ := h2.get' hi
            rw [List.getElem?_map] at g1
            obtain ⟨l, g3, rfl⟩ := Option.map_eq_some_iff.mp g1
            exact ⟨l, tup_I g2, hL l (List.mem_of_getElem? g3)⟩
          · obtain ⟨M, pM, rM⟩ := reps_perm pm h2
            have hM : ∀ l ∈ M, l.length = d ∧ TS.Bd B l := fun l hl => hL l (pM.mem_iff.mp hl)
            have s1 : M.Pairwise fun a b => (!lexLt b a) = true := pair_of sr rM fun a ha b hb v u hv hu hc => by
              have z := hc a b (tup_I hv) (tup_I hu)
              rw [lex_code (by rw [(hM a ha).1, (hM b hb).1]) (hM b hb).2 (hM a ha).2]
              simp
              omega
            have s2 : (sortT L).Pairwise fun a b => (!lexLt b a) = true := by
              refine List.pairwise_mergeSort (le := fun a b => !lexLt b a) (fun a b c h1 h2 => ?_) (fun a b => ?_) L
              · simp at h1 h2 ⊢
                exact lex_trans a b c h1 h2
              · rcases lex_asym a b with h | h <;> simp [h]
            have e2 : M = sortT L := one_order (pM.trans (List.mergeSort_perm L _).symm) s1 s2 fun a ha b hb h1 h2 => lex_tri (by rw [(hM a ha).1, (hM b hb).1]) (by simpa using h2) (by simpa using h1)
            rw [e2] at rM
            exact ok_new P k hp fun F l e => rep_lst e (rM.mono l (.refl _))
      · exact P.elim
    · exact P.elim
  · exact P.elim
end
end SL

/-! # sum of a tuple of ints -/
namespace SLt
open PySem PySem.Spec PyProof.Rows
section
variable {prog : Program} {w : World} {A : Around} {E : Value → Shared → Prop} {s : Shared}
theorem sum_tup {t : Addr} {its : List Value} {ns : List Int} {Q : Value → Shared → Prop} (hh : A.handled = none) (ht : s.heap.IsTuple t its.toArray) (hi : IntsAre its ns)
    (h : ∀ h' tk t', (∀ b o, s.heap.get? b = some o → h'.get? b = some o) → Q (.int ns.sum t') { s with heap := h', toks := tk }) : wpAny (model prog w) A (call (.builtin "sum") [.ref t]) Q E s := by
  obtain ⟨xs, e⟩ := hi.allInts.items
  have hn : numsOf (intItems xs).toList = ns := by rw [← e]; exact hi.numsOf
  rw [nums_intItems] at hn
  rw [e] at ht
  have hlt : t < s.heap.objs.size := by obtain ⟨_, q, _⟩ := ht; exact Heap.lt_size q
  refine call_sum_walkG (wpAny_pyIter_tuple ht ?_)
  refine ⟨_, _, _, _, _, _, numAt xs, rfl, Walks.tuple (A := A.in1) hh s.heap.objs.size t (Nat.ne_of_lt hlt) (intItems xs), ⟨⟨_, Heap.get?_push_size _ rfl, rfl, rfl⟩, ht.at fun o q => Heap.get?_push_of_some _ q⟩, fun b hb => ?_, (fun _ _ => intItems_at), fun h' tk t' hk => ?_⟩
  · show b < (s.heap.push _).objs.size
    rw [Heap.size_push]
    rcases List.mem_cons.mp hb with rfl | hb
    · exact Nat.lt_succ_self _
    · rcases List.mem_cons.mp hb with rfl | hb
      · exact Nat.lt_succ_of_lt hlt
      · cases hb
  · have q := h h' tk t' fun b o eb => hk b o (fun z => by
      rcases List.mem_cons.mp z with rfl | z
      · exact Nat.lt_irrefl _ (Heap.lt_size eb)
      · cases z) (Heap.get?_push_of_some _ eb)
    have z : preSum (numAt xs) (intItems xs).size = ns.sum := by
      rw [preSum_eq, List.take_of_length_le (by simp [intItems]), hn]
    rw [z]
    exact q
end
end SLt
namespace SL
open PySem PySem.Spec PyProof.Rows L2
def rSumT (K : PySem.W.Frag) : List V → Hp → VK → Prop := fun vs H Q => ∃ (a : Addr) (ns : List Int), vs = [V.ref a] ∧ SqT K H a (ns.map V.int) ∧ Q (.int ns.sum) H
section
variable {X : Cx}
theorem cr_sumT (hc : X.calm = true) : CallR X (.builtin "sum") (rSumT X.K) := by
  intro pins s σ H vs us Q J r hq
  obtain ⟨a, ns, rfl, hs, q⟩ := hq
  obtain ⟨its, rr, hT, _⟩ := J.tuple hs
  rw [Vals.ref1 r]
  exact SLt.sum_tup (J.ok.hd hc) hT rr.ints fun h' tk t' hk => ⟨.int _, H, J.kept hk, ⟨_, rfl⟩, q⟩
/-- sum(x), a list or a tuple -/
def oSumX : OpN := fun ws st => match ws with
  | [x] => match (seqW st x).bind intsW with
    | some bs => .ok (.int bs.sum) st
    | none => .bad
  | _ => .bad
theorem os_sumX : OpNS X oSumX (fun vs H Q => rSum X.K vs H Q ∨ rSumT X.K vs H Q) := by
  intro Wx hid μ st σ H Q ws vs k r P
  unfold oSumX at P
  split at P
  · rename_i x
    obtain ⟨v, rfl, r1⟩ := reps1 (ws := []) r
    split at P
    · rename_i bs e
      cases e1 : seqW st x with
      | none => rw [e1] at e; cases e
      | some us =>
        rw [e1] at e
        obtain ⟨a, xs, rfl, h1, h2⟩ := seqW_at k e1 r1
        rw [intsW_eq e] at h2
        rw [reps_ints h2] at h1
        rcases h1 with h1 | h1
        · exact .inl ⟨a, bs, rfl, h1, P μ H _ k .refl rep_int⟩
        · exact .inr ⟨a, bs, rfl, h1, P μ H _ k .refl rep_int⟩
    · exact P.elim
  · exact P.elim
theorem cr_sumX (hc : X.calm = true) : CallR X (.builtin "sum") (fun vs H Q => rSum X.K vs H Q ∨ rSumT X.K vs H Q) := (cr_sum hc).or (cr_sumT hc)
/-! ## list(x), that is to change -/
def oListC : OpN := fun ws st => match ws with
  | [x] => match seqW st x with
    | some us => .ok (.cell st.length) (st ++ [.lst us])
    | none => .bad
  | _ => .bad
theorem os_listC : OpNS X oListC (fun xs H Q => ∃ p ys, xs = [.ref p] ∧ (SqL X.K H p ys ∨ SqT X.K H p ys) ∧ ∀ l, H l = none → Q (.ref l) (upd H l (.lst ys))) := by
  intro Wx hid μ st σ H Q ws vs k r P
  unfold oListC at P
  split at P
  · rename_i x
    obtain ⟨v, rfl, r1⟩ := reps1 (ws := []) r
    split at P
    · rename_i us e
      obtain ⟨a, xs, rfl, h1, h2⟩ := seqW_at k e r1
      refine ⟨a, xs, rfl, h1, fun l hl => ?_⟩
      obtain ⟨k2, g2⟩ := k.newCell (c := .lst us) (o := .lst xs) hl rfl ⟨xs, upd_same, h2.mono (.refl _) ⟨[l], rfl⟩⟩
      refine P _ _ _ k2 g2 ?_
      unfold Rep
      exact ⟨l, by rw [← k.len]; simp, rfl⟩
    · exact P.elim
  · exact P.elim
end
end SL

namespace SL
open PySem PySem.Spec PyProof.Rows L2
/-! # more of lists: extend by a list, pop; max and min -/
section
variable {X : Cx}
def mExtend : OpM := fun x ws st => match x, ws with
  | .cell k, [.lst us] => match st[k]? with
    | some (.lst vs) => if vs.length + us.length ≤ LINE then .ok .non (st.set k (.lst (vs ++ us))) else .bad
    | _ => .bad
  | _, _ => .bad
theorem os_extend : OpMS X mExtend rExtend := by
  intro Wx hid μ st σ H Q w ws x vs k rx rs P
  unfold mExtend at P
  split at P
  · rename_i n us
    obtain ⟨v, rfl, r1⟩ := reps1 (ws := []) rs
    obtain ⟨b, ys, rfl, h1, h2⟩ := rep_lst_inv r1
    split at P
    · rename_i zs e1
      split at P
      · rename_i hz
        obtain ⟨a, rfl, h3, xs, h4, h5⟩ := k.cell e1 rx
        refine ⟨a, b, xs, ys, rfl, rfl, h4, (Fz.sub h1).1, by rw [← h5.length, ← h2.length]; exact le_line hz, ?_⟩
        obtain ⟨k2, g2⟩ := k.setCell (c' := .lst (zs ++ us)) (o := .lst (xs ++ ys)) h3 e1 rfl rfl ⟨_, upd_same, h5.append h2⟩
        exact P μ _ _ k2 g2 rep_non
      · exact P.elim
    · exact P.elim
  · exact P.elim
theorem reps_dropLast {K : PySem.W.Frag} {mg : Str → Option Value} {F : Hp} {μ : List Addr} {ws : List W} {vs : List V} (r : Reps K mg F μ ws vs) : Reps K mg F μ ws.dropLast vs.dropLast := by
  rw [List.dropLast_eq_take, List.dropLast_eq_take, r.length]
  exact r.take _
def mPop : OpM := fun x ws st => match x, ws with
  | .cell k, [] => match st[k]? with
    | some (.lst vs) => match vs[vs.length - 1]? with
      | some u => .ok u (st.set k (.lst vs.dropLast))
      | none => .bad
    | _ => .bad
  | _, _ => .bad
theorem os_pop : OpMS X mPop rPop := by
  intro Wx hid μ st σ H Q w ws x vs k rx rs P
  unfold mPop at P
  split at P
  · rename_i n
    rw [Reps.nil_iff] at rs
    subst rs
    split at P
    · rename_i zs e1
      split at P
      · rename_i u eu
        obtain ⟨a, rfl, h3, xs, h4, h5⟩ := k.cell e1 rx
        obtain ⟨y, ey, ry⟩ := h5.get eu
        refine ⟨a, xs, y, rfl, rfl, h4, by rw [← h5.length]; exact ey, ?_⟩
        obtain ⟨k2, g2⟩ := k.setCell (c' := .lst zs.dropLast) (o := .lst xs.dropLast) h3 e1 rfl rfl ⟨_, upd_same, reps_dropLast h5⟩
        exact P μ _ _ k2 g2 (Rep.mono g2.le g2.pre _ _ ry)
      · exact P.elim
    · exact P.elim
  · exact P.elim
def oMax2 : OpN := fun ws st => match ws with
  | [.int i, .int j] => .ok (.int (if j > i then j else i)) st
  | _ => .bad
def oMin2 : OpN := fun ws st => match ws with
  | [.int i, .int j] => .ok (.int (if j < i then j else i)) st
  | _ => .bad
theorem os_max2 : OpNS X oMax2 (fun xs H Q => ∃ i j, xs = [.int i, .int j] ∧ Q (.int (if j > i then j else i)) H) := by
  intro Wx hid μ st σ H Q ws vs k r P
  unfold oMax2 at P
  split at P
  · obtain ⟨v, y, rfl, r1, r2⟩ := reps2 r
    cases rep_int_inv r1
    cases rep_int_inv r2
    exact ⟨_, _, rfl, P μ H _ k .refl rep_int⟩
  · exact P.elim
theorem os_min2 : OpNS X oMin2 (fun xs H Q => ∃ i j, xs = [.int i, .int j] ∧ Q (.int (if j < i then j else i)) H) := by
  intro Wx hid μ st σ H Q ws vs k r P
  unfold oMin2 at P
  split at P
  · obtain ⟨v, y, rfl, r1, r2⟩ := reps2 r
    cases rep_int_inv r1
    cases rep_int_inv r2
    exact ⟨_, _, rfl, P μ H _ k .refl rep_int⟩
  · exact P.elim
end
end SL

namespace SLx
open PySem PySem.AutoSeq1
theorem ext_tup (l : Addr) (ia : Array Value) (n : Nat) (b : Addr) (ib : Array Value) (m : Nat) (dd : Option Addr) (sl : Array (Option Value)) (c0 : ¬(!ia.isEmpty && Builtin.List.listTooLong (ia.size + ib.size)) = true) (c1 : ia.size ≤ sizeLine) (c2 : ia.size + ib.size ≤ sizeLine + 1) :
    Meets (Builtin.«list.extend» ⟨[.ref l, .ref b], []⟩) (fun _ R s => s.heap.get? l = some { cls := .type "list", dict := none, data := .seq ia n, slots := #[] } ∧ s.heap.get? b = some { cls := .type "tuple", dict := dd, data := .seq ib m, slots := sl } ∧
      R (.ok (.ret Value.none)) { s with heap := s.heap.update l (Obj.mapSeq fun x => x ++ ib), toks := s.toks }) :=
  .of_wp fun prog w A R s h => by
    obtain ⟨hp, g, d, tk, os⟩ := s
    obtain ⟨hl, hb, h⟩ := h
    have f1 := idx_int
    have f2 := sub_tuple_tuple
    have f3 := sub_list_list
    have f4 := sub_tuple_list
    have f5 := sub_list_tuple
    have z2 : (ia ++ ib).size ≤ sizeLine + 1 := by rw [Array.size_append]; exact c2
    wp_walk using (wpAny_updateSeq hl rfl (hz := c1) (_hz' := z2)), wpAny_loadPart' hl, wpAny_loadPart' hb
    exact ⟨_, rfl, h⟩
end SLx
namespace SL
open PySem PySem.Spec PyProof.Rows L2
/-! # extend by a tuple -/
section
variable {X : Cx}
def rExtT (K : PySem.W.Frag) : V → List V → Hp → VK → Prop := fun x vs H Q => ∃ l b xs zs, x = .ref l ∧ vs = [.ref b] ∧ H l = some (.lst xs) ∧ SqT K H b zs ∧ xs.length + zs.length ≤ 1000000 ∧ Q .non (upd H l (.lst (xs ++ zs)))
theorem mt_extT : MtM X "list.extend" (rExtT X.K) := by
  intro pins s σ H x vs v us Q J rx rv hq
  obtain ⟨l, b, xs, zs, rfl, rfl, hH, hB, hz, q⟩ := hq
  cases rx
  obtain ⟨u, rfl, ru⟩ := rv.one
  cases ru
  obtain ⟨z, its, n, r, hl, e⟩ := J.lstM hH
  obtain ⟨its2, r2, ⟨⟨cls, dd, data, sl⟩, ho, hc, n2, hd⟩, hs⟩ := J.tuple hB
  simp only at hc hd
  subst hc hd
  have l1 : its.length = xs.length := r.length.symm
  have l2 : its2.length = zs.length := r2.length.symm
  have sz : its.toArray.size + its2.toArray.size ≤ sizeLine := by rw [List.size_toArray, List.size_toArray, sizeLine_eq]; omega
  have lg : ¬ (!its.toArray.isEmpty && Builtin.List.listTooLong (its.toArray.size + its2.toArray.size)) = true := by
    rw [notLongL sz, Bool.and_false]
    exact Bool.false_ne_true
  refine call_meets F.slot_list_extend ⟨_, e, rfl⟩ F.entry_list_extend (F.args_list_extend_2 _ _) (SLx.ext_tup l its.toArray n b its2.toArray n2 dd sl lg (by omega) (by omega)) ⟨e, ho, ?_⟩
  refine ⟨.non, _, J.lset (its' := its ++ its2) hH e (by simp) (r.append r2) ?_, rfl, q⟩
  rw [List.length_append, sizeLine_eq]
  omega
/-- extend by data: a list or a tuple -/
def mExt : OpM := fun x ws st => match x, ws with
  | .cell k, [u] => match st[k]?, tupW st u with
    | some (.lst vs), some us => if vs.length + us.length ≤ 1000000 then .ok .non (st.set k (.lst (vs ++ us))) else .bad
    | some (.lst _), none => mExtend x ws st
    | _, _ => .bad
  | _, _ => .bad
theorem mt_ext : MtM X "list.extend" (fun x vs H Q => rExtend x vs H Q ∨ rExtT X.K x vs H Q) := by
  intro pins s σ H x vs v us Q J rx rv hq
  rcases hq with hq | hq
  · exact mt_extend pins s σ H x vs v us Q J rx rv hq
  · exact mt_extT pins s σ H x vs v us Q J rx rv hq
theorem os_ext : OpMS X mExt (fun x vs H Q => rExtend x vs H Q ∨ rExtT X.K x vs H Q) := by
  intro Wx hid μ st σ H Q w ws x vs k rx rs P
  unfold mExt at P
  split at P
  · rename_i n u
    split at P
    · rename_i zs us e1 e2
      split at P
      · rename_i hz
        obtain ⟨v, rfl, r1⟩ := reps1 (ws := []) rs
        obtain ⟨a, rfl, h3, xs, h4, h5⟩ := k.cell e1 rx
        obtain ⟨b, ys, rfl, h1, h2⟩ := tupW_at k e2 r1
        refine .inr ⟨a, b, xs, ys, rfl, rfl, h4, h1.fz, by rw [← h5.length, ← h2.length]; exact hz, ?_⟩
        obtain ⟨k2, g2⟩ := k.setCell (c' := .lst (zs ++ us)) (o := .lst (xs ++ ys)) h3 e1 rfl rfl ⟨_, upd_same, h5.append h2⟩
        exact P μ _ _ k2 g2 rep_non
      · exact P.elim
    · exact .inl (os_extend Wx hid μ st σ H Q _ _ x vs k rx rs P)
    · exact P.elim
  · exact P.elim
end
end SL

/-! # max, min of a tuple of ints -/
namespace SLt
open PySem PySem.Spec PyProof.Rows
section
variable {prog : Program} {w : World} {A : Around} {E : Value → Shared → Prop} {s : Shared}
theorem iter_tupInts {t : Addr} {xs : Array (Int × Tok)} {Q : Value → Shared → Prop} (ht : s.heap.IsTuple t (intItems xs))
    (h : ∀ s2 : Shared, s2 = { s with heap := s.heap.push { cls := .type "tuple_iterator", data := .fields #[.ref t, .int 0 0] } } → (s2.heap.IsTupleIter s.heap.objs.size t 0 ∧ s2.heap.IsTuple t (intItems xs)) → (∀ b ∈ [s.heap.objs.size, t], b < s2.heap.objs.size) → t ≠ s.heap.objs.size → Q (.ref s.heap.objs.size) s2) :
    wpAny (model prog w) A (pyIter (.ref t)) Q E s := by
  have hlt : t < s.heap.objs.size := by obtain ⟨_, q, _⟩ := ht; exact Heap.lt_size q
  refine wpAny_pyIter_tuple ht (h _ rfl ⟨⟨_, Heap.get?_push_size _ rfl, rfl, rfl⟩, ht.at fun o q => Heap.get?_push_of_some _ q⟩ (fun b hb => ?_) (Nat.ne_of_lt hlt))
  show b < (s.heap.push _).objs.size
  rw [Heap.size_push]
  rcases List.mem_cons.mp hb with e | hb
  · subst e; exact Nat.lt_succ_self _
  · rcases List.mem_cons.mp hb with e | hb
    · subst e; exact Nat.lt_succ_of_lt hlt
    · cases hb
theorem max_tup {t : Addr} {its : List Value} {ns : List Int} {Q : Value → Shared → Prop} (hh : A.handled = none) (ht : s.heap.IsTuple t its.toArray) (hi : IntsAre its ns) (hne : 0 < ns.length)
    (h : ∀ h' tk M t', (∀ b o, s.heap.get? b = some o → h'.get? b = some o) → M ∈ ns → (∀ a, a ∈ ns → a ≤ M) → Q (.int M t') { s with heap := h', toks := tk }) : wpAny (model prog w) A (call (.builtin "max") [.ref t]) Q E s := by
  obtain ⟨xs, e⟩ := hi.allInts.items
  have en : numsOf (intItems xs).toList = ns := by rw [← e]; exact hi.numsOf
  rw [nums_intItems] at en
  subst en
  rw [e] at ht
  have hsz : 0 < xs.size := by simpa using hne
  refine call_max_walk (iter_tupInts ht fun s2 e2 st hfp hlI => ?_)
  subst e2
  refine ⟨_, _, _, _, _, _, _, rfl, Walks.tuple (A := A.in1) hh _ t hlI (intItems xs), st, hfp, by simpa [intItems] using hsz, CmpOf.ints_gt (numAt xs) (fun _ _ => intItems_at), fun v h' tk hP hk => ?_⟩
  have hv : (intItems xs)[argBest (fun i j => decide (numAt xs i > numAt xs j)) (xs.size - 1)]? = some v := by simpa [intItems] using hP
  obtain ⟨u, rfl⟩ := intItems_at hv
  obtain ⟨g1, g2⟩ := argBest_gt (numAt xs) (xs.size - 1)
  refine h h' tk _ u (fun b o eb => hk b o (fun z => by
    rcases List.mem_cons.mp z with z | z
    · subst z; exact Nat.lt_irrefl _ (Heap.lt_size eb)
    · cases z) (Heap.get?_push_of_some _ eb)) ?_ fun a ha => ?_
  · rw [numAt_eq]; exact PySem.getD_mem (by rw [List.length_map, Array.length_toList]; omega)
  · obtain ⟨j, hj, rfl⟩ := mem_getD ha
    rw [List.length_map, Array.length_toList] at hj
    rw [← numAt_eq]; exact g2 j (by omega)
theorem min_tup {t : Addr} {its : List Value} {ns : List Int} {Q : Value → Shared → Prop} (hh : A.handled = none) (ht : s.heap.IsTuple t its.toArray) (hi : IntsAre its ns) (hne : 0 < ns.length)
    (h : ∀ h' tk M t', (∀ b o, s.heap.get? b = some o → h'.get? b = some o) → M ∈ ns → (∀ a, a ∈ ns → M ≤ a) → Q (.int M t') { s with heap := h', toks := tk }) : wpAny (model prog w) A (call (.builtin "min") [.ref t]) Q E s := by
  obtain ⟨xs, e⟩ := hi.allInts.items
  have en : numsOf (intItems xs).toList = ns := by rw [← e]; exact hi.numsOf
  rw [nums_intItems] at en
  subst en
  rw [e] at ht
  have hsz : 0 < xs.size := by simpa using hne
  refine call_min_walk (iter_tupInts ht fun s2 e2 st hfp hlI => ?_)
  subst e2
  refine ⟨_, _, _, _, _, _, _, rfl, Walks.tuple (A := A.in1) hh _ t hlI (intItems xs), st, hfp, by simpa [intItems] using hsz, CmpOf.ints_lt (numAt xs) (fun _ _ => intItems_at), fun v h' tk hP hk => ?_⟩
  have hv : (intItems xs)[argBest (fun i j => decide (numAt xs i < numAt xs j)) (xs.size - 1)]? = some v := by simpa [intItems] using hP
  obtain ⟨u, rfl⟩ := intItems_at hv
  obtain ⟨g1, g2⟩ := argBest_lt (numAt xs) (xs.size - 1)
  refine h h' tk _ u (fun b o eb => hk b o (fun z => by
    rcases List.mem_cons.mp z with z | z
    · subst z; exact Nat.lt_irrefl _ (Heap.lt_size eb)
    · cases z) (Heap.get?_push_of_some _ eb)) ?_ fun a ha => ?_
  · rw [numAt_eq]; exact PySem.getD_mem (by rw [List.length_map, Array.length_toList]; omega)
  · obtain ⟨j, hj, rfl⟩ := mem_getD ha
    rw [List.length_map, Array.length_toList] at hj
    rw [← numAt_eq]; exact g2 j (by omega)
end
end SLt
namespace SL
open PySem PySem.Spec PyProof.Rows L2
section
variable {X : Cx}
def rMaxT (K : PySem.W.Frag) : List V → Hp → VK → Prop := fun vs H Q => ∃ (a : Addr) (ns : List Int), vs = [V.ref a] ∧ SqT K H a (ns.map V.int) ∧ 0 < ns.length ∧ ∀ m, m ∈ ns → (∀ y, y ∈ ns → y ≤ m) → Q (.int m) H
def rMinT (K : PySem.W.Frag) : List V → Hp → VK → Prop := fun vs H Q => ∃ (a : Addr) (ns : List Int), vs = [V.ref a] ∧ SqT K H a (ns.map V.int) ∧ 0 < ns.length ∧ ∀ m, m ∈ ns → (∀ y, y ∈ ns → m ≤ y) → Q (.int m) H
theorem cr_maxT (hc : X.calm = true) : CallR X (.builtin "max") (rMaxT X.K) := by
  intro pins s σ H vs us Q J r hq
  obtain ⟨a, ns, rfl, hs, hne, q⟩ := hq
  obtain ⟨its, rr, hT, _⟩ := J.tuple hs
  rw [Vals.ref1 r]
  exact SLt.max_tup (J.ok.hd hc) hT rr.ints hne fun h' tk m t' hk g1 g2 => ⟨.int _, H, J.kept hk, ⟨_, rfl⟩, q m g1 g2⟩
theorem cr_minT (hc : X.calm = true) : CallR X (.builtin "min") (rMinT X.K) := by
  intro pins s σ H vs us Q J r hq
  obtain ⟨a, ns, rfl, hs, hne, q⟩ := hq
  obtain ⟨its, rr, hT, _⟩ := J.tuple hs
  rw [Vals.ref1 r]
  exact SLt.min_tup (J.ok.hd hc) hT rr.ints hne fun h' tk m t' hk g1 g2 => ⟨.int _, H, J.kept hk, ⟨_, rfl⟩, q m g1 g2⟩
/-- the greatest, the least of a row of ints -/
def bestI (p : Int → Int → Bool) : List Int → Option Int
  | [] => none
  | a :: l => match bestI p l with
    | none => some a
    | some b => some (if p a b then a else b)
theorem best_max : ∀ {l : List Int} {m : Int}, bestI (fun a b => decide (b ≤ a)) l = some m → ∀ n ∈ l, (∀ y ∈ l, y ≤ n) → n = m
  | [], m, h, n, hn, _ => nomatch hn
  | a :: l, m, h, n, hn, hy => by
    unfold bestI at h
    cases e : bestI (fun a b => decide (b ≤ a)) l with
    | none =>
      rw [e] at h
      cases h
      cases l with
      | nil => exact List.mem_singleton.mp hn
      | cons b l =>
        unfold bestI at e
        split at e <;> cases e
    | some b =>
      rw [e] at h
      have hb : b ∈ l ∧ ∀ y ∈ l, y ≤ b := by
        have q : ∀ {l : List Int} {b : Int}, bestI (fun a b => decide (b ≤ a)) l = some b → b ∈ l ∧ ∀ y ∈ l, y ≤ b := by
          intro l
          induction l with
          | nil => intro b h; cases h
          | cons c l ih =>
            intro b h
            unfold bestI at h
            cases e : bestI (fun a b => decide (b ≤ a)) l with
            | none =>
              rw [e] at h
              cases h
              cases l with
              | nil => exact ⟨List.mem_cons_self, fun y hy => by rw [List.mem_singleton.mp hy]; exact Int.le_refl _⟩
              | cons d l =>
                unfold bestI at e
                split at e <;> cases e
            | some d =>
              rw [e] at h
              obtain ⟨h1, h2⟩ := ih e
              have h' : (if d ≤ c then c else d) = b := by simpa using h
              by_cases z : d ≤ c
              · rw [if_pos z] at h'
                subst h'
                refine ⟨List.mem_cons_self, fun y hy => ?_⟩
                rcases List.mem_cons.mp hy with hy | hy
                · rw [hy]; exact Int.le_refl _
                · exact Int.le_trans (h2 y hy) z
              · rw [if_neg z] at h'
                subst h'
                refine ⟨List.mem_cons_of_mem _ h1, fun y hy => ?_⟩
                rcases List.mem_cons.mp hy with hy | hy
                · rw [hy]; omega
                · exact h2 y hy
        exact q e
      have h' : (if b ≤ a then a else b) = m := by simpa using h
      by_cases z : b ≤ a
      · rw [if_pos z] at h'
        subst h'
        have g1 := hy a List.mem_cons_self
        rcases List.mem_cons.mp hn with e | e
        · exact e
        · have := hb.2 n e; omega
      · rw [if_neg z] at h'
        subst h'
        have g1 := hy b (List.mem_cons_of_mem _ hb.1)
        rcases List.mem_cons.mp hn with e | e
        · subst e; omega
        · have := hb.2 n e; omega
end
end SL

namespace SL
open PySem PySem.Spec PyProof.Rows L2
/-! # max(x), min(x), x a list or a tuple of ints -/
def IsMax (l : List Int) (m : Int) : Prop := m ∈ l ∧ ∀ y ∈ l, y ≤ m
def IsMin (l : List Int) (m : Int) : Prop := m ∈ l ∧ ∀ y ∈ l, m ≤ y
open Classical in
/-- the one that is so, if there is one -/
noncomputable def theOne (p : Int → Prop) : Option Int := if h : ∃ m, p m then some h.choose else none
theorem theOne_ok {p : Int → Prop} {m : Int} (h : theOne p = some m) : p m := by
  unfold theOne at h
  split at h
  · rename_i e
    cases h
    exact e.choose_spec
  · cases h
theorem theOne_is {p : Int → Prop} {m : Int} (h : p m) (u : ∀ k, p k → k = m) : theOne p = some m := by
  unfold theOne
  have e : ∃ m, p m := ⟨m, h⟩
  rw [dif_pos e, u _ e.choose_spec]
theorem max_one {l : List Int} {m k : Int} (h : IsMax l m) (g : IsMax l k) : k = m := by
  have a := h.2 k g.1
  have b := g.2 m h.1
  omega
theorem min_one {l : List Int} {m k : Int} (h : IsMin l m) (g : IsMin l k) : k = m := by
  have a := h.2 k g.1
  have b := g.2 m h.1
  omega
noncomputable def oBestX (P : List Int → Int → Prop) : OpN := fun ws st => match ws with
  | [x] => match (seqW st x).bind intsW with
    | some bs => match theOne (P bs) with
      | some m => .ok (.int m) st
      | none => .bad
    | none => .bad
  | _ => .bad
section
variable {X : Cx}
theorem os_maxX : OpNS X (oBestX IsMax) (fun vs H Q => rMax X.K vs H Q ∨ rMaxT X.K vs H Q) := by
  intro Wx hid μ st σ H Q ws vs k r P
  unfold oBestX at P
  split at P
  · rename_i x
    obtain ⟨v, rfl, r1⟩ := reps1 (ws := []) r
    split at P
    · rename_i bs e
      split at P
      · rename_i m em
        have g := theOne_ok em
        cases e1 : seqW st x with
        | none => rw [e1] at e; cases e
        | some us =>
          rw [e1] at e
          obtain ⟨a, xs, rfl, h1, h2⟩ := seqW_at k e1 r1
          rw [intsW_eq e] at h2
          rw [reps_ints h2] at h1
          have hne : 0 < bs.length := List.length_pos_of_mem g.1
          have fin : ∀ n, n ∈ bs → (∀ y, y ∈ bs → y ≤ n) → Q (.int n) H := fun n n1 n2 => by
            rw [max_one g ⟨n1, n2⟩]
            exact P μ H _ k .refl rep_int
          rcases h1 with h1 | h1
          · exact .inl ⟨a, bs, rfl, h1, hne, fin⟩
          · exact .inr ⟨a, bs, rfl, h1, hne, fin⟩
      · exact P.elim
    · exact P.elim
  · exact P.elim
theorem os_minX : OpNS X (oBestX IsMin) (fun vs H Q => rMin X.K vs H Q ∨ rMinT X.K vs H Q) := by
  intro Wx hid μ st σ H Q ws vs k r P
  unfold oBestX at P
  split at P
  · rename_i x
    obtain ⟨v, rfl, r1⟩ := reps1 (ws := []) r
    split at P
    · rename_i bs e
      split at P
      · rename_i m em
        have g := theOne_ok em
        cases e1 : seqW st x with
        | none => rw [e1] at e; cases e
        | some us =>
          rw [e1] at e
          obtain ⟨a, xs, rfl, h1, h2⟩ := seqW_at k e1 r1
          rw [intsW_eq e] at h2
          rw [reps_ints h2] at h1
          have hne : 0 < bs.length := List.length_pos_of_mem g.1
          have fin : ∀ n, n ∈ bs → (∀ y, y ∈ bs → n ≤ y) → Q (.int n) H := fun n n1 n2 => by
            rw [min_one g ⟨n1, n2⟩]
            exact P μ H _ k .refl rep_int
          rcases h1 with h1 | h1
          · exact .inl ⟨a, bs, rfl, h1, hne, fin⟩
          · exact .inr ⟨a, bs, rfl, h1, hne, fin⟩
      · exact P.elim
    · exact P.elim
  · exact P.elim
theorem cr_maxX (hc : X.calm = true) : CallR X (.builtin "max") (fun vs H Q => rMax X.K vs H Q ∨ rMaxT X.K vs H Q) := (cr_max hc).or (cr_maxT hc)
theorem cr_minX (hc : X.calm = true) : CallR X (.builtin "min") (fun vs H Q => rMin X.K vs H Q ∨ rMinT X.K vs H Q) := (cr_min hc).or (cr_minT hc)
end
end SL

namespace SL
open PySem PySem.Spec PyProof.Rows L2
/-! ## != of own instances: object.__ne__ asks the own __eq__ -/
section
variable {prog : Program} {w : World} {A : Around} {E : Value → Shared → Prop} {s : Shared} {K : PySem.W.Frag} {x y C f : Addr} {ox oy : Obj} {od od2 : Option Obj}
theorem ne_bound {M : Model} {args : List Value} {Q : Option Value → Shared → Prop} (hK : K.In s.heap) (I : PySem.W.InstAt s.heap x ox C od) (hs : PySem.W.findIn K (.ref C) "__ne__" = some (some (.builtin "object.__ne__")))
    (h : wpAny M A (call (.builtin "object.__ne__") (.ref x :: args)) (fun v => Q (some v)) E s) : wpAny M A (callSpecialIfBound? (.ref x) "__ne__" args) Q E s := by
  have last : wpAny M A (call (.builtin "object.__ne__") ([.ref x] ++ args) >>= fun v => pure (some v)) Q E s := wpAny_bind (wpAny_mono h (fun _ _ z => wpAny_pure z) fun _ _ z => z)
  simp only [callSpecialIfBound?, bindSpecialIfBound?]
  refine wpAny_holding (wpAny_bind ?_)
  refine wpAny_bind (wpAny_bind (I.type.here ((PySem.W.looks_findIn hK hs).here (wpAny_bind (wpAny_askSetting (wpAny_ite ?_))))))
  split
  · exact wpAny_bind (wpAny_of_eq (PySem.F.cmp_object.ne.bind _) (wpAny_pure (by exact last)))
  · exact wpAny_tryCatch (wpAny_bind (wpAny_of_eq (PySem.F.cmp_object.ne.bind _) (wpAny_pure (by exact last))))
theorem ne_entry (hK : K.In s.heap) (I : PySem.W.InstAt s.heap x ox C od) (hu : A.units < cLine) (he : PySem.W.findIn K (.ref C) "__eq__" = some (some (.ref f))) (hf : PySem.W.isFn K (.ref f) = true) {Q : Fin → Shared → Prop}
    (h : wpAny (model prog w) A (call (.ref f) [.ref x, .ref y]) (fun v s' => ∃ b, v = .bool b ∧ Q (.done (.ret (.bool (!b)))) s') E s) : wpAny (model prog w) A (Builtin.«object.__ne__» ⟨[.ref x, .ref y], []⟩) Q E s := by
  unfold Builtin.«object.__ne__»
  repeat (first
    | with_reducible refine wpAny_cRoomFor hu ?_
    | (refine wpAny_bind (m := callSpecialIfBound? (.ref x) (Str.ofString "__eq__") [.ref y])
        (PySem.W.ifBound_K hK I he hf (wpAny_mono h (fun r s' z => by
          obtain ⟨b, rfl, q⟩ := z
          repeat (first | exact q | exact wpAny_pure q | exact wpAny_truthy_bool q | (refine wpAny_bind (m := truthy (.bool _)) (wpAny_truthy_bool ?_)) | wp_step)) fun _ _ z => z)))
    | wp_step)
theorem rc_ne (hu : A.units + 1 < cLine) (hK : K.In s.heap) (I : PySem.W.InstAt s.heap x ox C od) (J : PySem.W.InstAt s.heap y oy C od2) (hm : PySem.W.mroIn K C (.type "object") = some true)
    (hs : PySem.W.findIn K (.ref C) "__ne__" = some (some (.builtin "object.__ne__"))) (he : PySem.W.findIn K (.ref C) "__eq__" = some (some (.ref f))) (hf : PySem.W.isFn K (.ref f) = true) {Q : Value → Shared → Prop}
    (h : wpAny (model prog w) A.in1 (call (.ref f) [.ref x, .ref y]) (fun v s' => ∃ b, v = .bool b ∧ Q (.bool (!b)) s') E s) : wpAny (model prog w) A (richCompare .NotEq (.ref x) (.ref y)) Q E s := by
  have one : wpAny (model prog w) A (tryCompare (.ref x) "__ne__" (.ref y)) (fun r s' => ∃ v, r = some v ∧ Q v s') E s := by
    unfold tryCompare
    refine wpAny_bind (ne_bound hK I hs (wpAny_call (codeAny_call_builtin PySem.F.cmp_object.ne.plain PySem.F.cmpEntry_ne (PySem.W.check_slot PySem.F.cmpKind_ne PySem.F.cmpSplit_ne (I.type.andThen (PySem.W.looks_mroIn hK hm)) (PySem.F.cmpArgs_ne _ _)
      (ne_entry (A := A.in1) hK I hu he hf (wpAny_mono h (fun v s' z => ?_) fun _ _ z => z))))))
    obtain ⟨b, rfl, q⟩ := z
    exact ⟨b, rfl, wpAny_pure ⟨_, rfl, q⟩⟩
  simp only [richCompare, cmpInfo_NotEq, oneThing_ref]
  refine wpAny_holding (wpAny_bind (wpAny_cRoomFor (Nat.lt_of_succ_lt hu) (wpAny_bind (I.type.here (wpAny_bind (J.type.here ?_))))))
  rw [show (Value.ref C != Value.ref C) = false from by simp]
  simp only [Bool.false_eq_true, if_false]
  refine wpAny_bind (wpAny_pure ?_)
  simp only [Bool.false_eq_true, if_false]
  refine wpAny_bind (wpAny_mono one (fun r s' z => ?_) fun _ _ z => z)
  obtain ⟨v, rfl, q⟩ := z
  exact wpAny_pure q
end
structure NeIs (K : PySem.W.Frag) (mg : Str → Option Value) (c : Str) : Prop where
  ex : ∃ C : Addr, mg c = some (.ref C) ∧ PySem.W.findIn K (.ref C) "__ne__" = some (some (.builtin "object.__ne__")) ∧ PySem.W.mroIn K C (.type "object") = some true
def oNeO (c : Str) (F : Fn) : Op2 := fun x y st => match insW st x, insW st y with
  | some (d, _, _), some (e, _, _) => if d = c ∧ e = c then (match F [x, y] st with
    | .ok (.bl b) st1 => .ok (.bl (!b)) st1
    | _ => .bad) else .bad
  | none, none => oNe x y st
  | _, _ => .bad
def rOwnN (K : PySem.W.Frag) (mg : Str → Option Value) (C : Addr) (F : Fn) : R2 := fun x y H Q => ∃ a b dx dy fs gs, x = .ref a ∧ y = .ref b ∧ H a = some (.ins C dx fs) ∧ H b = some (.ins C dy gs) ∧ spF K mg 2 F [x, y] H (fun v H2 => ∃ t, v = .bl t ∧ Q (.bl (!t)) H2) fun _ _ _ => False
section
variable {X : Cx} {Wx : Wish}
theorem op_ownN {k : Nat} {C g : Addr} {fd : FuncData} {ps : List Str} {F : Fn} (G : FnOk X.prog X.w X.K X.mg X.base (L2.CX X.prog X.w) k g fd ps (spF X.K X.mg 2 F)) (he : PySem.W.findIn X.K (.ref C) "__eq__" = some (some (.ref g))) (hf : PySem.W.isFn X.K (.ref g) = true) (B : Binds X.K fd ps []) (hs : PySem.W.findIn X.K (.ref C) "__ne__" = some (some (.builtin "object.__ne__"))) (hm : PySem.W.mroIn X.K C (.type "object") = some true) (hr : Room (k + 1) X.A) :
    OpR X (compareOp .NotEq) (rOwnN X.K X.mg C F) := by
  intro pins s σ H x y v u Q J rx ry hq
  obtain ⟨a, b, dx, dy, fs, gs, rfl, rfl, h1, h2, q⟩ := hq
  cases rx
  cases ry
  show wpAny (model X.prog X.w) X.A (richCompare .NotEq (.ref a) (.ref b)) (EP X pins σ Q) X.xe s
  obtain ⟨mA, i1, _⟩ := ins_get J.hok h1
  obtain ⟨mB, i2, _⟩ := ins_get J.hok h2
  obtain ⟨oa, i1, _⟩ := i1.look
  obtain ⟨ob, i2, _⟩ := i2.look
  have hu : X.A.units + 1 < cLine := by have := hr.un; omega
  refine rc_ne hu J.kIn i1 i2 hm hs he hf ?_
  have ll := G.len _ _ _ _ q
  have rr : Vals [V.ref a, V.ref b] [Value.ref a, Value.ref b] := .cons rfl (.cons rfl .nil)
  have bb := B s [.ref a, .ref b] J.kIn (by rw [List.append_nil]; exact ll)
  rw [List.append_nil] at bb
  have e0 : Env0 X.prog X.w X.K X.mg X.base X.A.in1 X.stack s H := by
    have e := J.env0
    exact ⟨e.frames, e.mod, e.bs, e.bsz, e.funs, e.frf, e.hok, e.bare⟩
  refine wpAny_call (codeAny_mono (G.run X.A.in1 X.stack s H ⟨[.ref a, .ref b], []⟩ [.ref a, .ref b] [.ref a, .ref b] _ _ hr.in1 e0 bb rr q) fun o s' z => ?_)
  cases o with
  | error e =>
    obtain ⟨_, _, _, _, _, _, _, _, _, _, _, _, z⟩ := z
    exact z.elim
  | ok fl =>
    cases fl with
    | ret w =>
      obtain ⟨t, H', J', rz, ⟨b, ez, ex⟩⟩ := J.after z
      subst ez
      cases rz
      exact ⟨b, rfl, .bl (!b), H', J', rfl, ex⟩
    | next => exact False.elim z
    | brk => exact False.elim z
    | cont => exact False.elim z
theorem os_neO {A : Addr} {c : Str} {F : Fn} (hm : X.mg c = some (.ref A)) : Op2S X (oNeO c F) (fun x y H Q => rNeD X.K x y H Q ∨ rOwnN X.K X.mg A F x y H Q) := by
  intro Wx' hid μ st σ H Q w u x y k1 rx ry P
  unfold oNeO at P
  split at P
  · rename_i d n1 w1 e n2 w2 h1 h2
    split at P
    · rename_i hde
      obtain ⟨rfl, rfl⟩ := hde
      obtain ⟨p, D, dx, us, rfl, g1, g2, g3, g4⟩ := insW_at k1 h1 rx
      obtain ⟨q, D', dy, us', rfl, g1', g2', g3', g4'⟩ := insW_at k1 h2 ry
      rw [hm] at g1 g1'
      cases g1
      cases g1'
      refine .inr ⟨p, q, dx, dy, _, _, rfl, rfl, g3, g3', hid, μ, st, [w, u], rfl, k1, .cons rx (.cons ry .nil), ?_⟩
      cases z : F [w, u] st with
      | bad => rw [z] at P; exact P.elim
      | err e s => rw [z] at P; exact P.elim
      | ok r st1 =>
        rw [z] at P
        cases r with
        | bl t =>
          intro μ' H' v k' g' rv
          exact ⟨t, rep_bl_inv rv, P μ' H' _ k' g' rep_bl⟩
        | _ => exact P.elim
    · exact P.elim
  · exact .inl (os_ne _ hid μ st σ H Q w u x y k1 rx ry P)
  · exact P.elim
theorem op_neO {k j : Nat} {A g : Addr} {c : Str} {F : Fn} {fd : FuncData} {ps : List Str} (C : Ctx X Wx j) (hk : k + 1 ≤ j) (N : NeIs X.K X.mg c) (hm : X.mg c = some (.ref A)) (G : FnOk X.prog X.w X.K X.mg X.base (L2.CX X.prog X.w) k g fd ps (spF X.K X.mg 2 F)) (he : PySem.W.findIn X.K (.ref A) "__eq__" = some (some (.ref g))) (hf : PySem.W.isFn X.K (.ref g) = true) (B : Binds X.K fd ps []) :
    OpR X (compareOp .NotEq) (fun x y H Q => rNeD X.K x y H Q ∨ rOwnN X.K X.mg A F x y H Q) := by
  obtain ⟨A2, hm2, hs, ho⟩ := N.ex
  rw [hm] at hm2
  cases hm2
  exact (op_neD C.room.units).or (op_ownN G he hf B hs ho (C.room.mono hk))
theorem ev_neO {k j : Nat} {c : Str} {F : Fn} {a b : Expr} {f g : Sem} {pos : Pos} (I : EqIs X.prog X.w X.K X.mg X.base c k F) (N : NeIs X.K X.mg c) (C : Ctx X Wx j) (hk : k + 1 ≤ j) (ha : EV X Wx a f) (hb : EV X Wx b g) (hmk : behindInMarks .NotEq b = false) : EV X Wx (.Compare a [.NotEq] [b] pos) (e2 (oNeO c F) f g) := by
  obtain ⟨A, ad, fd, ps, hm, G, he, hf, B⟩ := I.ex
  exact ev_cmp (op_neO C hk N hm G he hf B) (os_neO hm) ha hb hmk
theorem tv_neO {k j : Nat} {c : Str} {F : Fn} {a b : Expr} {f g : Sem} {pos : Pos} (I : EqIs X.prog X.w X.K X.mg X.base c k F) (N : NeIs X.K X.mg c) (C : Ctx X Wx j) (hk : k + 1 ≤ j) (ha : EV X Wx a f) (hb : EV X Wx b g) (hmk : behindInMarks .NotEq b = false) : TV X Wx (.Compare a [.NotEq] [b] pos) (bOf (e2 (oNeO c F) f g)) := by
  obtain ⟨A, ad, fd, ps, hm, G, he, hf, B⟩ := I.ex
  exact tv_cmp (op_neO C hk N hm G he hf B) (os_neO hm) ha hb hmk
theorem os_eqO {A : Addr} {c : Str} {F : Fn} (hm : X.mg c = some (.ref A)) : Op2S X (oEqO c F) (fun x y H Q => rEqD X.K x y H Q ∨ rOwn X.K X.mg A F x y H Q) := by
  intro Wx' hid μ st σ H Q w u x y k1 rx ry P
  unfold oEqO at P
  split at P
  · rename_i d n1 w1 e n2 w2 h1 h2
    split at P
    · rename_i hde
      obtain ⟨rfl, rfl⟩ := hde
      obtain ⟨p, D, dx, us, rfl, g1, g2, g3, g4⟩ := insW_at k1 h1 rx
      obtain ⟨q, D', dy, us', rfl, g1', g2', g3', g4'⟩ := insW_at k1 h2 ry
      rw [hm] at g1 g1'
      cases g1
      cases g1'
      refine .inr ⟨p, q, dx, dy, _, _, rfl, rfl, g3, g3', hid, μ, st, [w, u], rfl, k1, .cons rx (.cons ry .nil), ?_⟩
      cases z : F [w, u] st with
      | bad => rw [z] at P; exact P.elim
      | err e s => rw [z] at P; exact P.elim
      | ok r st1 =>
        rw [z] at P
        cases r with
        | bl t =>
          intro μ' H' v k' g' rv
          exact ⟨⟨t, rep_bl_inv rv⟩, P μ' H' _ k' g' rv⟩
        | _ => exact P.elim
    · exact P.elim
  · exact .inl (os_eq _ hid μ st σ H Q w u x y k1 rx ry P)
  · exact P.elim
theorem tv_eqO {k j : Nat} {c : Str} {F : Fn} {a b : Expr} {f g : Sem} {pos : Pos} (I : EqIs X.prog X.w X.K X.mg X.base c k F) (C : Ctx X Wx j) (hk : k ≤ j) (ha : EV X Wx a f) (hb : EV X Wx b g) (hmk : behindInMarks .Eq b = false) : TV X Wx (.Compare a [.Eq] [b] pos) (bOf (e2 (oEqO c F) f g)) := by
  obtain ⟨A, ad, fd, ps, hm, G, he, hf, B⟩ := I.ex
  exact tv_cmp ((op_eqD C.room.units).or (op_own G he hf B (C.room.mono hk))) (os_eqO hm) ha hb hmk
end
end SL

/-! # sorted of a tuple of ints; a list, times an int -/
namespace SLs
open PySem PySem.Spec PyProof.Rows Srt SrtO
section
variable {prog : Program} {w : World} {A : Around} {E : Value → Shared → Prop} {s : Shared}
theorem collect_tupL {t : Addr} {us : List Value} {Q : List Value → Shared → Prop} (ht : s.heap.IsTuple t us.toArray) (hu : us.length ≤ sizeLine)
    (hQ : Q us { s with heap := (s.heap.push (seqObj "list" #[] 0)).update s.heap.objs.size (Obj.mapSeq (· ++ us.toArray)) }) : wpAny (model prog w) A (collect (.ref t)) Q E s := by
  obtain ⟨ob, g1, g2, g3, g4⟩ := id ht
  have g1' : (s.heap.push (seqObj "list" #[] 0)).get? t = some ob := Heap.get?_push_of_some _ g1
  have gN : (s.heap.push (seqObj "list" #[] 0)).get? s.heap.objs.size = some (seqObj "list" #[] 0) := Heap.get?_push_size _ rfl
  have tt : (Value.type "tuple" == Value.type "tuple") = true := by rfl
  unfold collect
  refine wpAny_bind (wpAny_runValue (codeAny_builtin entry_proto_collect' ?_))
  show wpAny _ _ (newList [] >>= fun l => again (.builtin "list.__iadd__" ⟨[l, .ref t], []⟩)) _ _ s
  refine wpAny_bind (wpAny_newList (wpAny_pure ⟨Code.quiet_builtin _ (by decide +kernel), codeAny_builtin entry_list_iadd' ?_⟩))
  show wpAny _ _ (Builtin.List.listExtendWith (.ref s.heap.objs.size) (.ref t) (.ref s.heap.objs.size)) _ _ { s with heap := s.heap.push (seqObj "list" #[] 0) }
  unfold Builtin.List.listExtendWith
  refine wpAny_bind (wpAny_typeOf (T := "tuple") ⟨ob, g1', g2⟩ ?_)
  rw [if_pos (by rw [tt]; simp)]
  refine wpAny_bind (listItems_at g1' g4 (wpAny_bind (listItems_at (xs := #[]) (n := 0) gN rfl ?_)))
  rw [if_neg (by simp)]
  refine wpAny_bind (listUpdate_at (xs := #[]) (n := 0) gN rfl (wpAny_pure ?_) (Nat.zero_le _) (by show (#[] ++ us.toArray).size ≤ sizeLine + 1; simp only [Array.size_append, List.size_toArray, List.length_nil]; omega))
  show wpAny (model prog w) A (load s.heap.objs.size >>= fun o => match o.data with
      | .seq xs _ => pure xs.toList
      | _ => unsupported "internal:collect") Q E { s with heap := (s.heap.push (seqObj "list" #[] 0)).update s.heap.objs.size (Obj.mapSeq (· ++ us.toArray)) }
  refine wpAny_bind (wpAny_load (get?_update_seq gN _) ?_)
  show wpAny _ _ (pure ((#[] : Array Value) ++ us.toArray).toList) Q E _
  rw [show ((#[] : Array Value) ++ us.toArray).toList = us by simp]
  exact wpAny_pure hQ
theorem sorted_tupO {t : Addr} {us : List Value} {lt0 : Value → Value → Bool} {Q : Value → Shared → Prop} (O : Swo lt0) (ht : s.heap.IsTuple t us.toArray) (hu : us.length ≤ sizeLine)
    (hS : 2 ≤ us.length → ∀ (g : Heap) (a : Addr), SortableO prog w A.in1.in1 { s with heap := g } a us lt0)
    (hQ : ∀ out : List Value, Srtd lt0 out → Stb lt0 out us → Q (.ref (s.heap.objs.size + 1)) { s with heap := sortedAll s.heap us out.toArray }) :
    wpAny (model prog w) A (call (.builtin "sorted") [.ref t]) Q E s := by
  have z1 : ((s.heap.push (seqObj "list" #[] 0)).update s.heap.objs.size (Obj.mapSeq (· ++ us.toArray))).objs.size = s.heap.objs.size + 1 := by rw [Heap.size_update, size_push']
  have z2 : (((s.heap.push (seqObj "list" #[] 0)).update s.heap.objs.size (Obj.mapSeq (· ++ us.toArray))).push (seqObj "list" us.toArray 0)).get? (s.heap.objs.size + 1) = some (seqObj "list" us.toArray 0) := by rw [← z1]; exact Heap.get?_push_size _ rfl
  refine Calls.call_function_entry kind_sorted plain_sorted entry_sorted (args_sorted1 _) ?_
  unfold Builtin.«sorted»
  refine wpAny_bind (m := checkCount "sorted" 1 1 _) (wpAny_pure (wpAny_bind (collect_tupL ht hu (wpAny_bind (wpAny_newList ?_ hu)))))
  show wpAny _ _ _ _ _ { s with heap := ((s.heap.push (seqObj "list" #[] 0)).update s.heap.objs.size (Obj.mapSeq (· ++ us.toArray))).push (seqObj "list" us.toArray 0) }
  rw [z1]
  refine wpAny_bind (wpAny_holding (wpAny_call_entry slot_list_sort ⟨_, z2, rfl⟩ entry_list_sort (list_sort_ord O z2 hu (fun h2 => hS h2 _ _) fun out a1 a2 => ⟨_, rfl, ?_⟩) (args_list_sort _)))
  exact wpAny_pure ⟨_, rfl, hQ out a1 a2⟩
end
end SLs
namespace SL
open PySem PySem.Spec PyProof.Rows L2
def rSortIT (K : PySem.W.Frag) : List V → Hp → VK → Prop := fun vs H Q => ∃ (a : Addr) (ns : List Int), vs = [V.ref a] ∧ SqT K H a (ns.map V.int) ∧
  ∀ (ms : List Int) (p : Addr), ms.Perm ns → ms.Pairwise (· ≤ ·) → H p = none → Q (.ref p) (upd H p (.lst (ms.map V.int)))
def sortI (ns : List Int) : List Int := ns.mergeSort fun a b => decide (a ≤ b)
theorem sortI_of {ms ns : List Int} (p : ms.Perm ns) (h : ms.Pairwise (· ≤ ·)) : ms = sortI ns := by
  refine one_order (p.trans (List.mergeSort_perm ns _).symm) h ?_ fun a _ b _ h1 h2 => Int.le_antisymm h1 h2
  have z := List.pairwise_mergeSort (le := fun a b : Int => decide (a ≤ b)) (fun a b c h1 h2 => by simp at h1 h2 ⊢; omega) (fun a b => by simp; omega) ns
  exact z.imp fun {a b} h => of_decide_eq_true h
noncomputable def oSortX : OpN := fun ws st => match ws with
  | [x] => match (seqW st x).bind intsW with
    | some ns => .ok (.lst ((sortI ns).map .int)) st
    | none => oSortT ws st
  | _ => .bad
noncomputable def oMulL : Op2 := fun x y st => match x, y with
  | .lst ws, .int k => if dec (-1000 ≤ k ∧ k ≤ 1000 ∧ ws.length ≤ 1000) = true then .ok (.lst (List.replicate k.toNat ws).flatten) st else .bad
  | x, y => oMulX x y st
section
variable {X : Cx}
theorem cr_sortIT : CallR X (.builtin "sorted") (rSortIT X.K) := by
  intro pins s σ H vs us Q J r hq
  obtain ⟨a, ns, rfl, hs, q⟩ := hq
  obtain ⟨its, rr, hT, hz⟩ := J.tuple hs
  rw [Vals.ref1 r]
  have ii := rr.ints
  refine SLs.sorted_tupO SrtO.swo_int hT (by rw [← rr.length]; exact hz) (fun h2 g b => SrtO.ints_sortable ii h2) fun out a1 a2 => ?_
  obtain ⟨b1, b2, b3⟩ := SrtO.ints_out ii a1 a2
  obtain ⟨n, hn⟩ := sortedAll_at s.heap its out.toArray
  have hl : ((out.map SrtO.iv).map V.int).length ≤ sizeLine := by
    rw [List.length_map, b2.length_eq]
    rwa [List.length_map] at hz
  exact ⟨.ref _, upd H (s.heap.objs.size + 1) (.lst ((out.map SrtO.iv).map V.int)), J.laid (t' := s.toks) (fun _ _ => sortedAll_old) (Nat.le_succ _) ⟨hl, out, n, vals_of_ints b1, hn⟩, rfl, q _ _ b2 b3 (J.hok.fresh (Nat.le_succ _))⟩
def rSortX (K : PySem.W.Frag) : List V → Hp → VK → Prop := fun vs H Q => (rSortedI K vs H Q ∨ rSortIT K vs H Q) ∨ rSortAny K vs H Q
theorem cr_sortX : CallR X (.builtin "sorted") (rSortX X.K) := (cr_sortedI.or cr_sortIT).or cr_sortAny
theorem os_sortX : OpNS X oSortX (rSortX X.K) := by
  intro Wx hid μ st σ H Q ws vs k r P
  unfold oSortX at P
  split at P
  · rename_i x
    split at P
    · rename_i ns e
      obtain ⟨v, rfl, r1⟩ := reps1 (ws := []) r
      cases e1 : seqW st x with
      | none => rw [e1] at e; cases e
      | some us =>
        rw [e1] at e
        obtain ⟨a, xs, rfl, h1, h2⟩ := seqW_at k e1 r1
        rw [intsW_eq e] at h2
        rw [reps_ints h2] at h1
        have q : ∀ (ms : List Int) (p : Addr), ms.Perm ns → ms.Pairwise (· ≤ ·) → H p = none → Q (.ref p) (upd H p (.lst (ms.map V.int))) := fun ms p pm sr hp => by
          rw [sortI_of pm sr]
          exact ok_new P k hp fun F l e => rep_lst e (ro_reps _)
        rcases h1 with h1 | h1
        · exact .inl (.inl ⟨a, ns, rfl, h1, q⟩)
        · exact .inl (.inr ⟨a, ns, rfl, h1, q⟩)
    · exact .inr (os_sortT _ hid μ st σ H Q _ vs k r P)
  · exact P.elim
theorem or_mulL : OpR X (binaryOp .Mult) (fun x y H Q => rRep x y H Q ∨ rMulX X.K x y H Q) := op_rep.or or_mulX
theorem os_mulL : Op2S X oMulL (fun x y H Q => rRep x y H Q ∨ rMulX X.K x y H Q) := by
  intro Wx hid μ st σ H Q w u x y k rx ry P
  unfold oMulL at P
  split at P
  · rename_i ws m
    cases rep_int_inv ry
    split at P
    · rename_i hg
      obtain ⟨g1, g2, g3⟩ := dec_of hg
      obtain ⟨a, vs, rfl, h1, h2⟩ := rep_lst_inv rx
      have hl := h2.length
      refine .inl ⟨a, m, vs, rfl, rfl, Fz.le.lst h1, by omega, by omega, ?_, fun p hp => ok_new P k hp fun F l e => rep_lst e (reps_rep (h2.mono l (.refl _)) _)⟩
      have : vs.length * m.toNat ≤ 1000 * 1000 := Nat.mul_le_mul (by omega) (by omega)
      rw [sizeLine_eq]; omega
    · exact P.elim
  · exact .inr (os_mulX _ hid μ st σ H Q _ _ _ _ k rx ry P)
end
end SL

namespace SL
open PySem PySem.Spec PyProof.Rows L2
/-! ## a, b = a list or a tuple -/
def gTl (n : Nat) (r : TgsF) : TgF := fun w fr st => match seqW st w with
  | some ws => if ws.length = n then r ws fr st else none
  | none => none
section
variable {X : Cx} {Wx : Wish}
theorem pg_two {es : List Expr} {k n : Nat} {t : TGs} {pos : Pos} (hc : X.calm = true) (h : PGs X es t) (hn : (assignEach es X.env).length = n) (hst : (assignEach es X.env).findIdx? (·.1) = none) :
    PG X (.Tuple es k pos) (fun v σ H Q => gTup X.K n t v σ H Q ∨ gUnl X.K n t v σ H Q) :=
  ⟨fun pins s σ H v u Q I r q => q.elim (fun q => (pg_tup hc h hn hst).run pins s σ H v u Q I r q) fun q => (pg_unl hc h hn hst).run pins s σ H v u Q I r q⟩
theorem gv_tl {es : List Expr} {k n : Nat} {r : TgsF} {sl : List Nat} {pos : Pos} (hc : X.calm = true) (h : GsV X Wx es r sl) (hn : (assignEach es X.env).length = n := by rfl) (hst : (assignEach es X.env).findIdx? (·.1) = none := by rfl) : GV X Wx (.Tuple es k pos) (gTl n r) sl :=
  PGm (pg_two hc h hn hst) fun v σ H Q ⟨μ, st, hid, fr, w, fr', S, rr, e, q⟩ => by
    unfold gTl at e
    split at e
    · rename_i ws e1
      split at e
      · rename_i hl
        obtain ⟨a, vs, rfl, h1, h2⟩ := seqW_at S.sto e1 rr
        rcases h1 with h1 | h1
        · exact .inr ⟨a, vs, rfl, h1, by rw [← h2.length]; exact hl, μ, st, hid, fr, ws, fr', S, h2, e, q⟩
        · exact .inl ⟨a, vs, rfl, h1, by rw [← h2.length]; exact hl, μ, st, hid, fr, ws, fr', S, h2, e, q⟩
      · cases e
    · cases e
end
end SL

/-! # enumerate of a tuple -/
namespace SLe
open PySem Builtin
open AutoSeq1 (wpAny_loadPart')
section
variable {prog : Program} {w : World} {A : Around} {E : Value → Shared → Prop} {s : Shared}
theorem nextT_item {it l : Addr} {i : Nat} {items} {x : Value} {Q : Value → Shared → Prop} (zit : s.heap.IsTupleIter it l i)
    (zl : s.heap.IsTuple l items) (zx : items[i]? = some x)
    (zQ : ∀ m', m'.IsTupleIter it l (i + 1) → Heap.SameBut it s.heap m' → Q x { s with heap := m' }) :
    wpAny (model prog w) A (Builtin.SmallTypes.nextOf (.ref it)) Q E s := by
  obtain ⟨o, zo, zc, zd⟩ := id zit
  obtain ⟨zob, zol, _, zn, zdl⟩ := zl
  unfold Builtin.SmallTypes.nextOf
  refine wpAny_bind (wpAny_callSpecial?_slot (name := Str.ofString "__next__") zit.typeIs F.slot_tuple_iterator_next
    (wpAny_call_entry F.slot_tuple_iterator_next zit.typeIs F.entry_tuple_iterator_next ?_ (F.args_tuple_iterator_next_1 _)))
  show wpAny _ _ (field (.ref it) 0 >>= _) _ _ s
  refine wpAny_bind (wpAny_field zo zd (x := .ref l) rfl ?_)
  show wpAny _ _ (if (Value.ref l == Value.none) = true then _ else _) _ _ s
  rw [if_neg (show ¬ ((Value.ref l == Value.none) = true) from Bool.false_ne_true)]
  show wpAny _ _ (field (.ref it) 1 >>= _) _ _ s
  refine wpAny_bind (wpAny_field zo zd (x := .int i 0) rfl ?_)
  show wpAny _ _ (seqItems? (.ref l) >>= _) _ _ s
  refine wpAny_bind (wpAny_seqItems zol zdl ?_)
  simp only [Int.toNat_natCast, zx]
  refine wpAny_bind (wpAny_setField zo zd (by simp) (wpAny_pure ⟨x, rfl, wpAny_pure (zQ _ ?_ (Heap.SameBut.update ..))⟩))
  exact ⟨_, Heap.get?_update_self _ zo (Obj.isFreed_of_fields (Obj.data_mapFields zd _)), (Obj.cls_mapFields ..).trans zc, by
    rw [Obj.data_mapFields zd]; simp [rawInt]⟩

theorem nextT_end {it l : Addr} {i : Nat} {items} {Q : Value → Shared → Prop} (zh : A.handled = none)
    (zit : s.heap.IsTupleIter it l i) (zl : s.heap.IsTuple l items) (zx : items[i]? = none)
    (zE : ∀ m' e, Heap.ExtBut it s.heap m' → (∃ o, m'.get? e = some o ∧ o.cls = .type "StopIteration") → E (.ref e) { s with heap := m' }) :
    wpAny (model prog w) A (Builtin.SmallTypes.nextOf (.ref it)) Q E s := by
  obtain ⟨o, zo, zc, zd⟩ := id zit
  obtain ⟨zob, zol, _, zn, zdl⟩ := zl
  unfold Builtin.SmallTypes.nextOf
  refine wpAny_bind (wpAny_callSpecial?_slot (name := Str.ofString "__next__") zit.typeIs F.slot_tuple_iterator_next
    (wpAny_call_entry F.slot_tuple_iterator_next zit.typeIs F.entry_tuple_iterator_next ?_ (F.args_tuple_iterator_next_1 _)))
  show wpAny _ _ (field (.ref it) 0 >>= _) _ _ s
  refine wpAny_bind (wpAny_field zo zd (x := .ref l) rfl ?_)
  show wpAny _ _ (if (Value.ref l == Value.none) = true then _ else _) _ _ s
  rw [if_neg (show ¬ ((Value.ref l == Value.none) = true) from Bool.false_ne_true)]
  show wpAny _ _ (field (.ref it) 1 >>= _) _ _ s
  refine wpAny_bind (wpAny_field zo zd (x := .int i 0) rfl ?_)
  show wpAny _ _ (seqItems? (.ref l) >>= _) _ _ s
  refine wpAny_bind (wpAny_seqItems zol zdl ?_)
  simp only [Int.toNat_natCast, zx]
  refine wpAny_bind (wpAny_rule (wpAny_bind (wpAny_setField zo zd (by simp) ?_)))
  show wpAny _ _ (newExc (.type "StopIteration") [] >>= _) _ _ _
  refine wpAny_bind ?_
  simp only [newExc, newTuple]
  refine wpAny_bind (wpAny_newObj_type ?_ (by size_fits))
  refine wpAny_bind (m := firstArgMember _ _) (wpAny_of_eq (a := Value.none) (by first | rfl | (simp only [firstArgMember]; rfl)) ?_)
  refine wpAny_newObj_type ?_ (by size_fits)
  simp only [raiseNew]
  refine wpAny_bind (wpAny_handled ?_)
  first | rw [show A.in1.handled = none from zh] | rw [zh]
  refine wpAny_bind (wpAny_pure (wpAny_throw ?_))
  exact zE _ _ (((Heap.SameBut.update ..).extBut.push _).push _) ⟨_, Heap.get?_push_size _ rfl, rfl⟩

theorem enumT_next {e it l : Addr} {i : Nat} {items : Array Value} {x was : Value} {Q : Value → Shared → Prop}
    (ze : IsEnum s.heap e it i was) (zit : s.heap.IsTupleIter it l i) (zl : s.heap.IsTuple l items) (zx : items[i]? = some x) (zne : e ≠ it)
    (zQ : ∀ m', IsEnumOut m' e it ((i : Int) + 1) x s.heap.objs.size → m'.IsTupleIter it l (i + 1) →
      m'.get? s.heap.objs.size = some { cls := .type "tuple", data := .seq #[.int i s.toks, x] } → m'.objs.size = s.heap.objs.size + 1 →
      (∀ b o, b ≠ e → b ≠ it → s.heap.get? b = some o → m'.get? b = some o) → Q (.ref s.heap.objs.size) { s with heap := m', toks := s.toks + 1 }) :
    wpAny (model prog w) A (Builtin.«enumerate.__next__» ⟨[.ref e], []⟩) (fun fin s' => ∃ v, fin = .done (.ret v) ∧ Q v s') E s := by
  obtain ⟨zp, g, d, tk, os⟩ := s
  show wpAny _ _ (field (.ref e) 2 >>= _) _ _ _
  refine wpAny_bind (wpAny_field ze rfl (x := .ref it) rfl ?_)
  refine wpAny_bind (nextT_item zit zl zx fun k1 zi1 zs1 => ?_)
  replace zs1 : Heap.SameBut it zp k1 := zs1
  have ze1 : IsEnum k1 e it i was := (zs1.2 e zne).trans ze
  show wpAny _ _ (field (.ref e) 3 >>= _) _ _ ⟨k1, g, d, tk, os⟩
  refine wpAny_bind (wpAny_field ze1 rfl (x := rawInt i) rfl ?_)
  show wpAny _ _ (field (.ref e) 4 >>= _) _ _ ⟨k1, g, d, tk, os⟩
  refine wpAny_bind (wpAny_field ze1 rfl (x := .none) rfl ?_)
  show wpAny _ _ (mkInt i >>= _) _ _ ⟨k1, g, d, tk, os⟩
  refine wpAny_bind (wpAny_mkInt ?_)
  show wpAny _ _ (setField (.ref e) 3 (rawInt ((i : Int) + 1)) >>= _) _ _ ⟨k1, g, d, tk + 1, os⟩
  refine wpAny_bind (wpAny_setField_rec ze1 (by simp) fun k2 ze2 zs2 => ?_)
  replace zs2 : Heap.SameBut e k1 k2 := zs2
  replace ze2 : IsEnum k2 e it ((i : Int) + 1) was := ze2
  show wpAny _ _ (setField (.ref e) 4 .none >>= _) _ _ ⟨k2, g, d, tk + 1, os⟩
  refine wpAny_bind (wpAny_setField_rec ze2 (by simp) fun k3 ze3 zs3 => ?_)
  replace zs3 : Heap.SameBut e k2 k3 := zs3
  replace ze3 : IsEnum k3 e it ((i : Int) + 1) was := ze3
  show wpAny _ _ (newTuple [.int i tk, x] >>= _) _ _ ⟨k3, g, d, tk + 1, os⟩
  refine wpAny_bind (wpAny_newTuple ?_)
  have ze4 : IsEnum (k3.push { cls := .type "tuple", data := .seq #[.int i tk, x] }) e it ((i : Int) + 1) was := Heap.get?_push_of_some _ ze3
  generalize zh4 : k3.push { cls := .type "tuple", data := .seq #[.int i tk, x] } = k4 at ze4
  have zsz : k3.objs.size = zp.objs.size := by rw [zs3.1, zs2.1, zs1.1]
  have zel : e < zp.objs.size := Heap.lt_size ze
  have zt4 : k4.get? zp.objs.size = some { cls := .type "tuple", data := .seq #[.int i tk, x] } := by rw [← zh4, ← zsz]; exact Heap.get?_push_size _ rfl
  have zz4 : k4.objs.size = zp.objs.size + 1 := by rw [← zh4, Heap.size_push, zsz]
  have zk4 : ∀ b o, b ≠ e → b ≠ it → zp.get? b = some o → k4.get? b = some o := fun b o zbe zbi zb => by
    rw [← zh4]; exact Heap.get?_push_of_some _ (zs3.extBut b o zbe (zs2.extBut b o zbe (zs1.extBut b o zbi zb)))
  have zi4 : k4.IsTupleIter it l (i + 1) := by
    rw [← zh4]; obtain ⟨o, zo, r⟩ := (zi1.extBut zs2.extBut (Ne.symm zne)).extBut zs3.extBut (Ne.symm zne); exact ⟨o, Heap.get?_push_of_some _ zo, r⟩
  show wpAny _ _ (Builtin.SmallTypes.ownedTupleIsFree (.ref e) >>= _) _ _ ⟨k4, g, d, tk + 1, os⟩
  rw [zsz]
  clear zh4 ze3 zs3 ze2 zs2 ze1 zs1 zi1 zsz k3 k2 k1
  refine wpAny_bind ?_
  · unfold Builtin.SmallTypes.ownedTupleIsFree
    refine wpAny_bind (wpAny_field ze4 rfl (x := .none) rfl (wpAny_pure ?_))
    simp only [if_true]
    refine wpAny_bind (wpAny_rule ?_)
    refine wpAny_bind (wpAny_field ze4 rfl (x := was) rfl ?_)
    refine wpAny_bind (wpAny_setField_rec ze4 (by simp) fun k5 ze5 zs5 => ?_)
    replace zs5 : Heap.SameBut e k4 k5 := zs5
    replace ze5 : IsEnum k5 e it ((i : Int) + 1) x := ze5
    show wpAny _ _ (Builtin.SmallTypes.ownedTupleHandOut (.ref e) (.ref zp.objs.size) >>= _) _ _ ⟨k5, g, d, tk + 1, os⟩
    refine wpAny_bind ?_
    · unfold Builtin.SmallTypes.ownedTupleHandOut
      refine wpAny_bind (wpAny_setField_rec ze5 (by simp) fun k6 ze6 zs6 => ?_)
      replace zs6 : Heap.SameBut e k5 k6 := zs6
      replace ze6 : IsEnumOut k6 e it ((i : Int) + 1) x zp.objs.size := ze6
      refine wpAny_setField_rec ze6 (by simp) fun k7 ze7 zs7 => ?_
      replace zs7 : Heap.SameBut e k6 k7 := zs7
      replace ze7 : IsEnumOut k7 e it ((i : Int) + 1) x zp.objs.size := ze7
      refine wpAny_bind (wpAny_letGo (wpAny_pure ⟨_, rfl, zQ k7 ze7 ?_ ?_ ?_ ?_⟩))
      · exact ((zi4.extBut zs5.extBut (Ne.symm zne)).extBut zs6.extBut (Ne.symm zne)).extBut zs7.extBut (Ne.symm zne)
      · exact zs7.extBut _ _ (Nat.ne_of_gt zel) (zs6.extBut _ _ (Nat.ne_of_gt zel) (zs5.extBut _ _ (Nat.ne_of_gt zel) zt4))
      · rw [zs7.1, zs6.1, zs5.1, zz4]
      · exact fun b o zbe zbi zb => zs7.extBut b o zbe (zs6.extBut b o zbe (zs5.extBut b o zbe (zk4 b o zbe zbi zb)))

theorem pyNextT_item {e it l : Addr} {i : Nat} {items : Array Value} {x was : Value} {Q : Option Value → Shared → Prop}
    (ze : IsEnum s.heap e it i was) (zit : s.heap.IsTupleIter it l i) (zl : s.heap.IsTuple l items) (zx : items[i]? = some x) (zne : e ≠ it)
    (zQ : ∀ m', IsEnumOut m' e it ((i : Int) + 1) x s.heap.objs.size → m'.IsTupleIter it l (i + 1) →
      m'.get? s.heap.objs.size = some { cls := .type "tuple", data := .seq #[.int i s.toks, x] } → m'.objs.size = s.heap.objs.size + 1 →
      (∀ b o, b ≠ e → b ≠ it → s.heap.get? b = some o → m'.get? b = some o) → Q (some (.ref s.heap.objs.size)) { s with heap := m', toks := s.toks + 1 }) :
    wpAny (model prog w) A (pyNext (.ref e)) Q E s := by
  have zT : s.TypeIs (.ref e) "enumerate" := ⟨_, ze, rfl⟩
  unfold pyNext
  exact wpAny_bind (wpAny_attempt (wpAny_callSpecial?_slot (name := Str.ofString "__next__") zT F.slot_enumerate_next
    (wpAny_call_entry F.slot_enumerate_next zT F.entry_enumerate_next
      (enumT_next ze zit zl zx zne fun m' a b c d k => wpAny_pure (zQ m' a b c d k)) (F.args_enumerate_next_1 _))))

theorem pyNextT_end {e it l : Addr} {i : Nat} {items : Array Value} {was : Value} {Q : Option Value → Shared → Prop} (zh : A.handled = none)
    (ze : IsEnum s.heap e it i was) (zit : s.heap.IsTupleIter it l i) (zl : s.heap.IsTuple l items) (zx : items[i]? = none)
    (zQ : ∀ m', Heap.ExtBut it s.heap m' → Q none { s with heap := m' }) : wpAny (model prog w) A (pyNext (.ref e)) Q E s := by
  have zT : s.TypeIs (.ref e) "enumerate" := ⟨_, ze, rfl⟩
  unfold pyNext
  refine wpAny_bind (wpAny_attempt (wpAny_callSpecial?_slot (name := Str.ofString "__next__") zT F.slot_enumerate_next
    (wpAny_call_entry F.slot_enumerate_next zT F.entry_enumerate_next ?_ (F.args_enumerate_next_1 _))))
  show wpAny _ _ (field (.ref e) 2 >>= _) _ _ _
  refine wpAny_bind (wpAny_field ze rfl (x := .ref it) rfl ?_)
  refine wpAny_bind (nextT_end zh zit zl zx fun m' x ze' zx' => ?_)
  obtain ⟨o, zo, zc⟩ := zx'
  refine wpAny_bind (wpAny_isInstance (T := "StopIteration") (b := true) ⟨o, zo, zc⟩ isSubtype_stop ?_)
  exact wpAny_pure (zQ _ ze')
theorem meets_enumT (l : Addr) (items : Array Value) (n : Nat) (dct : Option Addr) (sl : Array (Option Value)) :
    Meets (Builtin.«enumerate.__new__» ⟨[.type "enumerate", .ref l], []⟩) (fun _ R s => s.heap.get? l = some { cls := .type "tuple", dict := dct, data := .seq items n, slots := sl } ∧
      R (.ok (.ret (.ref (s.heap.push { cls := .type "tuple_iterator", data := .fields #[.ref l, .int 0 0] }).objs.size)))
        { s with heap := (s.heap.push { cls := .type "tuple_iterator", data := .fields #[.ref l, .int 0 0] }).push { cls := .type "enumerate", data := .fields #[.none, .bool false, .ref s.heap.objs.size, rawInt 0, .none, .none] } }) :=
  .of_wp fun prog w A R s h => by
    obtain ⟨zp, g, d, tk, os⟩ := s; obtain ⟨zl, h⟩ := h
    have zsub := sub_enumerate
    have zL : Heap.IsTuple (Shared.heap ⟨zp, g, d, tk, os⟩) l items := ⟨_, zl, rfl, n, rfl⟩
    wp_walk using wpAny_loadPart' zl
    refine wpAny_stack_any fun zst => wpAny_pure ?_
    split
    · rename_i c _ _ _ _ _
      cases (c == Value.type "enumerate")
      · wp_walk using wpAny_loadPart' zl, wpAny_pyIter_tuple zL
        exact ⟨_, rfl, h⟩
      · wp_walk using wpAny_loadPart' zl, wpAny_pyIter_tuple zL
        exact ⟨_, rfl, h⟩
    · wp_walk using wpAny_loadPart' zl, wpAny_pyIter_tuple zL
      exact ⟨_, rfl, h⟩

theorem call_enumT {l : Addr} {items : Array Value} {Q : Value → Shared → Prop} (zL : s.heap.IsTuple l items)
    (h : ∀ m', IsEnum m' (s.heap.objs.size + 1) s.heap.objs.size 0 .none → m'.IsTupleIter s.heap.objs.size l 0 → m'.objs.size = s.heap.objs.size + 2 →
      (∀ b o, s.heap.get? b = some o → m'.get? b = some o) → Q (.ref (s.heap.objs.size + 1)) { s with heap := m' }) :
    wpAny (model prog w) A (call (.type "enumerate") [.ref l]) Q E s := by
  obtain ⟨⟨c, dct, dt, sl⟩, zl, zc, n, zd⟩ := zL
  replace zc : c = .type "tuple" := zc
  replace zd : dt = .seq items n := zd
  subst zc zd
  refine callType_new F.called_enumerate (by decide) (F.typeCall_enumerate_1 _) (F.newCall_enumerate_1 _) (fun obj => F.args_object_init_2 obj _) F.entry_enumerate_new
    (meets_enumT l items n dct sl) ⟨zl, ?_⟩
  have zz : (s.heap.push { cls := .type "tuple_iterator", data := .fields #[.ref l, .int 0 0] }).objs.size = s.heap.objs.size + 1 := Heap.size_push ..
  show _ ∧ _
  rw [zz]
  have ze : IsEnum ((s.heap.push { cls := .type "tuple_iterator", data := .fields #[.ref l, .int 0 0] }).push
      { cls := .type "enumerate", data := .fields #[.none, .bool false, .ref s.heap.objs.size, rawInt 0, .none, .none] }) (s.heap.objs.size + 1) s.heap.objs.size 0 .none := by
    have := Heap.get?_push_size (s.heap.push { cls := .type "tuple_iterator", data := .fields #[.ref l, .int 0 0] })
      (o := { cls := .type "enumerate", data := .fields #[.none, .bool false, .ref s.heap.objs.size, rawInt 0, .none, .none] }) rfl
    rw [zz] at this; exact this
  refine ⟨⟨_, ze, rfl⟩, h _ ze ⟨_, Heap.get?_push_of_some _ (Heap.get?_push_size _ rfl), rfl, rfl⟩ (by rw [Heap.size_push, zz]) fun b o x => Heap.get?_push_of_some _ (Heap.get?_push_of_some _ x)⟩

end
end SLe
namespace SLe
open PySem PySem.Spec PyProof.Rows L2
def IteT (K : PySem.W.Frag) (a : Addr) : It :=
  ⟨fun i H => ∃ (xs : List V) (x : V), SqT K H a xs ∧ xs[i]? = some x, fun i H v H' => ∃ T x, v = .ref T ∧ H T = none ∧ H' = upd H T (.tup [.int (i : Nat), x]) ∧ ∀ xs, SqT K H a xs → xs[i]? = some x, fun i H => ∃ xs : List V, SqT K H a xs ∧ xs.length ≤ i⟩
theorem turn_enumT {P : Program} {w : World} {K : PySem.W.Frag} {elts : List Expr} {kk : Nat} {tpos : Pos} (a e it : Addr) :
    Turn P w K (.Tuple elts kk tpos) (IteT K a) [e, it] e (fun i h => (∃ was, IsEnum h e it ((i : Nat) : Int) was) ∧ h.IsTupleIter it a i ∧ e ≠ it) where
  mem := by simp
  obj := fun i h zst b zb => by
    obtain ⟨⟨was, ze⟩, ⟨o, zo, zc, zd⟩, _⟩ := zst
    have e' : b = e ∨ b = it := by simpa using zb
    rcases e' with z | z
    · rw [z]; exact ⟨_, ze, fun v q => nomatch q⟩
    · rw [z]; exact ⟨o, zo, fun v q => by rw [zd] at q; cases q⟩
  keep := fun i h m' zst k => let ⟨⟨was, ze⟩, hi, zne⟩ := zst; ⟨⟨was, k e (by simp) _ ze⟩, hi.at fun o q => k it (by simp) o q, zne⟩
  item := by
    intro X hP hw hK zc i pins s σ H E J zf zst zg
    subst hP hw hK
    obtain ⟨⟨was, ze⟩, zit, zne⟩ := zst
    obtain ⟨xs, x, zq, zx⟩ := zg
    obtain ⟨zits, zrv, p, zz⟩ := J.tuple zq
    obtain ⟨u, zu, zru⟩ := zrv.get zx
    have zel : e < s.heap.objs.size := Heap.lt_size ze
    have hil : it < s.heap.objs.size := by obtain ⟨_, q, _⟩ := zit; exact Heap.lt_size q
    refine pyNextT_item ze zit p (x := u) (by simpa using zu) zne fun m' zo zit' zT zsz zk => ?_
    refine ⟨_, rfl, wpAny_letOwnedTupleGo_enum (s := { s with heap := m', toks := s.toks + 1 }) zo fun m'' ze' zsb => ?_⟩
    have zT2 : m''.get? s.heap.objs.size = some { cls := .type "tuple", data := .seq #[.int i s.toks, u] } := (zsb.2 _ (Nat.ne_of_gt zel)).trans zT
    have znew : ObjOk X.prog X.w (upd H s.heap.objs.size (.tup [.int (i : Nat), x])) m'' s.heap.objs.size (.tup [.int (i : Nat), x]) :=
      ⟨by show 2 ≤ sizeLine; decide, [.int i s.toks, u], .cons ⟨_, rfl⟩ (.cons zru .nil), ⟨_, zT2, rfl, _, rfl⟩⟩
    have J1 : Inv X pins σ (upd H s.heap.objs.size (.tup [.int (i : Nat), x])) { s with heap := m'', toks := s.toks + 1 } :=
      J.turnedNew (ch := [e, it]) (fun b ob zb q => (zsb.2 b (fun z => zb (by simp [z]))).trans (zk b ob (fun z => zb (by simp [z])) (fun z => zb (by simp [z])) q)) zf (Nat.le_refl _) znew
    refine ⟨.ref s.heap.objs.size, _, J1, rfl, ⟨_, x, rfl, J.hok.fresh (Nat.le_refl _), rfl, fun ys hy => by rw [J.tuple_inj hy zq]; exact zx⟩, ⟨⟨u, ?_⟩, zit'.at fun o q => (zsb.2 it (Ne.symm zne)).trans q, zne⟩, fun b zb => ?_⟩
    · have e1 : ((i + 1 : Nat) : Int) = (i : Int) + 1 := by omega
      rw [e1]; exact ze'
    · have hb' : b < s.heap.objs.size := by
        have e' : b = e ∨ b = it := by simpa using zb
        rcases e' with z | z
        · rw [z]; exact zel
        · rw [z]; exact hil
      rw [upd_ne (Nat.ne_of_lt hb')]
      exact (zf b zb).1
  done := by
    intro X hP hw hK zc i pins s σ H E J zf zst zg
    subst hP hw hK
    obtain ⟨⟨was, ze⟩, zit, zne⟩ := zst
    obtain ⟨xs, zq, zx⟩ := zg
    obtain ⟨zits, zrv, p, zz⟩ := J.tuple zq
    obtain ⟨f0, f1, f2, f3, f4, f5⟩ := zf it (by simp)
    have zl := zrv.length
    exact pyNextT_end (J.ok.hd zc) ze zit p (by simp; omega) fun m' eb => ⟨rfl, J.turned (t' := s.toks) (fun b o zb q => eb b o zb q) f0 f1 f3 f4 f5⟩
  self := fun A i s Q E zst h => let ⟨⟨_, ze⟩, _⟩ := zst; wpAny_pyIter_enum ze h
end SLe
namespace SL
open PySem PySem.Spec PyProof.Rows L2
/-- enumerate of a list or a tuple -/
def iEnumX (K : PySem.W.Frag) (ta : TA) : TI := fun σ H R => ta σ H fun vs H1 => ∃ a xs, vs = [.ref a] ∧ ((SqL K H1 a xs ∧ (xs.length ≤ sizeLine → R (Ite K a) H1)) ∨ (SqT K H1 a xs ∧ (xs.length ≤ sizeLine → R (SLe.IteT K a) H1)))
theorem pi_enumX {X : Cx} {e : Expr} {ta : TA} {p pos tpos : Pos} {elts : List Expr} {kk : Nat} (hm : X.mg "enumerate" = none) (ha : PA X [e] ta) (hg : Gl X "enumerate") (hs : starEach [e] X.env = [(false, eval e X.env)]) :
    PI X (.Tuple elts kk tpos) (.Call (.Name "enumerate" p) [e] [] pos) (iEnumX X.K ta) := by
  refine ⟨fun pins s σ H R J q => Call_ (ld_blt J hg hm boot_enumerate (PyProof.Rows.callWith_type1 (thn (ha.run pos pins s σ H _ J q) fun us s1 ⟨vs, H1, J1, r1, a, xs, ex, q1⟩ => ?_) hs rfl))⟩
  subst ex
  cases r1 with
  | cons r rr =>
    cases rr
    cases r
    have fin : ∀ c : Addr, c = s1.heap.objs.size + 1 ∨ c = s1.heap.objs.size → s1.heap.objs.size ≤ c := fun c hc => by
      rcases hc with z | z <;> rw [z] <;> omega
    rcases q1 with ⟨hq, q1⟩ | ⟨hq, q1⟩
    · obtain ⟨its, rv, pp, hz⟩ := J1.list hq
      refine call_enumerate_list pp.isList fun h' ze zi _ zk => wpAny_pyIter_enum ze ?_
      have J2 : Inv X pins σ H1 { s1 with heap := h' } := J1.kept (t' := s1.toks) zk
      refine ⟨s1.heap.objs.size + 1, [s1.heap.objs.size + 1, s1.heap.objs.size], _, _, H1, rfl, J2, turn_enum a _ _, ⟨⟨.none, ze⟩, zi, Nat.succ_ne_self _⟩, fun c hc => ?_, q1 hz⟩
      have hle := fin c (by simpa using hc)
      exact J1.fpOk hle (J1.hok.fresh hle)
    · obtain ⟨its, rv, pp, hz⟩ := J1.tuple hq
      refine SLe.call_enumT (show s1.heap.IsTuple a its.toArray from pp) fun h' ze zi _ zk => wpAny_pyIter_enum ze ?_
      have J2 : Inv X pins σ H1 { s1 with heap := h' } := J1.kept (t' := s1.toks) zk
      refine ⟨s1.heap.objs.size + 1, [s1.heap.objs.size + 1, s1.heap.objs.size], _, _, H1, rfl, J2, SLe.turn_enumT a _ _, ⟨⟨.none, ze⟩, zi, Nat.succ_ne_self _⟩, fun c hc => ?_, q1 hz⟩
      have hle := fin c (by simpa using hc)
      exact J1.fpOk hle (J1.hok.fresh hle)
def numbered (ws : List W) : List W := ws.mapIdx fun i w => .tup [.int (i : Nat), w]
theorem numbered_get {ws : List W} {i : Nat} {w : W} (h : ws[i]? = some w) : (numbered ws)[i]? = some (.tup [.int (i : Nat), w]) := by
  unfold numbered; rw [List.getElem?_mapIdx, h]; rfl
/-- what is walked is no list that may change -/
def isCel : W → Bool
  | .cell _ => true
  | _ => false
def iEn (f : SemL) : SemI := fun fr st => (f fr st).bind fun vs st1 => match vs with
  | [x] => if isCel x = true then .bad else (match itW st1 x with
    | some ws => .ok (.non, numbered ws) st1
    | none => .bad)
  | _ => .bad
theorem src_no {x : W} {ws : List W} {st : Sto} (h : isCel x = false) : srcOk x ws st := by
  cases x <;> first | trivial | cases h
section
variable {X : Cx} {Wx : Wish}
/-- a new tuple is laid -/
theorem enum_yld {K : PySem.W.Frag} {mg : Str → Option Value} {hid μ : List Addr} {st : Sto} {H H' : Hp} {ws : List W} {i : Nat} {v : V} {vs : List V} (k : StOk K mg μ st hid H) (r : Reps K mg (Fz μ st hid H) μ ws vs)
    (y : ∃ T x, v = .ref T ∧ H T = none ∧ H' = upd H T (.tup [.int (i : Nat), x]) ∧ vs[i]? = some x) : StOk K mg μ st hid H' ∧ Grow hid μ st H μ st H' ∧ ∃ w, (numbered ws)[i]? = some w ∧ Rep K mg (Fz μ st hid H') μ w v := by
  obtain ⟨T, x, rfl, hT, rfl, hx⟩ := y
  obtain ⟨w, h1, h2⟩ := r.get' hx
  obtain ⟨k1, g1, e1⟩ := k.laid (o := .tup [.int (i : Nat), x]) hT
  refine ⟨k1, g1, _, numbered_get h1, ?_⟩
  exact rep_tup e1 (.cons rep_int (.cons (h2.mono g1.le (.refl _)) .nil))
theorem iv_enum {e : Expr} {f : SemL} {p pos tpos : Pos} {elts : List Expr} {kk : Nat} (hm : X.mg "enumerate" = none) (ha : AV X Wx [e] f) (hg : Gl X "enumerate" := by rfl) (hs : starEach [e] X.env = [(false, eval e X.env)] := by rfl) :
    IV X Wx (.Tuple elts kk tpos) (.Call (.Name "enumerate" p) [e] [] pos) (iEn f) := PIm (pi_enumX hm ha hg hs) fun σ H R ⟨μ, st, hid, fr, S, P⟩ => by
  refine ⟨μ, st, hid, fr, S, ?_⟩
  unfold iEn at P
  cases h1 : f fr st with
  | bad => rw [h1] at P; exact P
  | err x s => rw [h1] at P; exact P
  | ok ws st1 =>
    rw [h1, Out.bind_ok] at P
    intro μ1 H1 vs k1 g1 r1
    have P1 := IPost.from g1 P
    split at P1
    · rename_i x
      obtain ⟨v, rfl, r2⟩ := reps1 (ws := []) r1
      split at P1
      · exact P1.elim
      · rename_i hn
        have hn' : isCel x = false := by simpa using hn
        split at P1
        · rename_i us e
          have hnl : (numbered us).length = us.length := by simp [numbered]
          obtain ⟨a, vs0, rfl, hl, q | q⟩ := seq_now k1 e r2
          · refine ⟨a, vs0, rfl, .inl ⟨q.1, fun hz => P1 μ1 H1 _ k1 .refl ?_⟩⟩
            exact {
              len := by rw [hnl, ← hl]; exact hz
              go := fun hid μ st H i k l p _ _ hi => by
                obtain ⟨ys, h1, h2⟩ := q.2 hid μ st H k l p (src_no hn')
                rw [hnl] at hi
                exact ⟨ys, ys[i]'(by rw [← h2.length]; exact hi), h1, by simp⟩
              yld := fun hid μ st H i v H' k l p _ _ hi y => by
                obtain ⟨ys, h1, h2⟩ := q.2 hid μ st H k l p (src_no hn')
                obtain ⟨T, x, a1, a2, a3, a4⟩ := y
                exact enum_yld k h2 ⟨T, x, a1, a2, a3, a4 ys h1⟩
              stop := fun hid μ st H i k l p _ _ hi => by
                obtain ⟨ys, h1, h2⟩ := q.2 hid μ st H k l p (src_no hn')
                rw [hnl] at hi
                exact ⟨ys, h1, by rw [← h2.length]; exact hi⟩ }
          · refine ⟨a, vs0, rfl, .inr ⟨q.1, fun hz => P1 μ1 H1 _ k1 .refl ?_⟩⟩
            exact {
              len := by rw [hnl, ← hl]; exact hz
              go := fun hid μ st H i k l p _ _ hi => by
                obtain ⟨ys, h1, h2⟩ := q.2 hid μ st H k l p (src_no hn')
                rw [hnl] at hi
                exact ⟨ys, ys[i]'(by rw [← h2.length]; exact hi), h1, by simp⟩
              yld := fun hid μ st H i v H' k l p _ _ hi y => by
                obtain ⟨ys, h1, h2⟩ := q.2 hid μ st H k l p (src_no hn')
                obtain ⟨T, x, a1, a2, a3, a4⟩ := y
                exact enum_yld k h2 ⟨T, x, a1, a2, a3, a4 ys h1⟩
              stop := fun hid μ st H i k l p _ _ hi => by
                obtain ⟨ys, h1, h2⟩ := q.2 hid μ st H k l p (src_no hn')
                rw [hnl] at hi
                exact ⟨ys, h1, by rw [← h2.length]; exact hi⟩ }
        · exact P1.elim
    · exact P1.elim
end
end SL

namespace SL
open PySem PySem.Spec PyProof.Rows L2
/-! ## own exceptions with two fields -/
def spI2 (C : Addr) (f1 f2 : Str) : Sp := fun vs H Q _ => ∃ a y z, vs = [.ref a, y, z] ∧ H a = some (exo a C none) ∧ ∀ dx, H dx = none → dx ≠ a → Q .non (upd (upd (upd H dx (exd dx [(f1, y)])) a (exo a C (some dx))) dx (exd dx [(f2, z), (f1, y)]))
structure Exc2 (P : Program) (w : World) (K : PySem.W.Frag) (mg : Str → Option Value) (base : Heap) (c f1 f2 : Str) : Prop where
  ex : ∃ (C fI : Addr) (fd : FuncData) (x y : Str), OexC K C ∧ PySem.W.findIn K (.ref C) "__init__" = some (some (.ref fI)) ∧ PySem.W.typeIn K (.ref fI) = some (.type "function") ∧ FnOk P w K mg base (L2.CX P w) 1 fI fd ["self", x, y] (spI2 C f1 f2) ∧ Binds K fd ["self", x, y] [] ∧ mg c = some (.ref C)
theorem init2 {P : Program} {w : World} {K : PySem.W.Frag} {mg : Str → Option Value} {base : Heap} {qual : Str} {st : Stmt} {f C : Addr} {fd : FuncData} {x y f1 f2 : Str} {p1 p2 p3 p4 q1 q2 q3 q4 : Pos} (F : Fun K "__init__" qual st f fd) (S : FnScope ["self", x, y] ["self", x, y] (defScope st))
    (hb : defBody st = [.Assign [.Attribute (.Name "self" p1) f1 p2] (.Name x p3) p4, .Assign [.Attribute (.Name "self" q1) f2 q2] (.Name y q3) q4]) (T : OexC K C) (h1 : PySem.W.findIn K (.ref C) f1 = some none) (h2 : PySem.W.findIn K (.ref C) f2 = some none)
    (hd : (x == ("__debug__" : Str)) = false) (hc : (x == ("__classdict__" : Str)) = false) (hd2 : (y == ("__debug__" : Str)) = false) (hc2 : (y == ("__classdict__" : Str)) = false) : FnOk P w K mg base (L2.CX P w) 1 f fd ["self", x, y] (spI2 C f1 f2) := by
  refine F.okX (k := 0) S (fun vs H Q E h => ?_) (fun cdv A outer s H vs Q E hr h => ?_)
  · obtain ⟨a, y, z, rfl, _⟩ := h; rfl
  · rw [hb]
    have vis : ∀ z ∈ (["self", x, y] : List Str), Vis (defScope st) z := fun z hz => (S.par z hz).elim .inl fun q => .inr (.inl q)
    refine ⟨_, pss_cons (ps_ost (pe_var (i := 0) rfl (vis "self" (by simp))) (pe_var (i := 1) rfl (vis x (by simp)) hd hc)) (pss_one (ps_ost (pe_var (i := 0) rfl (vis "self" (by simp))) (pe_var (i := 2) rfl (vis y (by simp)) hd2 hc2))), ?_⟩
    obtain ⟨a, u, z, rfl, g1, g2⟩ := h
    refine ⟨u, rfl, .ref a, rfl, a, C, rfl, T, h1, .inl ⟨g1, fun dx n ne => ?_⟩⟩
    exact ⟨z, rfl, .ref a, rfl, a, C, rfl, T, h2, .inr ⟨dx, [(f1, u)], upd_same, by rw [upd_ne ne, upd_same], (by decide : 1 ≤ 900), g2 dx n ne⟩⟩
theorem del_eq2 {H : Hp} {a d : Addr} {o o1 o2 o3 o4 : HO} (ha : H a = none) (hd : d ≠ a) : upd (del (upd (upd (upd (upd H a o) d o1) a o2) d o4) a) d o3 = upd H d o3 := by
  funext b
  by_cases e : b = d
  · subst e; rw [upd_same, upd_same]
  · rw [upd_ne e, upd_ne e]
    by_cases z : b = a
    · subst z; rw [del_same, ha]
    · rw [del_ne z, upd_ne e, upd_ne z, upd_ne e, upd_ne z]
/-- raise C(e, f): the fields stand from behind -/
def sRaise2 (c f1 f2 : Str) (f : SemL) : SSem := fun fr st => (f fr st).stm fr fun ws st1 => match ws with
  | [u, v] => .er ⟨c, [f2, f1], [v, u]⟩ fr st1
  | _ => .bad
section
variable {X : Cx} {Wx : Wish}
theorem sv_raise2 {k : Nat} {c f1 f2 : Str} {f : SemL} {e : Expr} {es : List Expr} {p p2 pos : Pos} (C : Ctx X Wx k) (hk : 2 ≤ k) (E : Exc2 X.prog X.w X.K X.mg X.base c f1 f2) (ha : AV X Wx (e :: es) f) (hg : Gl X c := by rfl) (hdb : (c == ("__debug__" : Str)) = false := by decide)
    (he : starEach (e :: es) X.env = (false, eval e X.env) :: starEach es X.env := by rfl) (hpl : (backTo p2 (starEach es X.env)).any (·.1) = false := by rfl) :
    SV X Wx (.Raise (some (.Call (.Name c p) (e :: es) [] p2)) none pos) (sRaise2 c f1 f2 f) := by
  obtain ⟨A, fI, fd, x, y, T, h1, h2, F, B, hm⟩ := E.ex
  refine PSm (ps_raise C.calm C.tk (pmk_oex (CX := L2.CX X.prog X.w) (k := 1) T h1 h2 F (C.room.mono hk) B .nil (fun pins σ H s u s' I z => ?_) hg hm ha hdb he hpl)) fun D σ H ⟨μ, st, hid, fr, S, P⟩ => ?_
  · obtain ⟨_, _, _, _, _, _, _, _, _, _, _, _, z⟩ := z
    exact z.elim
  · refine ⟨μ, st, hid, fr, S, ?_⟩
    unfold sRaise2 at P
    cases e1 : f fr st with
    | bad => rw [e1] at P; exact P
    | err x s => rw [e1] at P; exact fun μ1 H1 c d k1 g1 xr => P μ1 σ H1 c d (S.next k1 g1) g1 xr
    | ok ws st1 =>
      rw [e1, Out.stm_ok] at P
      intro μ1 H1 vs k1 g1 r1
      have P1 := SPost.from g1 P
      split at P1
      · rename_i u v
        obtain ⟨u', vs1, rfl, ru, r2⟩ := r1.cons_inv
        obtain ⟨v', vs2, rfl, rv, r3⟩ := r2.cons_inv
        rw [Reps.nil_iff] at r3
        subst r3
        refine ⟨by simp, fun a na => ⟨a, u', v', rfl, upd_same, fun dx nd ne => ⟨rfl, dx, [(f2, v'), (f1, u')], by rw [upd_ne (Ne.symm ne), upd_same], upd_same, ?_, ?_⟩⟩⟩
        · rw [upd_ne ne] at nd; exact nd
        · rw [upd_ne ne] at nd
          rw [del_eq2 na ne]
          obtain ⟨k2, g2, e2⟩ := k1.laid (o := .xd [(f2, v'), (f1, u')]) nd
          exact P1 μ1 σ _ _ _ ((S.next k1 g1).next k2 g2) g2 ⟨A, hm, rfl, .inr ⟨dx, [v', u'], rfl, rfl, e2, .cons (rv.mono g2.le (.refl _)) (.cons (ru.mono g2.le (.refl _)) .nil)⟩⟩
      · exact P1.elim
end
end SL

namespace SL
open PySem PySem.Spec PyProof.Rows L2
/-! # dicts whose keys are ints and texts -/
/-- the keys, the values -/
def dctW (st : Sto) (x : W) : Option (List Key × List W) := match x with
  | .cell k => match st[k]? with
    | some (.dct ks ws) => (match kindW ks with
      | some (_, .inl kk) => some (kk, ws)
      | _ => none)
    | _ => none
  | .dct ks ws => (match kindW ks with
    | some (_, .inl kk) => some (kk, ws)
    | _ => none)
  | _ => none
def valW {α : Type} (l : List (Key × α)) (k : Key) : Option α := (l.find? fun p => decide (p.1 = k)).map (·.2)
def putX {α : Type} (kk : List Key) (xs : List α) (k : Key) (x : α) : List α := (kk.zip xs).map fun p => if p.1 = k then x else p.2
theorem zip_put {α : Type} (k : Key) (x : α) : ∀ (kk : List Key) (xs : List α), kk.length = xs.length → (kk.zip xs).map (fun kv => if kv.1 = k then (kv.1, x) else kv) = kk.zip (putX kk xs k x)
  | [], xs, _ => by simp
  | j :: kk, [], h => by simp at h
  | j :: kk, y :: xs, h => by
    have ih := zip_put k x kk xs (by simpa using h)
    unfold putX at ih ⊢
    rw [List.zip_cons_cons, List.map_cons, List.map_cons, List.zip_cons_cons, ih]
    by_cases e : j = k <;> simp [e]
theorem putX_len {α : Type} {kk : List Key} {xs : List α} {k : Key} {x : α} (h : kk.length = xs.length) : (putX kk xs k x).length = kk.length := by
  unfold putX; rw [List.length_map, List.length_zip]; omega
theorem any_zip {α : Type} (k : Key) : ∀ (kk : List Key) (xs : List α), kk.length = xs.length → ((kk.zip xs).any fun kv => decide (kv.1 = k)) = kk.any fun j => decide (j = k)
  | [], xs, _ => by simp
  | j :: kk, [], h => by simp at h
  | j :: kk, y :: xs, h => by
    rw [List.zip_cons_cons, List.any_cons, List.any_cons, any_zip k kk xs (by simpa using h)]
theorem mapO_len {α β : Type} {f : α → Option β} : ∀ {l : List α} {m : List β}, mapO f l = some m → m.length = l.length
  | [], m, h => by unfold mapO at h; cases h; rfl
  | a :: l, m, h => by
    unfold mapO at h
    cases e1 : f a with
    | none => rw [e1] at h; cases h
    | some b =>
      cases e2 : mapO f l with
      | none => rw [e1, e2] at h; cases h
      | some bs => rw [e1, e2] at h; cases h; simp [mapO_len e2]
theorem mapO_snoc {α β : Type} {f : α → Option β} : ∀ {l : List α} {m : List β} {a : α} {b : β}, mapO f l = some m → f a = some b → mapO f (l ++ [a]) = some (m ++ [b])
  | [], m, a, b, h, h2 => by
    unfold mapO at h; cases h
    show (match f a, mapO f [] with | some b, some bs => some (b :: bs) | _, _ => none) = _
    rw [h2]; rfl
  | c :: l, m, a, b, h, h2 => by
    unfold mapO at h
    cases e1 : f c with
    | none => rw [e1] at h; cases h
    | some d =>
      cases e2 : mapO f l with
      | none => rw [e1, e2] at h; cases h
      | some bs =>
        rw [e1, e2] at h; cases h
        show (match f c, mapO f (l ++ [a]) with | some b, some bs => some (b :: bs) | _, _ => none) = _
        rw [e1, mapO_snoc e2 h2]; rfl
theorem mapO_get {α β : Type} {f : α → Option β} : ∀ {l : List α} {m : List β}, mapO f l = some m → ∀ {i : Nat} {a : α} {b : β}, l[i]? = some a → m[i]? = some b → f a = some b
  | [], m, h, i, a, b, h1, _ => by simp at h1
  | c :: l, m, h, i, a, b, h1, h2 => by
    unfold mapO at h
    cases e1 : f c with
    | none => rw [e1] at h; cases h
    | some d =>
      cases e2 : mapO f l with
      | none => rw [e1, e2] at h; cases h
      | some bs =>
        rw [e1, e2] at h; cases h
        cases i with
        | zero => simp at h1 h2; rw [← h1, ← h2]; exact e1
        | succ i => simp at h1 h2; exact mapO_get e2 h1 h2
theorem kind_plain {ks : List W} {kk : List Key} (h : mapO keyW ks = some kk) : kindW ks = some (false, .inl kk) := by
  cases ks with
  | nil => unfold mapO at h; cases h; rfl
  | cons w ks =>
    have z : ∀ t, w ≠ .ty t := fun t e => by
      subst e
      have : mapO keyW (.ty t :: ks) = none := rfl
      rw [this] at h; cases h
    cases w with
    | ty t => exact absurd rfl (z t)
    | int i =>
      show (mapO keyW (.int i :: ks)).map _ = _
      rw [h]; rfl
    | str i =>
      show (mapO keyW (.str i :: ks)).map _ = _
      rw [h]; rfl
    | _ => exact nomatch h
theorem unl_plain {ks : List W} {ws : List W} {kk : List Key} (h : mapO keyW ks = some kk) : (Cel.dct ks ws).unl = true := by
  cases ks with
  | nil => rfl
  | cons w ks =>
    cases w with
    | ty t =>
      have : mapO keyW (.ty t :: ks) = none := rfl
      rw [this] at h; cases h
    | _ => rfl
section
variable {K : PySem.W.Frag} {mg : Str → Option Value} {F : Hp} {μ : List Addr}
theorem key_rep {w : W} {k : Key} {v : V} (h : keyW w = some k) (r : Rep K mg F μ w v) : v = kV k := by
  cases w with
  | int i => unfold keyW at h; cases h; exact rep_int_inv r
  | str i => unfold keyW at h; cases h; exact rep_str_inv r
  | _ => cases h
theorem rep_key {w : W} {k : Key} (h : keyW w = some k) : Rep K mg F μ w (kV k) := by
  cases w with
  | int i => unfold keyW at h; cases h; exact rep_int
  | str i => unfold keyW at h; cases h; unfold Rep; rfl
  | _ => cases h
/-- what is found: alike -/
theorem val_at (k : Key) : ∀ {kk : List Key} {ws : List W} {vs : List V}, kk.length = vs.length → Reps K mg F μ ws vs → (∀ w, valW (kk.zip ws) k = some w → ∃ v, valV (kk.zip vs) k = some v ∧ Rep K mg F μ w v) ∧ (valW (kk.zip ws) k = none → valV (kk.zip vs) k = none)
  | [], ws, vs, _, _ => by
    refine ⟨fun w h => ?_, fun _ => rfl⟩
    simp [valW] at h
  | j :: kk, ws, [], h, _ => by simp at h
  | j :: kk, ws, v :: vs, h, r => by
    have hl := r.length
    cases ws with
    | nil => simp at hl
    | cons w ws =>
      obtain ⟨v', vs', e, r1, r2⟩ := r.cons_inv
      cases e
      obtain ⟨i1, i2⟩ := val_at k (kk := kk) (ws := ws) (vs := vs) (by simpa using h) r2
      by_cases e : j = k
      · rw [List.zip_cons_cons, List.zip_cons_cons, valV_pos (p := (j, v)) e]
        have z : valW ((j, w) :: kk.zip ws) k = some w := by simp [valW, List.find?_cons, e]
        rw [z]
        exact ⟨fun u h => by cases h; exact ⟨v, rfl, r1⟩, fun h => nomatch h⟩
      · rw [List.zip_cons_cons, List.zip_cons_cons, valV_neg (p := (j, v)) e]
        have z : valW ((j, w) :: kk.zip ws) k = valW (kk.zip ws) k := by simp [valW, List.find?_cons, e]
        rw [z]
        exact ⟨i1, i2⟩
theorem reps_put {k : Key} {w : W} {v : V} (rw_ : Rep K mg F μ w v) : ∀ {kk : List Key} {ws : List W} {vs : List V}, kk.length = vs.length → Reps K mg F μ ws vs → Reps K mg F μ (putX kk ws k w) (putX kk vs k v)
  | [], ws, vs, _, _ => by unfold putX; simp; exact .nil
  | j :: kk, ws, [], h, _ => by simp at h
  | j :: kk, ws, u :: vs, h, r => by
    have hl := r.length
    cases ws with
    | nil => simp at hl
    | cons w' ws =>
      obtain ⟨v', vs', e, r1, r2⟩ := r.cons_inv
      cases e
      have ih := reps_put (k := k) rw_ (kk := kk) (ws := ws) (vs := vs) (by simpa using h) r2
      unfold putX at ih ⊢
      rw [List.zip_cons_cons, List.zip_cons_cons, List.map_cons, List.map_cons]
      refine .cons ?_ ih
      by_cases e : j = k
      · simp only [e, if_true]; exact rw_
      · simp only [e, if_false]; exact r1
theorem dctW_at {hid : List Addr} {st : Sto} {H : Hp} {x : W} {v : V} {kk : List Key} {ws : List W} (k : StOk K mg μ st hid H) (h : dctW st x = some (kk, ws)) (r : Rep K mg (Fz μ st hid H) μ x v) :
    ∃ a vs, v = .ref a ∧ kk.length = vs.length ∧ Rd H a (.dK (kk.zip vs)) ∧ Reps K mg (Fz μ st hid H) μ ws vs := by
  have go : ∀ {F : Hp} {a : Addr} {ks us : List W} {vs : List V}, (∀ o, F a = some o → H a = some o) → DctAt F a ks vs → (match kindW ks with
      | some (_, .inl kk) => some (kk, us)
      | _ => none) = some (kk, ws) → us = ws ∧ kk.length = vs.length ∧ Rd H a (.dK (kk.zip vs)) := fun {F a ks us vs} l d e => by
    obtain ⟨b, q, h1, h2, h3, _⟩ := d
    rw [h1] at e
    cases q with
    | inr q => cases e
    | inl q =>
      cases e
      refine ⟨rfl, h2, ?_⟩
      rcases h3 with h3 | ⟨o, h3⟩
      · exact .inl (l _ h3)
      · exact .inr ⟨o, l _ h3⟩
  cases x with
  | cell n =>
    unfold dctW at h
    simp only at h
    split at h
    · rename_i ks us e
      obtain ⟨a, rfl, e2, vs, h1, h2⟩ := k.cell e r
      obtain ⟨rfl, g1, g2⟩ := go (fun _ z => z) h1.rd h
      exact ⟨a, vs, rfl, g1, g2, h2⟩
    · cases h
  | dct ks us =>
    unfold Rep at r
    obtain ⟨a, vs, rfl, h1, h2⟩ := r
    obtain ⟨rfl, g1, g2⟩ := go (us := us) (fun _ z => (Fz.sub z).1) h1 h
    exact ⟨a, vs, rfl, g1, g2, h2⟩
  | _ => cases h
end
/-! ## reading -/
def oDGet : Op2 := fun x y st => match dctW st x, keyW y with
  | some (kk, ws), some k => (match valW (kk.zip ws) k with
    | some w => .ok w st
    | none => .bad)
  | _, _ => .bad
def oDIn (f : Bool → Bool) : Op2 := fun y x st => match dctW st x, keyW y with
  | some (kk, ws), some k => .ok (.bl (f (valW (kk.zip ws) k).isSome)) st
  | _, _ => .bad
def rDGet : R2 := fun x y H Q => ∃ a v, x = .ref a ∧ DGet H a y (some v) ∧ Q v H
def rDIn (f : Bool → Bool) : R2 := fun y x H Q => ∃ a o, x = .ref a ∧ DGet H a y o ∧ Q (.bl (f o.isSome)) H
def oDLen : OpN := fun ws st => match ws with
  | [x] => (match dctW st x with
    | some (kk, _) => .ok (.int kk.length) st
    | none => .bad)
  | _ => .bad
def rDLen : List V → Hp → VK → Prop := fun xs H Q => ∃ a kvs, xs = [V.ref a] ∧ Rd H a (.dK kvs) ∧ Q (.int kvs.length) H
/-- d.get(k, x) -/
def eDGet2 (f g h : Sem) : Sem := fun fr st => (f fr st).bind fun x st1 => if (dctW st1 x).isSome = true then (g fr st1).bind fun y st2 => (h fr st2).bind fun z st3 => (match dctW st3 x, keyW y with
  | some (kk, ws), some k => .ok ((valW (kk.zip ws) k).getD z) st3
  | _, _ => .bad) else .bad
section
variable {X : Cx} {Wx : Wish}
theorem dget_of {K : PySem.W.Frag} {mg : Str → Option Value} {μ hid : List Addr} {st : Sto} {H : Hp} {x y : W} {xv yv : V} {kk : List Key} {ws : List W} {j : Key} (k : StOk K mg μ st hid H) (hx : dctW st x = some (kk, ws)) (hy : keyW y = some j) (rx : Rep K mg (Fz μ st hid H) μ x xv) (ry : Rep K mg (Fz μ st hid H) μ y yv) :
    ∃ a, xv = .ref a ∧ ((∃ w v, valW (kk.zip ws) j = some w ∧ DGet H a yv (some v) ∧ Rep K mg (Fz μ st hid H) μ w v) ∨ (valW (kk.zip ws) j = none ∧ DGet H a yv none)) := by
  obtain ⟨a, vs, rfl, h1, h2, h3⟩ := dctW_at k hx rx
  obtain ⟨v1, v2⟩ := val_at (K := K) (mg := mg) (F := Fz μ st hid H) (μ := μ) j h1 h3
  refine ⟨a, rfl, ?_⟩
  cases e : valW (kk.zip ws) j with
  | some w =>
    obtain ⟨v, e2, r⟩ := v1 w e
    exact .inl ⟨w, v, rfl, .inl ⟨_, j, h2, key_rep hy ry, e2.symm⟩, r⟩
  | none => exact .inr ⟨rfl, .inl ⟨_, j, h2, key_rep hy ry, (v2 e).symm⟩⟩
theorem os_dget : Op2S X oDGet rDGet := by
  intro Wx hid μ st σ H Q x y xv yv k rx ry P
  unfold oDGet at P
  split at P
  · rename_i kk ws j hx hy
    obtain ⟨a, rfl, ⟨w, v, e1, e2, e3⟩ | ⟨e1, _⟩⟩ := dget_of k hx hy rx ry
    · rw [e1] at P
      exact ⟨a, v, rfl, e2, P μ H _ k .refl e3⟩
    · rw [e1] at P; exact P.elim
  · exact P.elim
theorem os_din {f : Bool → Bool} : Op2S X (oDIn f) (rDIn f) := by
  intro Wx hid μ st σ H Q y x yv xv k ry rx P
  unfold oDIn at P
  split at P
  · rename_i kk ws j hx hy
    obtain ⟨a, rfl, ⟨w, v, e1, e2, e3⟩ | ⟨e1, e2⟩⟩ := dget_of k hx hy rx ry
    · rw [e1] at P
      exact ⟨a, _, rfl, e2, P μ H _ k .refl rep_bl⟩
    · rw [e1] at P
      exact ⟨a, _, rfl, e2, P μ H _ k .refl rep_bl⟩
  · exact P.elim
theorem ev_dget {k : Nat} {o i : Expr} {f g : Sem} {pos : Pos} (C : Ctx X Wx k) (ho : EV X Wx o f) (hi : EV X Wx i g) (hs : NoSl i := by intro _ _; rfl) : EV X Wx (.Subscript o i pos) (e2 oDGet f g) :=
  PEm (pe_dget (by have := C.room.un; omega) ho hi hs) (e2_read os_dget)
theorem ev_din {k : Nat} {o i : Expr} {f g : Sem} {pos : Pos} (C : Ctx X Wx k) (hi : EV X Wx i g) (ho : EV X Wx o f) (hm : behindInMarks .In o = false := by rfl) : EV X Wx (.Compare i [.In] [o] pos) (e2 (oDIn fun b => b) g f) :=
  PEm (pe_cmp (pc_din (by have := C.room.un; omega) hi ho) hm) (e2_read os_din)
theorem tv_din {k : Nat} {o i : Expr} {f g : Sem} {pos : Pos} (C : Ctx X Wx k) (hi : EV X Wx i g) (ho : EV X Wx o f) (hm : behindInMarks .In o = false := by rfl) : TV X Wx (.Compare i [.In] [o] pos) (bOf (e2 (oDIn fun b => b) g f)) :=
  PTm (pt_cmp (pc_din (by have := C.room.un; omega) hi ho) hm) (bOf_read (e2_read os_din))
theorem ev_dnin {k : Nat} {o i : Expr} {f g : Sem} {pos : Pos} (C : Ctx X Wx k) (hi : EV X Wx i g) (ho : EV X Wx o f) (hm : behindInMarks .NotIn o = false := by rfl) : EV X Wx (.Compare i [.NotIn] [o] pos) (e2 (oDIn not) g f) :=
  PEm (pe_cmp (pc_dnotin (by have := C.room.un; omega) hi ho) hm) (e2_read os_din)
theorem tv_dnin {k : Nat} {o i : Expr} {f g : Sem} {pos : Pos} (C : Ctx X Wx k) (hi : EV X Wx i g) (ho : EV X Wx o f) (hm : behindInMarks .NotIn o = false := by rfl) : TV X Wx (.Compare i [.NotIn] [o] pos) (bOf (e2 (oDIn not) g f)) :=
  PTm (pt_cmp (pc_dnotin (by have := C.room.un; omega) hi ho) hm) (bOf_read (e2_read os_din))
theorem cr_dlen : CallR X (.builtin "len") rDLen := by
  intro pins s σ H vs us Q J r hq
  obtain ⟨a, kvs, rfl, hd, q⟩ := hq
  rw [Vals.ref1 r]
  exact d_len J hd fun t s' J' => ⟨.int _, H, J', ⟨_, rfl⟩, q⟩
theorem os_dlen : OpNS X oDLen rDLen := by
  intro Wx hid μ st σ H Q ws vs k r P
  unfold oDLen at P
  split at P
  · rename_i x
    obtain ⟨v, rfl, r1⟩ := reps1 (ws := []) r
    split at P
    · rename_i kk us e
      obtain ⟨a, xs, rfl, h1, h2, h3⟩ := dctW_at k e r1
      have hl : (kk.zip xs).length = kk.length := by rw [List.length_zip]; omega
      exact ⟨a, _, rfl, h2, by rw [hl]; exact P μ H _ k .refl rep_int⟩
    · exact P.elim
  · exact P.elim
theorem dctW_isD {K : PySem.W.Frag} {mg : Str → Option Value} {μ hid : List Addr} {st : Sto} {H : Hp} {x : W} {v : V} (k : StOk K mg μ st hid H) (h : (dctW st x).isSome = true) (r : Rep K mg (Fz μ st hid H) μ x v) : ∃ a, v = .ref a ∧ IsD H a := by
  cases e : dctW st x with
  | none => rw [e] at h; cases h
  | some p =>
    obtain ⟨a, vs, rfl, _, h2, _⟩ := dctW_at (kk := p.1) (ws := p.2) k e r
    exact ⟨a, rfl, .inl ⟨_, h2⟩⟩
theorem ev_dget2 {k : Nat} {o e d : Expr} {f g h : Sem} {apos cpos : Pos} (C : Ctx X Wx k) (ho : EV X Wx o f) (he : EV X Wx e g) (hd : EV X Wx d h) (m : M2 X o "get" apos e d cpos := by exact ⟨rfl, rfl, rfl, rfl⟩) : EV X Wx (.Call (.Attribute o "get" apos) [e, d] [] cpos) (eDGet2 f g h) :=
  PEm (pe_dget2 (by have := C.room.un; omega) ho he hd m) fun σ H Q ⟨μ, st, hid, fr, S, P⟩ => by
    refine ⟨μ, st, hid, fr, S, ?_⟩
    unfold eDGet2 at P
    cases h1 : f fr st with
    | bad => rw [h1] at P; exact P
    | err x s => rw [h1] at P; exact P
    | ok x st1 =>
      rw [h1, Out.bind_ok] at P
      intro μ1 H1 xv k1 g1 r1
      have P1 := EPost.from g1 P
      split at P1
      · rename_i hx
        obtain ⟨a, rfl, hd⟩ := dctW_isD k1 hx r1
        refine ⟨a, rfl, hd, μ1, st1, hid, fr, S.next k1 g1, ?_⟩
        cases h2 : g fr st1 with
        | bad => rw [h2] at P1; exact P1
        | err x s => rw [h2] at P1; exact P1
        | ok y st2 =>
          rw [h2, Out.bind_ok] at P1
          intro μ2 H2 yv k2 g2 r2
          have P2 := EPost.from g2 P1
          refine ⟨μ2, st2, hid, fr, (S.next k1 g1).next k2 g2, ?_⟩
          cases h3 : h fr st2 with
          | bad => rw [h3] at P2; exact P2
          | err x s => rw [h3] at P2; exact P2
          | ok z st3 =>
            rw [h3, Out.bind_ok] at P2
            intro μ3 H3 zv k3 g3 r3
            have P3 := EPost.from g3 P2
            split at P3
            · rename_i kk ws j hx3 hy
              obtain ⟨a', e1, ⟨w, v, e2, e3, e4⟩ | ⟨e2, e3⟩⟩ := dget_of k3 hx3 hy (Rep.mono (g2.trans g3).le (g2.trans g3).pre _ _ r1) (Rep.mono g3.le g3.pre _ _ r2)
              · cases e1
                rw [e2] at P3
                exact ⟨some v, e3, P3 μ3 H3 _ k3 .refl e4⟩
              · cases e1
                rw [e2] at P3
                exact ⟨none, e3, P3 μ3 H3 _ k3 .refl r3⟩
            · exact P3.elim
      · exact P1.elim
/-! ## making -/
def eDct0 : Sem := fun _ st => .ok (.cell st.length) (st ++ [.dct [] []])
theorem ev_dct0 {pos : Pos} : EV X Wx (.Dict [] [] pos) eDct0 := PEm pe_dnewK fun σ H Q ⟨μ, st, hid, fr, S, P⟩ => by
  intro p hp
  obtain ⟨k2, g2⟩ := S.sto.newCell (c := .dct [] []) (o := .dK []) hp rfl ⟨[], ⟨false, .inl [], rfl, rfl, upd_same⟩, .nil⟩
  refine P _ _ _ k2 g2 ?_
  unfold Rep
  exact ⟨p, by rw [← S.sto.len]; simp, rfl⟩
/-- {i: j} -/
def eDct1 (i j : Int) : Sem := fun _ st => .ok (.cell st.length) (st ++ [.dct [.int i] [.int j]])
theorem ev_dct1 {i j : Int} {n m : Nat} {p1 p2 pos : Pos} : EV X Wx (.Dict [some (.Constant (.int i) n p1)] [.Constant (.int j) m p2] pos) (eDct1 i j) :=
  PEm (pe_disp (pps_cons pe_int pe_int pps_nil) rfl rfl (by simp) (by simp)) fun σ H Q ⟨μ, st, hid, fr, S, P⟩ => by
    intro p hp
    refine ⟨upd_same, [(.inl i, .int j)], rfl, by simp, ?_⟩
    have e : upd (upd H p (.dK [])) p (.dK (mergeK [] [(.inl i, .int j)])) = upd H p (.dK [(.inl i, .int j)]) := by
      funext b
      by_cases z : b = p
      · subst z; rw [upd_same, upd_same]; rfl
      · rw [upd_ne z, upd_ne z, upd_ne z]
    rw [e]
    obtain ⟨k2, g2⟩ := S.sto.newCell (c := .dct [.int i] [.int j]) (o := .dK [(.inl i, .int j)]) hp rfl ⟨[.int j], ⟨false, .inl [.inl i], rfl, rfl, upd_same⟩, .cons rep_int .nil⟩
    refine P _ _ _ k2 g2 ?_
    unfold Rep
    exact ⟨p, by rw [← S.sto.len]; simp, rfl⟩
/-! ## writing -/
def uDct : Op3 := fun o y w st => match o with
  | .cell n => (match st[n]? with
    | some (.dct ks ws) => (match mapO keyW ks, keyW y with
      | some kk, some j => if ks.length < LINE then (if (kk.any fun i => decide (i = j)) = true then some (st.set n (.dct ks (putX kk ws j w))) else some (st.set n (.dct (ks ++ [y]) (ws ++ [w])))) else none
      | _, _ => none)
    | _ => none)
  | _ => none
theorem os_setD : Op3S X uDct rSetD := by
  intro hid μ st st' H Q o y w ov yv v k ro ry rw_ e q
  unfold uDct at e
  split at e
  · rename_i n
    split at e
    · rename_i ks ws e1
      split at e
      · rename_i kk j hk hy
        obtain ⟨a, rfl, h1, vs, ⟨l, q', g1, g2, g3⟩, h3⟩ := k.cell e1 ro
        rw [kind_plain hk] at g1
        cases g1
        have g3' : H a = some (.dK (kk.zip vs)) := g3
        have g2' : kk.length = vs.length := g2
        split at e
        · rename_i hl
          have hz : (kk.zip vs).length < sizeLine := by
            have := mapO_len hk
            have := le_line (Nat.le_of_lt hl)
            rw [List.length_zip]
            unfold LINE at hl
            rw [sizeLine_eq]; omega
          refine ⟨a, _, rfl, .inl ⟨kk.zip vs, j, g3', key_rep hy ry, hz, rfl⟩, ?_⟩
          unfold putK
          rw [any_zip j kk vs g2']
          split at e
          · rename_i hany
            cases e
            rw [if_pos hany, zip_put j v kk vs g2']
            have hl2 : kk.length = (putX kk vs j v).length := by rw [putX_len g2']
            obtain ⟨k2, g4⟩ := k.setCell (c' := .dct ks (putX kk ws j w)) (o := .dK (kk.zip (putX kk vs j v))) h1 e1 rfl rfl ⟨_, ⟨false, .inl kk, kind_plain hk, hl2, upd_same⟩, reps_put rw_ g2' h3⟩ (unl_plain hk)
            exact q _ _ k2 g4
          · rename_i hany
            cases e
            rw [if_neg hany]
            have ez : kk.zip vs ++ [(j, v)] = (kk ++ [j]).zip (vs ++ [v]) := by rw [List.zip_append g2']; rfl
            rw [ez]
            have hk2 := mapO_snoc hk hy
            obtain ⟨k2, g4⟩ := k.setCell (c' := .dct (ks ++ [y]) (ws ++ [w])) (o := .dK ((kk ++ [j]).zip (vs ++ [v]))) h1 e1 rfl rfl ⟨_, ⟨false, .inl (kk ++ [j]), kind_plain hk2, by show (kk ++ [j]).length = (vs ++ [v]).length; simp [g2'], upd_same⟩, h3.append (.cons rw_ .nil)⟩ (unl_plain hk)
            exact q _ _ k2 g4
        · cases e
      · cases e
    · cases e
  · cases e
theorem sv_subD {k : Nat} {o i e : Expr} {f fo fi : Sem} {pos tpos : Pos} (C : Ctx X Wx k) (he : EV X Wx e f) (ho : EV X Wx o fo) (hi : EV X Wx i fi)
    (ha : ∀ v, assign (.Subscript o i tpos) X.env v = (do
      let ov ← holding [v] (eval o X.env)
      let iv ← holding [v, ov] (eval i X.env)
      standAt tpos
      holding [v, ov, iv] (setItem ov iv v)
      release [v, ov, iv] []) := by intro _; rfl)
    (hs1 : swapsWithSole [.Subscript o i tpos] e pos.line X.env = pure false := by rfl) (hw : swappedStores [.Subscript o i tpos] e X.env = pure none := by rfl) (h1 : (assignEach [.Subscript o i tpos] X.env).map (·.2) = [assign (.Subscript o i tpos) X.env] := by rfl) :
    SV X Wx (.Assign [.Subscript o i tpos] e pos) (sSub uDct f fo fi) := sv_sub (set_dict (by have := C.room.un; omega)) os_setD he ho hi ha hs1 hw h1
end
end SL

namespace SL
open PySem PySem.Spec PyProof.Rows L2
/-! # a dict walked: locked meanwhile -/
def lkL : List W → List W := fun ks => .ty "L" :: ks
/-- the cell n's dict is let go -/
def unlk (n : Nat) (st : Sto) : Option Sto := match st[n]? with
  | some (.dct (.ty t :: ks) ws) => if t = "L" then (match mapO keyW ks with
    | some _ => some (st.set n (.dct ks ws))
    | none => none) else none
  | _ => none
def unlS (n : Nat) : SOut → SOut
  | .nx fr st => (match unlk n st with
    | some st2 => .nx fr st2
    | none => .bad)
  | .bk fr st => (match unlk n st with
    | some st2 => .bk fr st2
    | none => .bad)
  | .ct fr st => (match unlk n st with
    | some st2 => .ct fr st2
    | none => .bad)
  | .rt w st => (match unlk n st with
    | some st2 => .rt w st2
    | none => .bad)
  | _ => .bad
def unlE (n : Nat) : Out W → Out W
  | .ok w st => (match unlk n st with
    | some st2 => .ok w st2
    | none => .bad)
  | _ => .bad
/-- while s runs the dict in slot i is locked; one that is locked already stays so -/
def sLock (i : Nat) (s : SSem) : SSem := fun fr st => match fr[i]? with
  | some (some (.cell n)) => (match st[n]? with
    | some (.dct ks ws) => (match mapO keyW ks with
      | some _ => unlS n (s fr (st.set n (.dct (lkL ks) ws)))
      | none => s fr st)
    | _ => .bad)
  | _ => .bad
def eLock (i : Nat) (e : Sem) : Sem := fun fr st => match fr[i]? with
  | some (some (.cell n)) => (match st[n]? with
    | some (.dct ks ws) => (match mapO keyW ks with
      | some _ => unlE n (e fr (st.set n (.dct (lkL ks) ws)))
      | none => e fr st)
    | _ => .bad)
  | _ => .bad
/-- the keys of the locked dict in slot i -/
def iKeysW (i : Nat) : SemI := fun fr st => match fr[i]? with
  | some (some (.cell n)) => (match st[n]? with
    | some (.dct (.ty t :: ks) _) => if t = "L" then (match mapO keyW ks with
      | some _ => if ks.length ≤ LINE then .ok (.non, ks) st else .bad
      | none => .bad) else .bad
    | _ => .bad)
  | _ => .bad
section
variable {K : PySem.W.Frag} {mg : Str → Option Value} {Wx : Wish} {μ hid : List Addr} {st : Sto} {fr : Fr} {σ : L2.St} {H : Hp}
theorem live_dct {ks ws : List W} : (Cel.dct ks ws).live = true := rfl
/-- the state as it is locked -/
theorem SI.lock (S : SI K mg Wx μ st hid fr σ H) {i n : Nat} {ks ws : List W} {kk : List Key} (hf : fr[i]? = some (some (.cell n))) (hn : st[n]? = some (.dct ks ws)) (hk : mapO keyW ks = some kk) :
    ∃ (d : Addr) (vs : List V), μ[n]? = some d ∧ d ∉ hid ∧ kk.length = vs.length ∧ H d = some (.dK (kk.zip vs)) ∧ ∀ od, SI K mg Wx μ (st.set n (.dct (lkL ks) ws)) hid fr σ (upd H d (.frz od (.dK (kk.zip vs)))) ∧ Fz μ (st.set n (.dct (lkL ks) ws)) hid (upd H d (.frz od (.dK (kk.zip vs)))) = Fz μ st hid H := by
  obtain ⟨v, hv, r⟩ := S.loc i _ hf
  obtain ⟨d, rfl, h1, vs, ⟨l, q, g1, g2, g3⟩, h3⟩ := S.sto.cell hn r
  rw [kind_plain hk] at g1
  cases g1
  have g3' : H d = some (.dK (kk.zip vs)) := g3
  have g2' : kk.length = vs.length := g2
  refine ⟨d, vs, h1, S.sto.hidn n d _ h1 hn rfl, g2', g3', fun od => ?_⟩
  have kl : kindW (lkL ks) = some (true, .inl kk) := by
    show (mapO keyW ks).map (fun kk => (true, Sum.inl kk)) = _
    rw [hk]; rfl
  obtain ⟨k2, e, _⟩ := S.sto.setCell0 (c' := .dct (lkL ks) ws) (o := .frz od (.dK (kk.zip vs))) h1 hn rfl rfl ⟨vs, ⟨true, .inl kk, kl, g2', od, upd_same⟩, h3⟩
  exact ⟨⟨k2, S.len, fun j w h => by rw [e]; exact S.loc j w h, by rw [e]; exact S.ex⟩, e⟩
/-- .. and let go -/
theorem unlk_at {n : Nat} {st2 : Sto} {d : Addr} {od : Obj} {u : HO} (k : StOk K mg μ st hid H) (h : unlk n st = some st2) (hd : μ[n]? = some d) (hH : H d = some (.frz od u)) :
    StOk K mg μ st2 hid (upd H d u) ∧ Fz μ st2 hid (upd H d u) = Fz μ st hid H := by
  unfold unlk at h
  split at h
  · rename_i t ks ws hn
    split at h
    · rename_i ht
      subst ht
      split at h
      · rename_i kk hk
        cases h
        obtain ⟨vs, ⟨l, q, g1, g2, g3⟩, h3⟩ := k.ok n d _ hd hn
        have kl : kindW (.ty "L" :: ks) = some (true, .inl kk) := by
          show (mapO keyW ks).map (fun kk => (true, Sum.inl kk)) = _
          rw [hk]; rfl
        rw [kl] at g1
        cases g1
        obtain ⟨o, g3⟩ := g3
        have g3' : H d = some (.frz o (.dK (kk.zip vs))) := g3
        rw [hH] at g3'
        cases g3'
        obtain ⟨k2, e, _⟩ := k.setCell0 (c' := .dct ks ws) (o := .dK (kk.zip vs)) hd hn rfl rfl ⟨vs, ⟨false, .inl kk, kind_plain hk, g2, upd_same⟩, h3⟩
        exact ⟨k2, e⟩
      · cases h
    · cases h
  · cases h
theorem SI.free {μ2 : List Addr} {st2 st3 : Sto} {fr2 : Fr} {σ2 : L2.St} {H2 : Hp} {n : Nat} {d : Addr} {od : Obj} {u : HO} (S2 : SI K mg Wx μ2 st2 hid fr2 σ2 H2) (h : unlk n st2 = some st3) (hd : μ2[n]? = some d) (hH : H2 d = some (.frz od u)) : SI K mg Wx μ2 st3 hid fr2 σ2 (upd H2 d u) := by
  obtain ⟨k3, e⟩ := unlk_at S2.sto h hd hH
  exact ⟨k3, S2.len, fun j w h => by rw [e]; exact S2.loc j w h, by rw [e]; exact S2.ex⟩
/-- from before the lock to behind it -/
theorem grow_lock {st1 st2 st3 : Sto} {μ2 : List Addr} {H1 H2 : Hp} {n : Nat} {d : Addr} {od : Obj} {u : HO} (e1 : Fz μ st1 hid H1 = Fz μ st hid H) (hd : d ∉ hid) (hu : H d = some u) (nf : ∀ o z, u ≠ .frz o z) (hH1 : H1 = upd H d (.frz od u)) (g : Grow hid μ st1 H1 μ2 st2 H2) (e2 : Fz μ2 st3 hid (upd H2 d u) = Fz μ2 st2 hid H2) :
    Grow hid μ st H μ2 st3 (upd H2 d u) := by
  subst hH1
  refine ⟨g.pre, by rw [e2, ← e1]; exact g.le, fun a ha => ?_, fun a o z h => ?_⟩
  · have ne : a ≠ d := fun e => hd (e ▸ ha)
    rw [upd_ne ne, g.hid a ha, upd_ne ne]
  · have ne : a ≠ d := fun e => by
      rw [e, hu] at h
      exact nf o z (Option.some.inj h)
    rw [upd_ne ne]
    exact g.lck a o z (by rw [upd_ne ne]; exact h)
end
section
variable {X : Cx} {Wx : Wish}
theorem PSor {st : Stmt} {t1 t2 : TS} (h1 : PS X st t1) (h2 : PS X st t2) : PS X st (fun D σ H => t1 D σ H ∨ t2 D σ H) := ⟨fun pins s σ H D I q => q.elim (h1.run pins s σ H D I) (h2.run pins s σ H D I)⟩
theorem PEor {e : Expr} {t1 t2 : TE} (h1 : PE X e t1) (h2 : PE X e t2) : PE X e (fun σ H Q => t1 σ H Q ∨ t2 σ H Q) := ⟨fun pins s σ H Q I q => q.elim (h1.run pins s σ H Q I) (h2.run pins s σ H Q I)⟩
theorem sv_lock {i : Nat} {st : Stmt} {s : SSem} (h : SV X Wx st s) : SV X Wx st (sLock i s) := PSm (PSor (ps_lock h) h) fun D σ H ⟨μ, st, hid, fr, S, P⟩ => by
  unfold sLock at P
  split at P
  · rename_i n hf
    split at P
    · rename_i ks ws hn
      split at P
      · rename_i kk hk
        obtain ⟨d, vs, h1, h2, h3, h4, h5⟩ := S.lock hf hn hk
        refine .inl ⟨d, _, h4, trivial, fun od => ?_⟩
        obtain ⟨S1, e1⟩ := h5 od
        refine ⟨μ, _, hid, fr, S1, ?_⟩
        have at2 : ∀ {μ2 : List Addr} {st2 : Sto} {H2 : Hp}, Grow hid μ (st.set n (.dct (lkL ks) ws)) (upd H d (.frz od (.dK (kk.zip vs)))) μ2 st2 H2 → μ2[n]? = some d ∧ H2 d = some (.frz od (.dK (kk.zip vs))) := fun g => ⟨g.pre.get h1, g.lck _ _ _ upd_same⟩
        cases e : s fr (st.set n (.dct (lkL ks) ws)) with
        | bad => rw [e] at P; exact P
        | er x f s => rw [e] at P; exact False.elim P
        | nx f2 st2 =>
          rw [e] at P
          intro μ2 σ2 H2 S2 g
          obtain ⟨a1, a2⟩ := at2 g
          refine ⟨a2, ?_⟩
          cases eu : unlk n st2 with
          | none => simp only [unlS, eu] at P; exact False.elim P
          | some st3 =>
            simp only [unlS, eu] at P
            exact P μ2 σ2 _ (S2.free eu a1 a2) (grow_lock (n := n) e1 h2 h4 (fun o z q => nomatch q) rfl g (unlk_at S2.sto eu a1 a2).2)
        | bk f2 st2 =>
          rw [e] at P
          intro μ2 σ2 H2 S2 g
          obtain ⟨a1, a2⟩ := at2 g
          refine ⟨a2, ?_⟩
          cases eu : unlk n st2 with
          | none => simp only [unlS, eu] at P; exact False.elim P
          | some st3 =>
            simp only [unlS, eu] at P
            exact P μ2 σ2 _ (S2.free eu a1 a2) (grow_lock (n := n) e1 h2 h4 (fun o z q => nomatch q) rfl g (unlk_at S2.sto eu a1 a2).2)
        | ct f2 st2 =>
          rw [e] at P
          intro μ2 σ2 H2 S2 g
          obtain ⟨a1, a2⟩ := at2 g
          refine ⟨a2, ?_⟩
          cases eu : unlk n st2 with
          | none => simp only [unlS, eu] at P; exact False.elim P
          | some st3 =>
            simp only [unlS, eu] at P
            exact P μ2 σ2 _ (S2.free eu a1 a2) (grow_lock (n := n) e1 h2 h4 (fun o z q => nomatch q) rfl g (unlk_at S2.sto eu a1 a2).2)
        | rt w st2 =>
          rw [e] at P
          intro μ2 H2 v k2 g r2
          obtain ⟨a1, a2⟩ := at2 g
          refine ⟨a2, ?_⟩
          cases eu : unlk n st2 with
          | none => simp only [unlS, eu] at P; exact False.elim P
          | some st3 =>
            simp only [unlS, eu] at P
            obtain ⟨k3, e3⟩ := unlk_at k2 eu a1 a2
            exact P μ2 _ v k3 (grow_lock (n := n) e1 h2 h4 (fun o z q => nomatch q) rfl g e3) (by rw [e3]; exact r2)
      · exact .inr ⟨μ, st, hid, fr, S, P⟩
    · exact P.elim
  · exact P.elim
theorem ev_lock {i : Nat} {e : Expr} {f : Sem} (h : EV X Wx e f) : EV X Wx e (eLock i f) := PEm (PEor (pe_lock h) h) fun σ H Q ⟨μ, st, hid, fr, S, P⟩ => by
  unfold eLock at P
  split at P
  · rename_i n hf
    split at P
    · rename_i ks ws hn
      split at P
      · rename_i kk hk
        obtain ⟨d, vs, h1, h2, h3, h4, h5⟩ := S.lock hf hn hk
        refine .inl ⟨d, _, h4, trivial, fun od => ?_⟩
        obtain ⟨S1, e1⟩ := h5 od
        refine ⟨μ, _, hid, fr, S1, ?_⟩
        cases e : f fr (st.set n (.dct (lkL ks) ws)) with
        | bad => rw [e] at P; exact P
        | err x s => rw [e] at P; exact P.elim
        | ok w st2 =>
          rw [e] at P
          intro μ2 H2 v k2 g r2
          have a1 := g.pre.get h1
          have a2 := g.lck _ _ _ (upd_same (H := H) (a := d) (o := .frz od (.dK (kk.zip vs))))
          refine ⟨a2, ?_⟩
          cases eu : unlk n st2 with
          | none => simp only [unlE, eu] at P; exact False.elim P
          | some st3 =>
            simp only [unlE, eu] at P
            obtain ⟨k3, e3⟩ := unlk_at k2 eu a1 a2
            exact P μ2 _ v k3 (grow_lock (n := n) e1 h2 h4 (fun o z q => nomatch q) rfl g e3) (by rw [e3]; exact r2)
      · exact .inr ⟨μ, st, hid, fr, S, P⟩
    · exact P.elim
  · exact P.elim
theorem iv_keys {i : Nat} {x : Str} {tg : Expr} {pos : Pos} (he : EV X Wx (.Name x pos) (eVar i)) : IV X Wx tg (.Name x pos) (iKeysW i) := PIm (pi_keys he) fun σ H R ⟨μ, st, hid, fr, S, P⟩ => by
  unfold iKeysW at P
  split at P
  · rename_i n hf
    split at P
    · rename_i t ks ws hn
      split at P
      · rename_i ht
        subst ht
        split at P
        · rename_i kk hk
          split at P
          · rename_i hl
            refine ⟨μ, st, hid, fr, S, ?_⟩
            have ev : eVar i fr st = .ok (.cell n) st := by unfold eVar; rw [hf]
            rw [ev]
            intro μ1 H1 v k1 g1 r1
            obtain ⟨d, rfl, h1, vs, ⟨l, q, c1, c2, c3⟩, h3⟩ := k1.cell hn r1
            have kl : kindW (.ty "L" :: ks) = some (true, .inl kk) := by
              show (mapO keyW ks).map (fun kk => (true, Sum.inl kk)) = _
              rw [hk]; rfl
            rw [kl] at c1
            cases c1
            obtain ⟨o, c3⟩ := c3
            have c3' : H1 d = some (.frz o (.dK (kk.zip vs))) := c3
            have c2' : kk.length = vs.length := c2
            have hkl := mapO_len hk
            have hz : (kk.zip vs).length = ks.length := by rw [List.length_zip]; omega
            refine ⟨d, o, rfl, .inl ⟨_, c3', P μ1 H1 _ k1 g1 ?_⟩⟩
            exact {
              len := le_line hl
              go := fun hid μ st H j k l p q s hj => ⟨q _ _ _ c3', by rw [hz]; exact hj⟩
              yld := fun hid μ st H j v H' k l p q s hj y => by
                obtain ⟨rfl, key, u, e1, rfl⟩ := y
                refine ⟨k, .refl, ks[j], List.getElem?_eq_getElem hj, ?_⟩
                have e2 : kk[j]? = some key := by
                  rw [List.getElem?_zip_eq_some] at e1
                  exact e1.1
                exact rep_key (mapO_get hk (List.getElem?_eq_getElem hj) e2)
              stop := fun hid μ st H j k l p q s hj => ⟨q _ _ _ c3', by rw [hz]; exact hj⟩ }
          · exact P.elim
        · exact P.elim
      · exact P.elim
    · exact P.elim
  · exact P.elim
end
end SL

namespace SL
open PySem PySem.Spec PyProof.Rows L2
/-! ## a def that hands back an old cell or a new one -/
def leaveB (n : Nat) (w : W) (st : Sto) : Out W := match w with
  | .cell j => if n ≤ j then leaveC n (.cell j) st else leave n (.cell j) st
  | w => leave n w st
theorem lv_leaveB {K : PySem.W.Frag} {mg : Str → Option Value} : LvOk K mg leaveB := fun n hid μ0 μ st0 st H0 H Wx σ Q w v hn g k r P => by
  unfold leaveB at P
  split at P
  · split at P
    · exact lv_leaveC n hid μ0 μ st0 st H0 H Wx σ Q _ v hn g k r P
    · exact lv_leave n hid μ0 μ st0 st H0 H Wx σ Q _ v hn g k r P
  · exact lv_leave n hid μ0 μ st0 st H0 H Wx σ Q _ v hn g k r P
def mkFnB (m : Nat) (b : SSem) : Fn := mkFnG leaveB m b
/-! ## an own instance is of no built-in type -/
structure NoTy (K : PySem.W.Frag) (C : Addr) : Prop where
  no : ∀ n, tyN n = true → PySem.W.kitOne K (.ref C) (.type n) = some false
theorem noTy_of {K : PySem.W.Frag} {C : Addr} (h1 : PySem.W.mroIn K C (.type "int") = some false) (h2 : PySem.W.mroIn K C (.type "bool") = some false) (h3 : PySem.W.mroIn K C (.type "str") = some false) (h4 : PySem.W.mroIn K C (.type "tuple") = some false) (h5 : PySem.W.mroIn K C (.type "list") = some false) (h6 : PySem.W.mroIn K C (.type "dict") = some false) (h7 : PySem.W.mroIn K C (.type "NoneType") = some false) : NoTy K C := ⟨fun n hn => by
  have go : ∀ t, PySem.W.kitMeta t = true → PySem.W.mroIn K C (.type t) = some false → PySem.W.kitOne K (.ref C) (.type t) = some false := fun t a b => by
    show (if (Value.ref C == Value.type t) = true then some true else (if PySem.W.kitMeta t = true then PySem.W.subIn K (.ref C) (.type t) else none)) = some false
    have z : (Value.ref C == Value.type t) = false := by simp
    rw [if_neg (by rw [z]; exact Bool.false_ne_true), if_pos a]
    exact b
  simp only [tyN, Bool.or_eq_true, beq_iff_eq] at hn
  rcases hn with (((((rfl | rfl) | rfl) | rfl) | rfl) | rfl) | rfl
  · exact go _ (by decide +kernel) h1
  · exact go _ (by decide +kernel) h2
  · exact go _ (by decide +kernel) h3
  · exact go _ (by decide +kernel) h4
  · exact go _ (by decide +kernel) h5
  · exact go _ (by decide +kernel) h6
  · exact go _ (by decide +kernel) h7⟩
theorem noAny {K : PySem.W.Frag} {C : Addr} (h : NoTy K C) : ∀ ns : List String, ns.all tyN = true → PySem.W.kitAny K (.ref C) (ns.map Value.type) = some false
  | [], _ => rfl
  | n :: ns, e => by
    rw [List.all_cons, Bool.and_eq_true] at e
    show (match PySem.W.kitOne K (.ref C) (.type n) with
      | some true => some true
      | some false => PySem.W.kitAny K (.ref C) (ns.map Value.type)
      | none => none) = _
    rw [h.no n e.1]
    exact noAny h ns e.2
/-- isinstance of data, and of the class c's instances -/
def oIsiI (c : Str) : OpN := fun ws st => match ws with
  | [x, .ty n] => (match insW st x with
    | some (e, _, _) => if e = c ∧ tyN n = true then .ok (.bl false) st else .bad
    | none => oIsi [x, .ty n] st)
  | [x, .tup cs] => (match insW st x with
    | some (e, _, _) => (match tyNames cs with
      | some ns => if e = c ∧ ns.all tyN = true then .ok (.bl false) st else .bad
      | none => .bad)
    | none => oIsi [x, .tup cs] st)
  | _ => .bad
section
variable {X : Cx}
theorem os_isiI {c : Str} {C : Addr} (hm : X.mg c = some (.ref C)) (T : ClsC X.K C) (N : NoTy X.K C) : OpNS X (oIsiI c) (rIsiAll X.K) := by
  intro Wx hid μ st σ H Q ws vs k r P
  unfold oIsiI at P
  split at P
  · rename_i x n
    split at P
    · rename_i e n' w' hi
      split at P
      · rename_i he
        obtain ⟨rfl, hn⟩ := he
        obtain ⟨v, z, rfl, r1, r2⟩ := reps2 r
        obtain ⟨a, D, dx, us, rfl, g1, g2, g3, g4⟩ := insW_at k hi r1
        rw [hm] at g1
        cases g1
        rw [rep_ty_inv r2]
        exact .inl ⟨.ref a, .ty n, .ref C, .type n, false, rfl, .ty n, .base (.ins g3 T.cl T.ha T.hn T.htk T.hm), N.no n hn, P μ H _ k .refl rep_bl⟩
      · exact P.elim
    · exact os_isi _ hid μ st σ H Q _ vs k r P
  · rename_i x cs
    split at P
    · rename_i e n' w' hi
      split at P
      · rename_i ns e2
        split at P
        · rename_i he
          obtain ⟨rfl, hn⟩ := he
          obtain ⟨v, c', rfl, r1, r2⟩ := reps2 r
          obtain ⟨a, D, dx, us, rfl, g1, g2, g3, g4⟩ := insW_at k hi r1
          rw [hm] at g1
          cases g1
          have ty : TyX X.K H (.ref a) (.ref C) := .base (.ins g3 T.cl T.ha T.hn T.htk T.hm)
          obtain ⟨b, us, rfl, h1, h2⟩ := rep_tup_inv r2
          have e3 := tyNames_at e2 h2
          subst e3
          exact .inr (.inl ⟨_, b, _, .ref C, _, _, rfl, (Fz.sub h1).1, paired_ty ns, ty, noAny N ns hn, P μ H _ k .refl rep_bl⟩)
        · exact P.elim
      · exact P.elim
    · exact os_isi _ hid μ st σ H Q _ vs k r P
  · exact P.elim
end
end SL

namespace SL
open PySem PySem.Spec PyProof.Rows L2
/-! ## {'x': e}, as data -/
def eDctS (x : Str) (f : Sem) : Sem := fun fr st => (f fr st).bind fun w st1 => .ok (.dct [.str x] [w]) st1
section
variable {X : Cx} {Wx : Wish}
theorem ev_dctS {x : Str} {e : Expr} {f : Sem} {n : Nat} {p1 pos : Pos} (he : EV X Wx e f) : EV X Wx (.Dict [some (.Constant (.str x) n p1)] [e] pos) (eDctS x f) :=
  PEm (pe_disp (pps_cons pe_str he pps_nil) rfl rfl (by simp) (by simp)) fun σ H Q ⟨μ, st, hid, fr, S, P⟩ => by
    intro p hp
    have pn : p ∉ hid := fun z => (S.sto.hidt p z).1 hp
    obtain ⟨k2, e2⟩ := S.sto.hideNew (o := .dK []) hp
    have S2 : SI X.K X.mg Wx μ st (p :: hid) fr σ (upd H p (.dK [])) := ⟨k2, S.len, fun j w h => by rw [e2]; exact S.loc j w h, by rw [e2]; exact S.ex⟩
    refine ⟨μ, st, p :: hid, fr, S2, ?_⟩
    unfold eDctS at P
    have lk0 : ∀ {H1 : Hp}, Lk (upd H p (.dK [])) H1 → Lk H H1 := fun l a o u h => l a o u (by rw [upd_ne (ne_of_none h hp)]; exact h)
    cases h1 : f fr st with
    | bad => rw [h1] at P; exact P
    | err z s =>
      rw [h1] at P
      intro μ1 H1 c d k1 g1 xr
      obtain ⟨k3, l3, e3⟩ := k1.seen pn ((g1.hid p List.mem_cons_self).trans upd_same)
      refine P μ1 H1 c d k3 ⟨g1.pre, ?_, fun a ha => ?_, lk0 g1.lck⟩ (xr.mono l3 (.refl _))
      · rw [← e2]; exact g1.le.trans l3
      · have ne : a ≠ p := fun z => pn (z ▸ ha)
        rw [g1.hid a (List.mem_cons_of_mem _ ha), upd_ne ne]
    | ok w st1 =>
      rw [h1, Out.bind_ok] at P
      intro μ1 H1 v k1 g1 r1
      have hp1 : H1 p = some (.dK []) := (g1.hid p List.mem_cons_self).trans upd_same
      refine ⟨hp1, [(.inr x, v)], rfl, by simp, ?_⟩
      have k4 := k1.hidUpd (o := .dK [(.inr x, v)]) (List.mem_cons_self (a := p) (l := hid))
      have f4 := Fz.hidUpd (μ := μ1) (st := st1) (H := H1) (o := .dK [(.inr x, v)]) (List.mem_cons_self (a := p) (l := hid))
      obtain ⟨k5, l5, e5⟩ := k4.seen pn upd_same
      refine P μ1 _ _ k5 ⟨g1.pre, ?_, fun a ha => ?_, fun a o u h => ?_⟩ ?_
      · rw [← e2]; exact (g1.le.trans (by rw [f4]; exact .refl _)).trans l5
      · have ne : a ≠ p := fun z => pn (z ▸ ha)
        show upd H1 p _ a = _
        rw [upd_ne ne, g1.hid a (List.mem_cons_of_mem _ ha), upd_ne ne]
      · have q := lk0 g1.lck a o u h
        have ne : a ≠ p := fun z => by rw [z, hp1] at q; cases q
        show upd H1 p _ a = _
        rw [upd_ne ne]; exact q
      · unfold Rep
        exact ⟨p, [v], rfl, ⟨false, .inl [.inr x], rfl, rfl, .inl e5, fun _ kk z => nomatch z⟩, .cons (r1.mono (by rw [← f4]; exact l5) (.refl _)) .nil⟩
end
/-! ## words of reckoning -/
section
variable {st : Sto} {c : Str} {n : String} {cs : List W}
@[simp] theorem isiI_int {i : Int} : oIsiI c [.int i, .ty n] st = oIsi [.int i, .ty n] st := rfl
@[simp] theorem isiI_bl {b : Bool} : oIsiI c [.bl b, .ty n] st = oIsi [.bl b, .ty n] st := rfl
@[simp] theorem isiI_str {x : Str} : oIsiI c [.str x, .ty n] st = oIsi [.str x, .ty n] st := rfl
@[simp] theorem isiI_non : oIsiI c [.non, .ty n] st = oIsi [.non, .ty n] st := rfl
@[simp] theorem isiI_tup {ws : List W} : oIsiI c [.tup ws, .ty n] st = oIsi [.tup ws, .ty n] st := rfl
@[simp] theorem isiI_lst {ws : List W} : oIsiI c [.lst ws, .ty n] st = oIsi [.lst ws, .ty n] st := rfl
@[simp] theorem isiI_dct {ks ws : List W} : oIsiI c [.dct ks ws, .ty n] st = oIsi [.dct ks ws, .ty n] st := rfl
theorem isiI_ins {ns : List Str} {ws : List W} (h : tyN n = true) : oIsiI c [.ins c ns ws, .ty n] st = .ok (.bl false) st := by
  show (if c = c ∧ tyN n = true then Out.ok (W.bl false) st else .bad) = _
  rw [if_pos ⟨rfl, h⟩]
end
end SL

/-! # len(set(xs)), xs a list of tuples of ints -/
namespace SL
open PySem PySem.Spec PyProof.Rows L2
def tLenSetT (K : PySem.W.Frag) (ta : TE) : TE := fun σ H Q => ta σ H fun x H1 => ∃ (l : Addr) (ks : List (Addr × List Int)), x = V.ref l ∧ SqL K H1 l (ks.map fun p => V.ref p.1) ∧ (∀ p ∈ ks, SqT K H1 p.1 (p.2.map V.int)) ∧ ks.length < 64 ∧
  ∀ L : List (Addr × List Int), (∀ p ∈ L, p ∈ ks) → (∀ p ∈ ks, p.2 ∈ L.map (·.2)) → (L.map (·.2)).Nodup → Q (.int L.length) H1
/-- each one once -/
def onceL : List (List Int) → List (List Int)
  | [] => []
  | k :: ks => if k ∈ onceL ks then onceL ks else k :: onceL ks
theorem mem_once {k : List Int} : ∀ {ks : List (List Int)}, k ∈ onceL ks ↔ k ∈ ks
  | [] => .rfl
  | x :: ks => by
    unfold onceL
    by_cases h : x ∈ onceL ks
    · rw [if_pos h, mem_once, List.mem_cons]
      constructor
      · exact .inr
      · rintro (rfl | z)
        · exact mem_once.mp h
        · exact z
    · rw [if_neg h, List.mem_cons, List.mem_cons, mem_once]
theorem nodup_once : ∀ ks : List (List Int), (onceL ks).Nodup
  | [] => List.nodup_nil
  | x :: ks => by
    unfold onceL
    by_cases h : x ∈ onceL ks
    · rw [if_pos h]; exact nodup_once ks
    · rw [if_neg h]; exact List.nodup_cons.mpr ⟨h, nodup_once ks⟩
noncomputable def eLenSet (f : Sem) : Sem := fun fr st => (f fr st).bind fun w st1 => match (lstW st1 w).bind tupsI with
  | some ks => if dec (ks.length < 64) = true then .ok (.int (onceL ks).length) st1 else .bad
  | none => .bad
section
variable {X : Cx} {Wx : Wish}
theorem pe_lenSetT {a : Expr} {ta : TE} {p p2 q pos : Pos} (hc : X.calm = true) (hu : X.A.units + 64 < cLine) (hg : Gl X "len") (hm : X.mg "len" = none) (hg2 : Gl X "set") (hm2 : X.mg "set" = none) (ha : PE X a ta)
    (na : starEach [a] X.env = (false, eval a X.env) :: starEach [] X.env := by rfl) : PE X (.Call (.Name "len" p) [.Call (.Name "set" p2) [a] [] q] [] pos) (tLenSetT X.K ta) := by
  refine ⟨fun pins s σ H Q I h => ?_⟩
  refine Call_ (ld_blt I hg hm PySem.boot_len ?_)
  refine PyProof.Rows.callWith_builtin1 (PyProof.Rows.args_cons ?_ rfl) rfl rfl
  refine Call_ (ld_blt I hg2 hm2 PyProof.Rows.boot_set ?_)
  refine PyProof.Rows.callWith_type1 (PyProof.Rows.args_cons (thn (ha.run pins s σ H _ I h) fun v s1 ⟨x, H1, I1, r1, q1⟩ => PyProof.Rows.args_nil ?_) na) na rfl
  obtain ⟨l, ks, rfl, hq, hk, hf, q1⟩ := q1
  cases r1
  obtain ⟨its, rv, pl, hz⟩ := I1.list hq
  refine call_set_tups (P := X.prog) (w := X.w) ks (I1.ok.hd hc) pl.isList (by simpa using refs_of_vals rv) (fun p hp => I1.isT (hk p hp)) hf (by omega) fun h' tk L es ep t R g k => ?_
  refine PyProof.Rows.args_nil ?_
  have I2 : Inv X pins σ H1 { s1 with heap := h', toks := tk } := I1.kept k
  obtain ⟨o, ho, hex, hd⟩ := R.ob
  have hs : es.size = L.length := SetTR.size (s := { s1 with heap := h', toks := tk }) R
  have hfit : t.fits es.size = true := SetTR.fits (s := { s1 with heap := h', toks := tk }) R
  have hfew := R.few
  refine call_len_set ho hex hd hfit (by omega) ⟨.int L.length, H1, I2.tok _, ⟨_, by rw [hs]⟩, q1 L (fun p hp => ?_) (fun p hp => ?_) R.nd⟩
  · exact List.mem_of_mem_take (g.sub p hp)
  · exact g.all p (by rw [List.take_length]; exact hp)
theorem tups_refs {K : PySem.W.Frag} {mg : Str → Option Value} {H : Hp} {hid μ : List Addr} {st : Sto} : ∀ {ks : List (List Int)} {vs : List V}, Reps K mg (Fz μ st hid H) μ (ks.map tupOf) vs → ∃ ps : List (Addr × List Int), vs = ps.map (fun p => V.ref p.1) ∧ ps.map (·.2) = ks ∧ ∀ p ∈ ps, SqT K H p.1 (p.2.map V.int)
  | [], vs, r => by
    have := r.length
    cases vs with
    | nil => exact ⟨[], rfl, rfl, fun p h => nomatch h⟩
    | cons v vs => simp at this
  | k :: ks, vs, r => by
    cases vs with
    | nil => have := r.length; simp at this
    | cons v vs =>
      obtain ⟨v', t, e, h1, h2⟩ := r.cons_inv
      cases e
      obtain ⟨a, rfl, h3⟩ := tup_I h1
      obtain ⟨ps, rfl, rfl, h4⟩ := tups_refs h2
      exact ⟨(a, k) :: ps, rfl, rfl, fun p hp => by
        rcases List.mem_cons.mp hp with rfl | hp
        · exact h3
        · exact h4 p hp⟩
theorem ev_lenSet {k : Nat} {a : Expr} {f : Sem} {p p2 q pos : Pos} (C : Ctx X Wx k) (hm : X.mg "len" = none) (hm2 : X.mg "set" = none) (ha : EV X Wx a f) (hg : Gl X "len" := by rfl) (hg2 : Gl X "set" := by rfl)
    (na : starEach [a] X.env = (false, eval a X.env) :: starEach [] X.env := by rfl) : EV X Wx (.Call (.Name "len" p) [.Call (.Name "set" p2) [a] [] q] [] pos) (eLenSet f) :=
  PEm (pe_lenSetT C.calm (by have := C.room.un; omega) hg hm hg2 hm2 ha na) fun σ H Q ⟨μ, st, hid, fr, S, P⟩ => by
    refine ⟨μ, st, hid, fr, S, ?_⟩
    unfold eLenSet at P
    cases h1 : f fr st with
    | bad => rw [h1] at P; exact P
    | err x s1 => rw [h1] at P; exact P
    | ok w st1 =>
      rw [h1, Out.bind_ok] at P
      intro μ1 H1 v k1 g1 r1
      split at P
      · rename_i ks e
        split at P
        · rename_i hl
          have hl := dec_of hl
          cases e1 : lstW st1 w with
          | none => rw [e1] at e; cases e
          | some us =>
            rw [e1] at e
            obtain ⟨l, xs, rfl, h2, h3⟩ := lstW_at k1 e1 r1
            rw [tupsI_eq e] at h3
            obtain ⟨ps, rfl, rfl, h4⟩ := tups_refs h3
            rw [List.length_map] at hl
            refine ⟨l, ps, rfl, h2, h4, hl, fun L a1 a2 nd => ?_⟩
            have el : L.length = (onceL (ps.map (·.2))).length := by
              rw [← List.length_map (f := fun p : Addr × List Int => p.2)]
              refine Nat.le_antisymm (List.Nodup.length_le_of_subset nd fun y hy => ?_) (List.Nodup.length_le_of_subset (nodup_once _) fun y hy => ?_)
              · obtain ⟨q, hq, rfl⟩ := List.mem_map.mp hy
                exact mem_once.mpr (List.mem_map.mpr ⟨q, a1 q hq, rfl⟩)
              · obtain ⟨q, hq, rfl⟩ := List.mem_map.mp (mem_once.mp hy)
                exact a2 q hq
            rw [el]
            exact P μ1 H1 _ k1 g1 (by unfold Rep; rfl)
        · exact P.elim
      · exact P.elim
/-- + of lists, living or not -/
def lhW (st : Sto) : W → Option (List W)
  | .lst ws => some ws
  | .cell k => match st[k]? with
    | some (.lst ws) => some ws
    | some (.frz (.lst ws)) => some ws
    | _ => none
  | _ => none
theorem lhW_at {K : PySem.W.Frag} {mg : Str → Option Value} {μ : List Addr} {st : Sto} {hid : List Addr} {H : Hp} (s : StOk K mg μ st hid H) {w : W} {ws : List W} {v : V} (h : lhW st w = some ws) (r : Rep K mg (Fz μ st hid H) μ w v) : ∃ a vs, v = .ref a ∧ H a = some (.lst vs) ∧ Reps K mg (Fz μ st hid H) μ ws vs := by
  cases w with
  | lst us =>
    unfold lhW at h; cases h
    obtain ⟨a, vs, e, h1, h2⟩ := rep_lst_inv r
    exact ⟨a, vs, e, (Fz.sub h1).1, h2⟩
  | cell k =>
    unfold lhW at h
    simp only at h
    split at h
    · rename_i us e
      cases h
      obtain ⟨a, e1, e2, vs, h1, h2⟩ := s.cell e r
      exact ⟨a, vs, e1, h1, h2⟩
    · rename_i us e
      cases h
      obtain ⟨a, e1, e2, h1⟩ := s.cell e r
      obtain ⟨b, vs, e3, h1, h2⟩ := rep_lst_inv h1
      cases e3
      exact ⟨a, vs, e1, (Fz.sub h1).1, h2⟩
    · cases h
  | _ => cases h
def oAddC : Op2 := fun x y st => match lhW st x, lhW st y with
  | some a, some b => if a.length + b.length ≤ LINE then .ok (.lst (a ++ b)) st else .bad
  | _, _ => oAdd x y st
theorem os_addC : Op2S X oAddC (rAddAll X.K) := by
  intro Wx hid μ st σ H Q w u x y k rx ry P
  unfold oAddC at P
  split at P
  · rename_i a b ea eb
    split at P
    · rename_i hz
      obtain ⟨p, vs, rfl, h1, h2⟩ := lhW_at k ea rx
      obtain ⟨q, zs, rfl, h3, h4⟩ := lhW_at k eb ry
      refine .inr (.inr (.inr ⟨p, q, vs, zs, rfl, rfl, h1, h3, by rw [← h2.length, ← h4.length]; exact SL.le_line hz, fun t ht => ?_⟩))
      exact ok_new P k ht fun F l e => rep_lst e ((h2.append h4).mono l (.refl _))
    · exact P.elim
  · exact os_add _ hid μ st σ H Q w u x y k rx ry P
end
end SL

namespace SL
open PySem PySem.Spec PyProof.Rows L2
/-! # dicts whose keys are tuples of ints and texts -/
abbrev KeyL := List Key
def dctT (st : Sto) (x : W) : Option (List KeyL × List W) := match x with
  | .cell k => match st[k]? with
    | some (.dct ks ws) => (match kindW ks with
      | some (_, .inr kk) => some (kk, ws)
      | _ => none)
    | _ => none
  | .dct ks ws => (match kindW ks with
    | some (_, .inr kk) => some (kk, ws)
    | _ => none)
  | _ => none
def valT {α : Type} (l : List (KeyL × α)) (k : KeyL) : Option α := (l.find? fun p => decide (p.1 = k)).map (·.2)
def putT {α : Type} (kk : List KeyL) (xs : List α) (k : KeyL) (x : α) : List α := (kk.zip xs).map fun p => if p.1 = k then x else p.2
theorem zip_putT {α : Type} (k : KeyL) (x : α) : ∀ (kk : List KeyL) (xs : List α), kk.length = xs.length → (kk.zip xs).map (fun kv => if kv.1 = k then (kv.1, x) else kv) = kk.zip (putT kk xs k x)
  | [], xs, _ => by simp
  | j :: kk, [], h => by simp at h
  | j :: kk, y :: xs, h => by
    have ih := zip_putT k x kk xs (by simpa using h)
    unfold putT at ih ⊢
    rw [List.zip_cons_cons, List.map_cons, List.map_cons, List.zip_cons_cons, ih]
    by_cases e : j = k <;> simp [e]
theorem putT_len {α : Type} {kk : List KeyL} {xs : List α} {k : KeyL} {x : α} (h : kk.length = xs.length) : (putT kk xs k x).length = kk.length := by
  unfold putT; rw [List.length_map, List.length_zip]; omega
theorem any_zipT {α : Type} (k : KeyL) : ∀ (kk : List KeyL) (xs : List α), kk.length = xs.length → ((kk.zip xs).any fun kv => decide (kv.1 = k)) = kk.any fun j => decide (j = k)
  | [], xs, _ => by simp
  | j :: kk, [], h => by simp at h
  | j :: kk, y :: xs, h => by
    rw [List.zip_cons_cons, List.any_cons, List.any_cons, any_zipT k kk xs (by simpa using h)]
theorem kind_T1 {ks : List W} {kk : List KeyL} (h : mapO keyT ks = some kk) : kindW (.ty "T" :: ks) = some (false, .inr kk) := by
  show (mapO keyT ks).map (fun kk => (false, Sum.inr kk)) = _
  rw [h]; rfl
theorem kind_TL {ks : List W} {kk : List KeyL} (h : mapO keyT ks = some kk) : kindW (.ty "TL" :: ks) = some (true, .inr kk) := by
  show (mapO keyT ks).map (fun kk => (true, Sum.inr kk)) = _
  rw [h]; rfl
section
variable {K : PySem.W.Frag} {mg : Str → Option Value} {F : Hp} {μ : List Addr}
theorem keys_rep : ∀ {us : List W} {k : KeyL} {vs : List V}, keysW us = some k → Reps K mg F μ us vs → vs = k.map kV
  | [], k, vs, h, r => by
    unfold keysW at h; cases h
    have := r.length
    cases vs with
    | nil => rfl
    | cons v vs => simp at this
  | u :: us, k, vs, h, r => by
    unfold keysW at h
    cases e1 : keyW u with
    | none => rw [e1] at h; cases h
    | some j =>
      cases e2 : keysW us with
      | none => rw [e1, e2] at h; cases h
      | some js =>
        rw [e1, e2] at h; cases h
        cases vs with
        | nil => have := r.length; simp at this
        | cons v vs =>
          obtain ⟨v', t, e, h1, h2⟩ := r.cons_inv
          cases e
          rw [key_rep e1 h1, keys_rep e2 h2]; rfl
theorem rep_keys : ∀ {us : List W} {k : KeyL}, keysW us = some k → Reps K mg F μ us (k.map kV)
  | [], k, h => by unfold keysW at h; cases h; exact .nil
  | u :: us, k, h => by
    unfold keysW at h
    cases e1 : keyW u with
    | none => rw [e1] at h; cases h
    | some j =>
      cases e2 : keysW us with
      | none => rw [e1, e2] at h; cases h
      | some js =>
        rw [e1, e2] at h; cases h
        exact .cons (rep_key e1) (rep_keys e2)
theorem keyT_inv {w : W} {k : KeyL} (h : keyT w = some k) : ∃ us, w = .tup us ∧ keysW us = some k := by
  cases w with
  | tup us => exact ⟨us, rfl, h⟩
  | _ => cases h
theorem keyT_rep {w : W} {k : KeyL} {v : V} (h : keyT w = some k) (r : Rep K mg F μ w v) : ∃ b, v = .ref b ∧ F b = some (.tup (k.map kV)) := by
  obtain ⟨us, rfl, h⟩ := keyT_inv h
  obtain ⟨a, vs, rfl, h1, h2⟩ := rep_tup_inv r
  rw [keys_rep h h2] at h1
  exact ⟨a, rfl, h1⟩
theorem rep_keyT {w : W} {k : KeyL} {b : Addr} (h : keyT w = some k) (e : F b = some (.tup (k.map kV))) : Rep K mg F μ w (.ref b) := by
  obtain ⟨us, rfl, h⟩ := keyT_inv h
  exact rep_tup e (rep_keys h)
theorem val_atT (k : KeyL) : ∀ {kk : List KeyL} {ws : List W} {vs : List V}, kk.length = vs.length → Reps K mg F μ ws vs → (∀ w, valT (kk.zip ws) k = some w → ∃ v, valV (kk.zip vs) k = some v ∧ Rep K mg F μ w v) ∧ (valT (kk.zip ws) k = none → valV (kk.zip vs) k = none)
  | [], ws, vs, _, _ => by
    refine ⟨fun w h => ?_, fun _ => rfl⟩
    simp [valT] at h
  | j :: kk, ws, [], h, _ => by simp at h
  | j :: kk, ws, v :: vs, h, r => by
    have hl := r.length
    cases ws with
    | nil => simp at hl
    | cons w ws =>
      obtain ⟨v', vs', e, r1, r2⟩ := r.cons_inv
      cases e
      obtain ⟨i1, i2⟩ := val_atT k (kk := kk) (ws := ws) (vs := vs) (by simpa using h) r2
      by_cases e : j = k
      · rw [List.zip_cons_cons, List.zip_cons_cons, valV_pos (p := (j, v)) e]
        have z : valT ((j, w) :: kk.zip ws) k = some w := by simp [valT, List.find?_cons, e]
        rw [z]
        exact ⟨fun u h => by cases h; exact ⟨v, rfl, r1⟩, fun h => nomatch h⟩
      · rw [List.zip_cons_cons, List.zip_cons_cons, valV_neg (p := (j, v)) e]
        have z : valT ((j, w) :: kk.zip ws) k = valT (kk.zip ws) k := by simp [valT, List.find?_cons, e]
        rw [z]
        exact ⟨i1, i2⟩
theorem reps_putT {k : KeyL} {w : W} {v : V} (rw_ : Rep K mg F μ w v) : ∀ {kk : List KeyL} {ws : List W} {vs : List V}, kk.length = vs.length → Reps K mg F μ ws vs → Reps K mg F μ (putT kk ws k w) (putT kk vs k v)
  | [], ws, vs, _, _ => by unfold putT; simp; exact .nil
  | j :: kk, ws, [], h, _ => by simp at h
  | j :: kk, ws, u :: vs, h, r => by
    have hl := r.length
    cases ws with
    | nil => simp at hl
    | cons w' ws =>
      obtain ⟨v', vs', e, r1, r2⟩ := r.cons_inv
      cases e
      have ih := reps_putT (k := k) rw_ (kk := kk) (ws := ws) (vs := vs) (by simpa using h) r2
      unfold putT at ih ⊢
      rw [List.zip_cons_cons, List.zip_cons_cons, List.map_cons, List.map_cons]
      refine .cons ?_ ih
      by_cases e : j = k
      · simp only [e, if_true]; exact rw_
      · simp only [e, if_false]; exact r1
theorem dctT_at {hid : List Addr} {st : Sto} {H : Hp} {x : W} {v : V} {kk : List KeyL} {ws : List W} (k : StOk K mg μ st hid H) (h : dctT st x = some (kk, ws)) (r : Rep K mg (Fz μ st hid H) μ x v) :
    ∃ a vs, v = .ref a ∧ kk.length = vs.length ∧ Rd H a (.dT (kk.zip vs)) ∧ Reps K mg (Fz μ st hid H) μ ws vs := by
  have go : ∀ {F : Hp} {a : Addr} {ks us : List W} {vs : List V}, (∀ o, F a = some o → H a = some o) → DctAt F a ks vs → (match kindW ks with
      | some (_, .inr kk) => some (kk, us)
      | _ => none) = some (kk, ws) → us = ws ∧ kk.length = vs.length ∧ Rd H a (.dT (kk.zip vs)) := fun {F a ks us vs} l d e => by
    obtain ⟨b, q, h1, h2, h3, _⟩ := d
    rw [h1] at e
    cases q with
    | inl q => cases e
    | inr q =>
      cases e
      refine ⟨rfl, h2, ?_⟩
      rcases h3 with h3 | ⟨o, h3⟩
      · exact .inl (l _ h3)
      · exact .inr ⟨o, l _ h3⟩
  cases x with
  | cell n =>
    unfold dctT at h
    simp only at h
    split at h
    · rename_i ks us e
      obtain ⟨a, rfl, e2, vs, h1, h2⟩ := k.cell e r
      obtain ⟨rfl, g1, g2⟩ := go (fun _ z => z) h1.rd h
      exact ⟨a, vs, rfl, g1, g2, h2⟩
    · cases h
  | dct ks us =>
    unfold Rep at r
    obtain ⟨a, vs, rfl, h1, h2⟩ := r
    obtain ⟨rfl, g1, g2⟩ := go (us := us) (fun _ z => (Fz.sub z).1) h1 h
    exact ⟨a, vs, rfl, g1, g2, h2⟩
  | _ => cases h
/-- a key's tuple is neither hidden nor living -/
theorem tup_fz {hid : List Addr} {st : Sto} {H : Hp} {b : Addr} {vs : List V} (k : StOk K mg μ st hid H) (h : H b = some (.tup vs)) : Fz μ st hid H b = some (.tup vs) := by
  refine Fz.mk h fun z => ?_
  rcases z with z | ⟨n, c, h1, h2, h3⟩
  · exact (k.hidt b z).2 vs h
  · have q := k.ok n b c h1 h2
    cases c with
    | lst ws => obtain ⟨us, e, _⟩ := q; rw [h] at e; cases e
    | ins c ns ws => obtain ⟨C, dx, us, _, _, e, _⟩ := q; rw [h] at e; cases e
    | frz w => cases h3
    | dct ks ws =>
      obtain ⟨us, ⟨l, q, _, _, e⟩, _⟩ := q
      cases l with
      | false =>
        have e : H b = some (dObj q us) := e
        rw [h] at e
        cases q <;> cases e
      | true =>
        obtain ⟨o, e⟩ := e
        rw [h] at e; cases e
end
/-! ## reading -/
def oTGet : Op2 := fun x y st => match dctT st x, keyT y with
  | some (kk, ws), some k => (match valT (kk.zip ws) k with
    | some w => .ok w st
    | none => .bad)
  | _, _ => .bad
def oTIn (f : Bool → Bool) : Op2 := fun y x st => match dctT st x, keyT y with
  | some (kk, ws), some k => .ok (.bl (f (valT (kk.zip ws) k).isSome)) st
  | _, _ => .bad
/-- d.get(k, x) -/
def eTGet2 (f g h : Sem) : Sem := fun fr st => (f fr st).bind fun x st1 => if (dctT st1 x).isSome = true then (g fr st1).bind fun y st2 => (h fr st2).bind fun z st3 => (match dctT st3 x, keyT y with
  | some (kk, ws), some k => .ok ((valT (kk.zip ws) k).getD z) st3
  | _, _ => .bad) else .bad
section
variable {X : Cx} {Wx : Wish}
theorem tget_of {K : PySem.W.Frag} {mg : Str → Option Value} {μ hid : List Addr} {st : Sto} {H : Hp} {x y : W} {xv yv : V} {kk : List KeyL} {ws : List W} {j : KeyL} (k : StOk K mg μ st hid H) (hx : dctT st x = some (kk, ws)) (hy : keyT y = some j) (rx : Rep K mg (Fz μ st hid H) μ x xv) (ry : Rep K mg (Fz μ st hid H) μ y yv) :
    ∃ a, xv = .ref a ∧ ((∃ w v, valT (kk.zip ws) j = some w ∧ DGet H a yv (some v) ∧ Rep K mg (Fz μ st hid H) μ w v) ∨ (valT (kk.zip ws) j = none ∧ DGet H a yv none)) := by
  obtain ⟨a, vs, rfl, h1, h2, h3⟩ := dctT_at k hx rx
  obtain ⟨b, rfl, hb⟩ := keyT_rep hy ry
  have hb := (Fz.sub hb).1
  obtain ⟨v1, v2⟩ := val_atT (K := K) (mg := mg) (F := Fz μ st hid H) (μ := μ) j h1 h3
  refine ⟨a, rfl, ?_⟩
  cases e : valT (kk.zip ws) j with
  | some w =>
    obtain ⟨v, e2, r⟩ := v1 w e
    exact .inl ⟨w, v, rfl, .inr ⟨_, j, b, h2, rfl, hb, e2.symm⟩, r⟩
  | none => exact .inr ⟨rfl, .inr ⟨_, j, b, h2, rfl, hb, (v2 e).symm⟩⟩
theorem os_tget : Op2S X oTGet rDGet := by
  intro Wx hid μ st σ H Q x y xv yv k rx ry P
  unfold oTGet at P
  split at P
  · rename_i kk ws j hx hy
    obtain ⟨a, rfl, ⟨w, v, e1, e2, e3⟩ | ⟨e1, _⟩⟩ := tget_of k hx hy rx ry
    · rw [e1] at P
      exact ⟨a, v, rfl, e2, P μ H _ k .refl e3⟩
    · rw [e1] at P; exact P.elim
  · exact P.elim
theorem os_tin {f : Bool → Bool} : Op2S X (oTIn f) (rDIn f) := by
  intro Wx hid μ st σ H Q y x yv xv k ry rx P
  unfold oTIn at P
  split at P
  · rename_i kk ws j hx hy
    obtain ⟨a, rfl, ⟨w, v, e1, e2, e3⟩ | ⟨e1, e2⟩⟩ := tget_of k hx hy rx ry
    · rw [e1] at P
      exact ⟨a, _, rfl, e2, P μ H _ k .refl rep_bl⟩
    · rw [e1] at P
      exact ⟨a, _, rfl, e2, P μ H _ k .refl rep_bl⟩
  · exact P.elim
theorem ev_tget {k : Nat} {o i : Expr} {f g : Sem} {pos : Pos} (C : Ctx X Wx k) (ho : EV X Wx o f) (hi : EV X Wx i g) (hs : NoSl i := by intro _ _; rfl) : EV X Wx (.Subscript o i pos) (e2 oTGet f g) :=
  PEm (pe_dget (by have := C.room.un; omega) ho hi hs) (e2_read os_tget)
theorem tv_tin {k : Nat} {o i : Expr} {f g : Sem} {pos : Pos} (C : Ctx X Wx k) (hi : EV X Wx i g) (ho : EV X Wx o f) (hm : behindInMarks .In o = false := by rfl) : TV X Wx (.Compare i [.In] [o] pos) (bOf (e2 (oTIn fun b => b) g f)) :=
  PTm (pt_cmp (pc_din (by have := C.room.un; omega) hi ho) hm) (bOf_read (e2_read os_tin))
theorem tv_tnin {k : Nat} {o i : Expr} {f g : Sem} {pos : Pos} (C : Ctx X Wx k) (hi : EV X Wx i g) (ho : EV X Wx o f) (hm : behindInMarks .NotIn o = false := by rfl) : TV X Wx (.Compare i [.NotIn] [o] pos) (bOf (e2 (oTIn not) g f)) :=
  PTm (pt_cmp (pc_dnotin (by have := C.room.un; omega) hi ho) hm) (bOf_read (e2_read os_tin))
theorem dctT_isD {K : PySem.W.Frag} {mg : Str → Option Value} {μ hid : List Addr} {st : Sto} {H : Hp} {x : W} {v : V} (k : StOk K mg μ st hid H) (h : (dctT st x).isSome = true) (r : Rep K mg (Fz μ st hid H) μ x v) : ∃ a, v = .ref a ∧ IsD H a := by
  cases e : dctT st x with
  | none => rw [e] at h; cases h
  | some p =>
    obtain ⟨a, vs, rfl, _, h2, _⟩ := dctT_at (kk := p.1) (ws := p.2) k e r
    exact ⟨a, rfl, .inr ⟨_, h2⟩⟩
theorem ev_tget2 {k : Nat} {o e d : Expr} {f g h : Sem} {apos cpos : Pos} (C : Ctx X Wx k) (ho : EV X Wx o f) (he : EV X Wx e g) (hd : EV X Wx d h) (m : M2 X o "get" apos e d cpos := by exact ⟨rfl, rfl, rfl, rfl⟩) : EV X Wx (.Call (.Attribute o "get" apos) [e, d] [] cpos) (eTGet2 f g h) :=
  PEm (pe_dget2 (by have := C.room.un; omega) ho he hd m) fun σ H Q ⟨μ, st, hid, fr, S, P⟩ => by
    refine ⟨μ, st, hid, fr, S, ?_⟩
    unfold eTGet2 at P
    cases h1 : f fr st with
    | bad => rw [h1] at P; exact P
    | err x s => rw [h1] at P; exact P
    | ok x st1 =>
      rw [h1, Out.bind_ok] at P
      intro μ1 H1 xv k1 g1 r1
      have P1 := EPost.from g1 P
      split at P1
      · rename_i hx
        obtain ⟨a, rfl, hd⟩ := dctT_isD k1 hx r1
        refine ⟨a, rfl, hd, μ1, st1, hid, fr, S.next k1 g1, ?_⟩
        cases h2 : g fr st1 with
        | bad => rw [h2] at P1; exact P1
        | err x s => rw [h2] at P1; exact P1
        | ok y st2 =>
          rw [h2, Out.bind_ok] at P1
          intro μ2 H2 yv k2 g2 r2
          have P2 := EPost.from g2 P1
          refine ⟨μ2, st2, hid, fr, (S.next k1 g1).next k2 g2, ?_⟩
          cases h3 : h fr st2 with
          | bad => rw [h3] at P2; exact P2
          | err x s => rw [h3] at P2; exact P2
          | ok z st3 =>
            rw [h3, Out.bind_ok] at P2
            intro μ3 H3 zv k3 g3 r3
            have P3 := EPost.from g3 P2
            split at P3
            · rename_i kk ws j hx3 hy
              obtain ⟨a', e1, ⟨w, v, e2, e3, e4⟩ | ⟨e2, e3⟩⟩ := tget_of k3 hx3 hy (Rep.mono (g2.trans g3).le (g2.trans g3).pre _ _ r1) (Rep.mono g3.le g3.pre _ _ r2)
              · cases e1
                rw [e2] at P3
                exact ⟨some v, e3, P3 μ3 H3 _ k3 .refl e4⟩
              · cases e1
                rw [e2] at P3
                exact ⟨none, e3, P3 μ3 H3 _ k3 .refl r3⟩
            · exact P3.elim
      · exact P1.elim
/-! ## making, writing -/
def eTDct0 : Sem := fun _ st => .ok (.cell st.length) (st ++ [.dct [.ty "T"] []])
theorem ev_tdct0 {pos : Pos} : EV X Wx (.Dict [] [] pos) eTDct0 := PEm pe_dnewT fun σ H Q ⟨μ, st, hid, fr, S, P⟩ => by
  intro p hp
  obtain ⟨k2, g2⟩ := S.sto.newCell (c := .dct [.ty "T"] []) (o := .dT []) hp rfl ⟨[], ⟨false, .inr [], rfl, rfl, upd_same⟩, .nil⟩
  refine P _ _ _ k2 g2 ?_
  unfold Rep
  exact ⟨p, by rw [← S.sto.len]; simp, rfl⟩
def uDctT : Op3 := fun o y w st => match o with
  | .cell n => (match st[n]? with
    | some (.dct (.ty t :: ks) ws) => if t = "T" then (match mapO keyT ks, keyT y with
      | some kk, some j => if ks.length < LINE then (if (kk.any fun i => decide (i = j)) = true then some (st.set n (.dct (.ty "T" :: ks) (putT kk ws j w))) else some (st.set n (.dct (.ty "T" :: (ks ++ [y])) (ws ++ [w])))) else none
      | _, _ => none) else none
    | _ => none)
  | _ => none
theorem os_setT : Op3S X uDctT rSetD := by
  intro hid μ st st' H Q o y w ov yv v k ro ry rw_ e q
  unfold uDctT at e
  split at e
  · rename_i n
    split at e
    · rename_i t ks ws e1
      split at e
      · rename_i ht
        subst ht
        split at e
        · rename_i kk j hk hy
          obtain ⟨a, rfl, h1, vs, ⟨l, q', g1, g2, g3⟩, h3⟩ := k.cell e1 ro
          rw [kind_T1 hk] at g1
          cases g1
          have g3' : H a = some (.dT (kk.zip vs)) := g3
          have g2' : kk.length = vs.length := g2
          obtain ⟨b, rfl, hb⟩ := keyT_rep hy ry
          have hb := (Fz.sub hb).1
          split at e
          · rename_i hl
            have hz : (kk.zip vs).length < sizeLine := by
              have := mapO_len hk
              rw [List.length_zip]
              unfold LINE at hl
              rw [sizeLine_eq]; omega
            refine ⟨a, _, rfl, .inr ⟨kk.zip vs, j, b, g3', rfl, hb, hz, rfl⟩, ?_⟩
            unfold putK
            rw [any_zipT j kk vs g2']
            split at e
            · rename_i hany
              cases e
              rw [if_pos hany, zip_putT j v kk vs g2']
              have hl2 : kk.length = (putT kk vs j v).length := by rw [putT_len g2']
              obtain ⟨k2, g4⟩ := k.setCell (c' := .dct (.ty "T" :: ks) (putT kk ws j w)) (o := .dT (kk.zip (putT kk vs j v))) h1 e1 rfl rfl ⟨_, ⟨false, .inr kk, kind_T1 hk, hl2, upd_same⟩, reps_putT rw_ g2' h3⟩ rfl
              exact q _ _ k2 g4
            · rename_i hany
              cases e
              rw [if_neg hany]
              have ez : kk.zip vs ++ [(j, v)] = (kk ++ [j]).zip (vs ++ [v]) := by rw [List.zip_append g2']; rfl
              rw [ez]
              have hk2 := mapO_snoc hk hy
              obtain ⟨k2, g4⟩ := k.setCell (c' := .dct (.ty "T" :: (ks ++ [y])) (ws ++ [w])) (o := .dT ((kk ++ [j]).zip (vs ++ [v]))) h1 e1 rfl rfl ⟨_, ⟨false, .inr (kk ++ [j]), kind_T1 hk2, by show (kk ++ [j]).length = (vs ++ [v]).length; simp [g2'], upd_same⟩, h3.append (.cons rw_ .nil)⟩ rfl
              exact q _ _ k2 g4
          · cases e
        · cases e
      · cases e
    · cases e
  · cases e
theorem sv_subT {k : Nat} {o i e : Expr} {f fo fi : Sem} {pos tpos : Pos} (C : Ctx X Wx k) (he : EV X Wx e f) (ho : EV X Wx o fo) (hi : EV X Wx i fi)
    (ha : ∀ v, assign (.Subscript o i tpos) X.env v = (do
      let ov ← holding [v] (eval o X.env)
      let iv ← holding [v, ov] (eval i X.env)
      standAt tpos
      holding [v, ov, iv] (setItem ov iv v)
      release [v, ov, iv] []) := by intro _; rfl)
    (hs1 : swapsWithSole [.Subscript o i tpos] e pos.line X.env = pure false := by rfl) (hw : swappedStores [.Subscript o i tpos] e X.env = pure none := by rfl) (h1 : (assignEach [.Subscript o i tpos] X.env).map (·.2) = [assign (.Subscript o i tpos) X.env] := by rfl) :
    SV X Wx (.Assign [.Subscript o i tpos] e pos) (sSub uDctT f fo fi) := sv_sub (set_dict (by have := C.room.un; omega)) os_setT he ho hi ha hs1 hw h1
end
end SL

namespace SL
open PySem PySem.Spec PyProof.Rows L2
/-! # a dict walked: locked meanwhile -/
/-- the cell n's dict is let go -/
def unlkT (n : Nat) (st : Sto) : Option Sto := match st[n]? with
  | some (.dct (.ty t :: ks) ws) => if t = "TL" then (match mapO keyT ks with
    | some _ => some (st.set n (.dct (.ty "T" :: ks) ws))
    | none => none) else none
  | _ => none
def unlTS (n : Nat) : SOut → SOut
  | .nx fr st => (match unlkT n st with
    | some st2 => .nx fr st2
    | none => .bad)
  | .bk fr st => (match unlkT n st with
    | some st2 => .bk fr st2
    | none => .bad)
  | .ct fr st => (match unlkT n st with
    | some st2 => .ct fr st2
    | none => .bad)
  | .rt w st => (match unlkT n st with
    | some st2 => .rt w st2
    | none => .bad)
  | _ => .bad
def unlTE (n : Nat) : Out W → Out W
  | .ok w st => (match unlkT n st with
    | some st2 => .ok w st2
    | none => .bad)
  | _ => .bad
/-- while s runs the dict in slot i is locked; one that is locked already stays so -/
def sLockT (i : Nat) (s : SSem) : SSem := fun fr st => match fr[i]? with
  | some (some (.cell n)) => (match st[n]? with
    | some (.dct (.ty t :: ks) ws) => if t = "T" then (match mapO keyT ks with
      | some _ => unlTS n (s fr (st.set n (.dct (.ty "TL" :: ks) ws)))
      | none => .bad) else s fr st
    | _ => .bad)
  | _ => .bad
def eLockT (i : Nat) (e : Sem) : Sem := fun fr st => match fr[i]? with
  | some (some (.cell n)) => (match st[n]? with
    | some (.dct (.ty t :: ks) ws) => if t = "T" then (match mapO keyT ks with
      | some _ => unlTE n (e fr (st.set n (.dct (.ty "TL" :: ks) ws)))
      | none => .bad) else e fr st
    | _ => .bad)
  | _ => .bad
/-- the keys of the locked dict in slot i -/
def iKeysT (i : Nat) : SemI := fun fr st => match fr[i]? with
  | some (some (.cell n)) => (match st[n]? with
    | some (.dct (.ty t :: ks) _) => if t = "TL" then (match mapO keyT ks with
      | some _ => if ks.length ≤ LINE then .ok (.non, ks) st else .bad
      | none => .bad) else .bad
    | _ => .bad)
  | _ => .bad
section
variable {K : PySem.W.Frag} {mg : Str → Option Value} {Wx : Wish} {μ hid : List Addr} {st : Sto} {fr : Fr} {σ : L2.St} {H : Hp}
/-- the state as it is locked -/
theorem SI.lockT (S : SI K mg Wx μ st hid fr σ H) {i n : Nat} {ks ws : List W} {kk : List KeyL} (hf : fr[i]? = some (some (.cell n))) (hn : st[n]? = some (.dct (.ty "T" :: ks) ws)) (hk : mapO keyT ks = some kk) :
    ∃ (d : Addr) (vs : List V), μ[n]? = some d ∧ d ∉ hid ∧ kk.length = vs.length ∧ H d = some (.dT (kk.zip vs)) ∧ ∀ od, SI K mg Wx μ (st.set n (.dct (.ty "TL" :: ks) ws)) hid fr σ (upd H d (.frz od (.dT (kk.zip vs)))) ∧ Fz μ (st.set n (.dct (.ty "TL" :: ks) ws)) hid (upd H d (.frz od (.dT (kk.zip vs)))) = Fz μ st hid H := by
  obtain ⟨v, hv, r⟩ := S.loc i _ hf
  obtain ⟨d, rfl, h1, vs, ⟨l, q, g1, g2, g3⟩, h3⟩ := S.sto.cell hn r
  rw [kind_T1 hk] at g1
  cases g1
  have g3' : H d = some (.dT (kk.zip vs)) := g3
  have g2' : kk.length = vs.length := g2
  refine ⟨d, vs, h1, S.sto.hidn n d _ h1 hn rfl, g2', g3', fun od => ?_⟩
  have kl := kind_TL hk
  obtain ⟨k2, e, _⟩ := S.sto.setCell0 (c' := .dct (.ty "TL" :: ks) ws) (o := .frz od (.dT (kk.zip vs))) h1 hn rfl rfl ⟨vs, ⟨true, .inr kk, kl, g2', od, upd_same⟩, h3⟩
  exact ⟨⟨k2, S.len, fun j w h => by rw [e]; exact S.loc j w h, by rw [e]; exact S.ex⟩, e⟩
/-- .. and let go -/
theorem unlkT_at {n : Nat} {st2 : Sto} {d : Addr} {od : Obj} {u : HO} (k : StOk K mg μ st hid H) (h : unlkT n st = some st2) (hd : μ[n]? = some d) (hH : H d = some (.frz od u)) :
    StOk K mg μ st2 hid (upd H d u) ∧ Fz μ st2 hid (upd H d u) = Fz μ st hid H := by
  unfold unlkT at h
  split at h
  · rename_i t ks ws hn
    split at h
    · rename_i ht
      subst ht
      split at h
      · rename_i kk hk
        cases h
        obtain ⟨vs, ⟨l, q, g1, g2, g3⟩, h3⟩ := k.ok n d _ hd hn
        have kl := kind_TL hk
        rw [kl] at g1
        cases g1
        obtain ⟨o, g3⟩ := g3
        have g3' : H d = some (.frz o (.dT (kk.zip vs))) := g3
        rw [hH] at g3'
        cases g3'
        obtain ⟨k2, e, _⟩ := k.setCell0 (c' := .dct (.ty "T" :: ks) ws) (o := .dT (kk.zip vs)) hd hn rfl rfl ⟨vs, ⟨false, .inr kk, kind_T1 hk, g2, upd_same⟩, h3⟩
        exact ⟨k2, e⟩
      · cases h
    · cases h
  · cases h
theorem SI.freeT {μ2 : List Addr} {st2 st3 : Sto} {fr2 : Fr} {σ2 : L2.St} {H2 : Hp} {n : Nat} {d : Addr} {od : Obj} {u : HO} (S2 : SI K mg Wx μ2 st2 hid fr2 σ2 H2) (h : unlkT n st2 = some st3) (hd : μ2[n]? = some d) (hH : H2 d = some (.frz od u)) : SI K mg Wx μ2 st3 hid fr2 σ2 (upd H2 d u) := by
  obtain ⟨k3, e⟩ := unlkT_at S2.sto h hd hH
  exact ⟨k3, S2.len, fun j w h => by rw [e]; exact S2.loc j w h, by rw [e]; exact S2.ex⟩
end
section
variable {X : Cx} {Wx : Wish}
theorem sv_lockT {i : Nat} {st : Stmt} {s : SSem} (h : SV X Wx st s) : SV X Wx st (sLockT i s) := PSm (PSor (ps_lock h) h) fun D σ H ⟨μ, st, hid, fr, S, P⟩ => by
  unfold sLockT at P
  split at P
  · rename_i n hf
    split at P
    · rename_i t ks ws hn
      split at P
      rotate_left
      · exact .inr ⟨μ, st, hid, fr, S, P⟩
      rename_i ht
      subst ht
      split at P
      · rename_i kk hk
        obtain ⟨d, vs, h1, h2, h3, h4, h5⟩ := S.lockT hf hn hk
        refine .inl ⟨d, _, h4, trivial, fun od => ?_⟩
        obtain ⟨S1, e1⟩ := h5 od
        refine ⟨μ, _, hid, fr, S1, ?_⟩
        have at2 : ∀ {μ2 : List Addr} {st2 : Sto} {H2 : Hp}, Grow hid μ (st.set n (.dct (.ty "TL" :: ks) ws)) (upd H d (.frz od (.dT (kk.zip vs)))) μ2 st2 H2 → μ2[n]? = some d ∧ H2 d = some (.frz od (.dT (kk.zip vs))) := fun g => ⟨g.pre.get h1, g.lck _ _ _ upd_same⟩
        cases e : s fr (st.set n (.dct (.ty "TL" :: ks) ws)) with
        | bad => rw [e] at P; exact P
        | er x f s => rw [e] at P; exact False.elim P
        | nx f2 st2 =>
          rw [e] at P
          intro μ2 σ2 H2 S2 g
          obtain ⟨a1, a2⟩ := at2 g
          refine ⟨a2, ?_⟩
          cases eu : unlkT n st2 with
          | none => simp only [unlTS, eu] at P; exact False.elim P
          | some st3 =>
            simp only [unlTS, eu] at P
            exact P μ2 σ2 _ (S2.freeT eu a1 a2) (grow_lock (n := n) e1 h2 h4 (fun o z q => nomatch q) rfl g (unlkT_at S2.sto eu a1 a2).2)
        | bk f2 st2 =>
          rw [e] at P
          intro μ2 σ2 H2 S2 g
          obtain ⟨a1, a2⟩ := at2 g
          refine ⟨a2, ?_⟩
          cases eu : unlkT n st2 with
          | none => simp only [unlTS, eu] at P; exact False.elim P
          | some st3 =>
            simp only [unlTS, eu] at P
            exact P μ2 σ2 _ (S2.freeT eu a1 a2) (grow_lock (n := n) e1 h2 h4 (fun o z q => nomatch q) rfl g (unlkT_at S2.sto eu a1 a2).2)
        | ct f2 st2 =>
          rw [e] at P
          intro μ2 σ2 H2 S2 g
          obtain ⟨a1, a2⟩ := at2 g
          refine ⟨a2, ?_⟩
          cases eu : unlkT n st2 with
          | none => simp only [unlTS, eu] at P; exact False.elim P
          | some st3 =>
            simp only [unlTS, eu] at P
            exact P μ2 σ2 _ (S2.freeT eu a1 a2) (grow_lock (n := n) e1 h2 h4 (fun o z q => nomatch q) rfl g (unlkT_at S2.sto eu a1 a2).2)
        | rt w st2 =>
          rw [e] at P
          intro μ2 H2 v k2 g r2
          obtain ⟨a1, a2⟩ := at2 g
          refine ⟨a2, ?_⟩
          cases eu : unlkT n st2 with
          | none => simp only [unlTS, eu] at P; exact False.elim P
          | some st3 =>
            simp only [unlTS, eu] at P
            obtain ⟨k3, e3⟩ := unlkT_at k2 eu a1 a2
            exact P μ2 _ v k3 (grow_lock (n := n) e1 h2 h4 (fun o z q => nomatch q) rfl g e3) (by rw [e3]; exact r2)
      · exact P.elim
    · exact P.elim
  · exact P.elim
theorem ev_lockT {i : Nat} {e : Expr} {f : Sem} (h : EV X Wx e f) : EV X Wx e (eLockT i f) := PEm (PEor (pe_lock h) h) fun σ H Q ⟨μ, st, hid, fr, S, P⟩ => by
  unfold eLockT at P
  split at P
  · rename_i n hf
    split at P
    · rename_i t ks ws hn
      split at P
      rotate_left
      · exact .inr ⟨μ, st, hid, fr, S, P⟩
      rename_i ht
      subst ht
      split at P
      · rename_i kk hk
        obtain ⟨d, vs, h1, h2, h3, h4, h5⟩ := S.lockT hf hn hk
        refine .inl ⟨d, _, h4, trivial, fun od => ?_⟩
        obtain ⟨S1, e1⟩ := h5 od
        refine ⟨μ, _, hid, fr, S1, ?_⟩
        cases e : f fr (st.set n (.dct (.ty "TL" :: ks) ws)) with
        | bad => rw [e] at P; exact P
        | err x s => rw [e] at P; exact P.elim
        | ok w st2 =>
          rw [e] at P
          intro μ2 H2 v k2 g r2
          have a1 := g.pre.get h1
          have a2 := g.lck _ _ _ (upd_same (H := H) (a := d) (o := .frz od (.dT (kk.zip vs))))
          refine ⟨a2, ?_⟩
          cases eu : unlkT n st2 with
          | none => simp only [unlTE, eu] at P; exact False.elim P
          | some st3 =>
            simp only [unlTE, eu] at P
            obtain ⟨k3, e3⟩ := unlkT_at k2 eu a1 a2
            exact P μ2 _ v k3 (grow_lock (n := n) e1 h2 h4 (fun o z q => nomatch q) rfl g e3) (by rw [e3]; exact r2)
      · exact P.elim
    · exact P.elim
  · exact P.elim
theorem iv_keysT {i : Nat} {x : Str} {tg : Expr} {pos : Pos} (he : EV X Wx (.Name x pos) (eVar i)) : IV X Wx tg (.Name x pos) (iKeysT i) := PIm (pi_keys he) fun σ H R ⟨μ, st, hid, fr, S, P⟩ => by
  unfold iKeysT at P
  split at P
  · rename_i n hf
    split at P
    · rename_i t ks ws hn
      split at P
      · rename_i ht
        subst ht
        split at P
        · rename_i kk hk
          split at P
          · rename_i hl
            refine ⟨μ, st, hid, fr, S, ?_⟩
            have ev : eVar i fr st = .ok (.cell n) st := by unfold eVar; rw [hf]
            rw [ev]
            intro μ1 H1 v k1 g1 r1
            obtain ⟨d, rfl, h1, vs, ⟨l, q, c1, c2, c3⟩, h3⟩ := k1.cell hn r1
            have kl := kind_TL hk
            rw [kl] at c1
            cases c1
            obtain ⟨o, c3⟩ := c3
            have c3' : H1 d = some (.frz o (.dT (kk.zip vs))) := c3
            have c2' : kk.length = vs.length := c2
            have hkl := mapO_len hk
            have hz : (kk.zip vs).length = ks.length := by rw [List.length_zip]; omega
            refine ⟨d, o, rfl, .inr ⟨_, c3', P μ1 H1 _ k1 g1 ?_⟩⟩
            exact {
              len := le_line hl
              go := fun hid μ st H j k l p q s hj => ⟨q _ _ _ c3', by rw [hz]; exact hj⟩
              yld := fun hid μ st H j v H' k l p q s hj y => by
                obtain ⟨rfl, key, u, b, e1, rfl, hb⟩ := y
                refine ⟨k, .refl, ks[j], List.getElem?_eq_getElem hj, ?_⟩
                have e2 : kk[j]? = some key := by
                  rw [List.getElem?_zip_eq_some] at e1
                  exact e1.1
                exact rep_keyT (mapO_get hk (List.getElem?_eq_getElem hj) e2) (tup_fz k hb)
              stop := fun hid μ st H j k l p q s hj => ⟨q _ _ _ c3', by rw [hz]; exact hj⟩ }
          · exact P.elim
        · exact P.elim
      · exact P.elim
    · exact P.elim
  · exact P.elim
end
end SL

/-! # {t: e}, t a tuple -/
namespace SLd
open PySem PySem.Spec PyProof.Rows L2
section
variable {prog : Program} {w : World} {A : Around} {E : Value → Shared → Prop} {s : Shared} {env : Env}
theorem wpAny_subDict1 {k v : Sem Value} {Q : Addr → Shared → Prop} (hu : (tupleKind (mixKind prog w)).room A)
    (h : wpAny (model prog w) A k (fun kv s₁ => wpAny (model prog w) A v (fun vv s₂ => ∃ (a : Addr) (kk : List Key), kv = .ref a ∧ (tupleKind (mixKind prog w)).is s₂.heap kk a ∧ s₂.heap.DictOfH (tupleKind (mixKind prog w)) s.heap.objs.size [] ∧
      ∀ h', h'.DictOfH (tupleKind (mixKind prog w)) s.heap.objs.size (storedH [] kk a vv) → Heap.SameBut s.heap.objs.size s₂.heap h' → Q s.heap.objs.size { s₂ with heap := h', toks := s₂.toks + (tupleKind (mixKind prog w)).draws kk }) E s₁) E
      { s with heap := s.heap.push { cls := .type "dict", data := .dict #[] } }) :
    wpAny (model prog w) A (subDict [(k, v)]) Q E s := by
  unfold subDict
  refine wpAny_bind (wpAny_alloc ?_)
  refine wpAny_bind (wpAny_holding ?_)
  rw [if_pos (show [(k, v)].length ≤ 15 from by show 1 ≤ 15; decide)]
  refine wpAny_bind (evalPairs_cons (wpAny_mono h (fun kv s₁ h₁ => wpAny_mono h₁ (fun vv s₂ h₂ => evalPairs_nil ?_) fun _ _ e => e) fun _ _ e => e))
  obtain ⟨a, kk, rfl, hk, hd, hq⟩ := h₂
  refine wpAny_holding ?_
  refine wpAny_bind ?_
  rw [List.forIn_cons]
  refine wpAny_bind (wpAny_bind (wpAny_dictSet_heap hu hk hd (fun h' dd' hs => wpAny_pure ?_)))
  show wpAny (model prog w) A (forIn ([] : List (Value × Value)) PUnit.unit _) _ _ _
  rw [List.forIn_nil]
  exact wpAny_pure (wpAny_pure (wpAny_pure (hq h' dd' hs)))
end
end SLd
namespace SL
open PySem PySem.Spec PyProof.Rows L2
def tDisp1T (tk tv : TE) : TE := fun σ H Q => ∀ p, H p = none → tk σ (upd H p (.dT [])) fun x H1 => tv σ H1 fun y H2 => H2 p = some (.dT []) ∧ ∃ (k : List Key) (b : Addr), x = .ref b ∧ H2 b = some (.tup (k.map kV)) ∧ Q (.ref p) (upd H2 p (.dT [(k, y)]))
section
variable {X : Cx} {Wx : Wish}
theorem pe_disp1T {ke ve : Expr} {tk tv : TE} {pos : Pos} (hu : X.A.units + 1 < cLine) (hk : PE X ke tk) (hv : PE X ve tv) : PE X (.Dict [some ke] [ve] pos) (tDisp1T tk tv) := by
  refine ⟨fun pins s σ H Q I q => ?_⟩
  have hn := I.hok.fresh (Nat.le_refl s.heap.objs.size)
  have I1 := I.laid (a := s.heap.objs.size) (o := .dT []) (h' := s.heap.push { cls := .type "dict", data := .dict #[] }) (t' := s.toks) (fun _ _ q => Heap.get?_push_of_some _ q) (Nat.le_refl _) (dt_empty s.heap I.big)
  rw [arm_eval_Dict, zip_pairTrees [some ke] [ve] X.env pos rfl rfl, dictDisplay_pairs (pairTrees [some ke] [ve] X.env pos) (fun z => by cases z) (by show 1 < 17; decide)]
  refine wpAny_bind (wpAny_standAt (wpAny_bind (SLd.wpAny_subDict1 (show X.A.units < cLine by omega) ?_)))
  refine thn (hk.run pins _ σ _ _ I1 (q _ hn)) fun kv s1 ⟨x, H1, I2, rx, q1⟩ => ?_
  refine wpAny_bind (thn (hv.run pins _ σ _ _ I2 q1) fun vv s2 ⟨y, H2, I3, ry, q2⟩ => wpAny_bind (wpAny_standAt (wpAny_pure ?_)))
  obtain ⟨e, k, b, rfl, eb, q2⟩ := q2
  cases (show kv = Value.ref b from rx)
  obtain ⟨z, hd, xs, rel, dd⟩ := dt_of I3.hok e
  cases rel
  refine ⟨b, k, rfl, key_of I3.hok eb, dd, fun h' dd' hs => wpAny_pure ⟨.ref s.heap.objs.size, _, ?_, rfl, q2⟩⟩
  obtain ⟨o, es, ep, hq, h2, h3, h4, _, h5⟩ := dd'
  have kt : KT H2 (putK [] k y) (storedH [] k b vv) := KT.put (kvs := []) (xs := []) .nil k eb ry
  refine d_write I3 (by rw [e]; exact True.intro) hs ⟨o, hq⟩ ⟨by show 1 ≤ sizeLine; rw [sizeLine_eq]; decide, hd, _, kt.keeps fun c ys ec => ?_, o, es, ep, hq, h2, h3, h4, h5⟩
  rw [upd_ne (ne_of ec e (fun z => nomatch z))]
  exact ec
/-- {t: e}, to live -/
def eTDct1 (f g : Sem) : Sem := fun fr st => (f fr (st ++ [.dct [.ty "T"] []])).bind fun w st1 => (g fr st1).bind fun u st2 => match keyT w, st2[st.length]? with
  | some _, some (.dct [.ty t] []) => if t = "T" then .ok (.cell st.length) (st2.set st.length (.dct [.ty "T", w] [u])) else .bad
  | _, _ => .bad
theorem ev_tdct1 {k : Nat} {ke ve : Expr} {f g : Sem} {pos : Pos} (C : Ctx X Wx k) (hk : EV X Wx ke f) (hv : EV X Wx ve g) : EV X Wx (.Dict [some ke] [ve] pos) (eTDct1 f g) :=
  PEm (pe_disp1T (by have := C.room.un; omega) hk hv) fun σ H Q ⟨μ, st, hid, fr, S, P⟩ => by
    intro p hp
    obtain ⟨k2, g2⟩ := S.sto.newCell (c := .dct [.ty "T"] []) (o := .dT []) hp rfl ⟨[], ⟨false, .inr [], rfl, rfl, upd_same⟩, .nil⟩
    have P0 := EPost.from g2 P
    have S2 := S.next k2 g2
    refine ⟨_, _, hid, fr, S2, ?_⟩
    unfold eTDct1 at P0
    have hl : (μ ++ [p])[st.length]? = some p := by rw [← S.sto.len]; simp
    cases h1 : f fr (st ++ [.dct [.ty "T"] []]) with
    | bad => rw [h1] at P0; exact P0
    | err z s => rw [h1] at P0; exact P0
    | ok w st1 =>
      rw [h1, Out.bind_ok] at P0
      intro μ1 H1 xv k3 g3 r3
      have P1 := EPost.from g3 P0
      refine ⟨μ1, st1, hid, fr, S2.next k3 g3, ?_⟩
      cases h2 : g fr st1 with
      | bad => rw [h2] at P1; exact P1
      | err z s => rw [h2] at P1; exact P1
      | ok u st2 =>
        rw [h2, Out.bind_ok] at P1
        intro μ2 H2 yv k4 g4 r4
        have P2 := EPost.from g4 P1
        split at P2
        · rename_i kk t hy hc
          split at P2
          · rename_i ht
            subst ht
            have hl2 : μ2[st.length]? = some p := (g3.pre.trans g4.pre).get hl
            obtain ⟨vs, ⟨l, q, c1, c2, c3⟩, c4⟩ := k4.ok st.length p _ hl2 hc
            cases c1
            have hv0 : vs = [] := List.eq_nil_of_length_eq_zero c2.symm
            subst hv0
            have c3' : H2 p = some (.dT []) := c3
            obtain ⟨b, rfl, hb⟩ := keyT_rep hy (Rep.mono g4.le g4.pre _ _ r3)
            refine ⟨c3', kk, b, rfl, (Fz.sub hb).1, ?_⟩
            have hk1 : mapO keyT [w] = some [kk] := by
              unfold mapO
              rw [hy]; rfl
            obtain ⟨k5, g5⟩ := k4.setCell (c' := .dct [.ty "T", w] [u]) (o := .dT [(kk, yv)]) hl2 hc rfl rfl ⟨[yv], ⟨false, .inr [kk], kind_T1 hk1, rfl, upd_same⟩, .cons r4 .nil⟩ rfl
            refine P2 _ _ _ k5 g5 ?_
            unfold Rep
            exact ⟨p, hl2, rfl⟩
          · exact P2.elim
        · exact P2.elim
end
end SL

namespace SL
open PySem PySem.Spec PyProof.Rows L2 Srt SrtO
/-! # sorted of a list of one or none -/
def rSort1 (K : PySem.W.Frag) : List V → Hp → VK → Prop := fun vs H Q => ∃ (a : Addr) (xs : List V), vs = [V.ref a] ∧ SqL K H a xs ∧ xs.length ≤ 1 ∧ ∀ p, H p = none → Q (.ref p) (upd H p (.lst xs))
noncomputable def oSort1 : OpN := fun ws st => match ws with
  | [x] => match lstW st x with
    | some us => if us.length ≤ 1 then .ok (.lst us) st else oSortT ws st
    | none => oSortT ws st
  | _ => .bad
section
variable {X : Cx}
theorem cr_sort1 : CallR X (.builtin "sorted") (rSort1 X.K) := by
  intro pins s σ H vs us Q J r hq
  obtain ⟨a, xs, rfl, hs, h1, q⟩ := hq
  obtain ⟨its, rr, pl, hz⟩ := J.list hs
  rw [Vals.ref1 r]
  have hi : its.length ≤ 1 := by rw [← rr.length]; exact h1
  refine sorted_ord SrtO.swo_int pl.isList (by rw [← rr.length]; exact hz) (fun h2 => absurd h2 (by omega)) fun out a1 a2 => ?_
  have eo : out = its := by
    have p := a2.perm
    cases its with
    | nil => exact p.eq_nil
    | cons x l =>
      have : l = [] := List.eq_nil_of_length_eq_zero (by rw [List.length_cons] at hi; omega)
      subst this
      exact List.perm_singleton.mp p
  subst eo
  obtain ⟨n, hn⟩ := sortedAll_at s.heap out out.toArray
  exact ⟨.ref _, upd H (s.heap.objs.size + 1) (.lst xs), J.laid (t' := s.toks) (fun _ _ => sortedAll_old) (Nat.le_succ _) ⟨hz, out, n, rr, hn⟩, rfl, q _ (J.hok.fresh (Nat.le_succ _))⟩
theorem cr_sort1X : CallR X (.builtin "sorted") (fun vs H Q => rSort1 X.K vs H Q ∨ rSortAny X.K vs H Q) := cr_sort1.or cr_sortAny
theorem os_sort1 : OpNS X oSort1 (fun vs H Q => rSort1 X.K vs H Q ∨ rSortAny X.K vs H Q) := by
  intro Wx hid μ st σ H Q ws vs k r P
  unfold oSort1 at P
  split at P
  · rename_i x
    split at P
    · rename_i us e
      split at P
      · rename_i hl
        obtain ⟨v, rfl, r1⟩ := reps1 (ws := []) r
        obtain ⟨a, xs, rfl, h1, h2⟩ := lstW_at k e r1
        exact .inl ⟨a, xs, rfl, h1, by rw [← h2.length]; exact hl, fun p hp => ok_new P k hp fun F l e => rep_lst e (h2.mono l (.refl _))⟩
      · exact .inr (os_sortT _ hid μ st σ H Q _ vs k r P)
    · exact .inr (os_sortT _ hid μ st σ H Q _ vs k r P)
  · exact P.elim
end
end SL

namespace SL
open PySem PySem.Spec PyProof.Rows L2
/-! # plain reckoning: what the meanings come to -/
/-! frames, place by place -/
section
variable {α : Type} {a0 a1 a2 a3 a4 a5 a6 a7 a8 a9 a10 a11 a12 a13 a14 a15 a16 a17 a18 a19 a20 a21 a22 a23 a24 a25 a26 a27 a28 a29 a30 a31 a32 b : α} {l : List α}
@[simp high] theorem fg0 : (a0 :: l)[0]? = some a0 := rfl
@[simp high] theorem fs0 : (a0 :: l).set 0 b = b :: l := rfl
@[simp high] theorem fg1 : (a0 :: a1 :: l)[1]? = some a1 := rfl
@[simp high] theorem fs1 : (a0 :: a1 :: l).set 1 b = a0 :: b :: l := rfl
@[simp high] theorem fg2 : (a0 :: a1 :: a2 :: l)[2]? = some a2 := rfl
@[simp high] theorem fs2 : (a0 :: a1 :: a2 :: l).set 2 b = a0 :: a1 :: b :: l := rfl
@[simp high] theorem fg3 : (a0 :: a1 :: a2 :: a3 :: l)[3]? = some a3 := rfl
@[simp high] theorem fs3 : (a0 :: a1 :: a2 :: a3 :: l).set 3 b = a0 :: a1 :: a2 :: b :: l := rfl
@[simp high] theorem fg4 : (a0 :: a1 :: a2 :: a3 :: a4 :: l)[4]? = some a4 := rfl
@[simp high] theorem fs4 : (a0 :: a1 :: a2 :: a3 :: a4 :: l).set 4 b = a0 :: a1 :: a2 :: a3 :: b :: l := rfl
@[simp high] theorem fg5 : (a0 :: a1 :: a2 :: a3 :: a4 :: a5 :: l)[5]? = some a5 := rfl
@[simp high] theorem fs5 : (a0 :: a1 :: a2 :: a3 :: a4 :: a5 :: l).set 5 b = a0 :: a1 :: a2 :: a3 :: a4 :: b :: l := rfl
@[simp high] theorem fg6 : (a0 :: a1 :: a2 :: a3 :: a4 :: a5 :: a6 :: l)[6]? = some a6 := rfl
@[simp high] theorem fs6 : (a0 :: a1 :: a2 :: a3 :: a4 :: a5 :: a6 :: l).set 6 b = a0 :: a1 :: a2 :: a3 :: a4 :: a5 :: b :: l := rfl
@[simp high] theorem fg7 : (a0 :: a1 :: a2 :: a3 :: a4 :: a5 :: a6 :: a7 :: l)[7]? = some a7 := rfl
@[simp high] theorem fs7 : (a0 :: a1 :: a2 :: a3 :: a4 :: a5 :: a6 :: a7 :: l).set 7 b = a0 :: a1 :: a2 :: a3 :: a4 :: a5 :: a6 :: b :: l := rfl
@[simp high] theorem fg8 : (a0 :: a1 :: a2 :: a3 :: a4 :: a5 :: a6 :: a7 :: a8 :: l)[8]? = some a8 := rfl
@[simp high] theorem fs8 : (a0 :: a1 :: a2 :: a3 :: a4 :: a5 :: a6 :: a7 :: a8 :: l).set 8 b = a0 :: a1 :: a2 :: a3 :: a4 :: a5 :: a6 :: a7 :: b :: l := rfl
@[simp high] theorem fg9 : (a0 :: a1 :: a2 :: a3 :: a4 :: a5 :: a6 :: a7 :: a8 :: a9 :: l)[9]? = some a9 := rfl
@[simp high] theorem fs9 : (a0 :: a1 :: a2 :: a3 :: a4 :: a5 :: a6 :: a7 :: a8 :: a9 :: l).set 9 b = a0 :: a1 :: a2 :: a3 :: a4 :: a5 :: a6 :: a7 :: a8 :: b :: l := rfl
@[simp high] theorem fg10 : (a0 :: a1 :: a2 :: a3 :: a4 :: a5 :: a6 :: a7 :: a8 :: a9 :: a10 :: l)[10]? = some a10 := rfl
@[simp high] theorem fs10 : (a0 :: a1 :: a2 :: a3 :: a4 :: a5 :: a6 :: a7 :: a8 :: a9 :: a10 :: l).set 10 b = a0 :: a1 :: a2 :: a3 :: a4 :: a5 :: a6 :: a7 :: a8 :: a9 :: b :: l := rfl
@[simp high] theorem fg11 : (a0 :: a1 :: a2 :: a3 :: a4 :: a5 :: a6 :: a7 :: a8 :: a9 :: a10 :: a11 :: l)[11]? = some a11 := rfl
@[simp high] theorem fs11 : (a0 :: a1 :: a2 :: a3 :: a4 :: a5 :: a6 :: a7 :: a8 :: a9 :: a10 :: a11 :: l).set 11 b = a0 :: a1 :: a2 :: a3 :: a4 :: a5 :: a6 :: a7 :: a8 :: a9 :: a10 :: b :: l := rfl
@[simp high] theorem fg12 : (a0 :: a1 :: a2 :: a3 :: a4 :: a5 :: a6 :: a7 :: a8 :: a9 :: a10 :: a11 :: a12 :: l)[12]? = some a12 := rfl
@[simp high] theorem fs12 : (a0 :: a1 :: a2 :: a3 :: a4 :: a5 :: a6 :: a7 :: a8 :: a9 :: a10 :: a11 :: a12 :: l).set 12 b = a0 :: a1 :: a2 :: a3 :: a4 :: a5 :: a6 :: a7 :: a8 :: a9 :: a10 :: a11 :: b :: l := rfl
@[simp high] theorem fg13 : (a0 :: a1 :: a2 :: a3 :: a4 :: a5 :: a6 :: a7 :: a8 :: a9 :: a10 :: a11 :: a12 :: a13 :: l)[13]? = some a13 := rfl
@[simp high] theorem fs13 : (a0 :: a1 :: a2 :: a3 :: a4 :: a5 :: a6 :: a7 :: a8 :: a9 :: a10 :: a11 :: a12 :: a13 :: l).set 13 b = a0 :: a1 :: a2 :: a3 :: a4 :: a5 :: a6 :: a7 :: a8 :: a9 :: a10 :: a11 :: a12 :: b :: l := rfl
@[simp high] theorem fg14 : (a0 :: a1 :: a2 :: a3 :: a4 :: a5 :: a6 :: a7 :: a8 :: a9 :: a10 :: a11 :: a12 :: a13 :: a14 :: l)[14]? = some a14 := rfl
@[simp high] theorem fs14 : (a0 :: a1 :: a2 :: a3 :: a4 :: a5 :: a6 :: a7 :: a8 :: a9 :: a10 :: a11 :: a12 :: a13 :: a14 :: l).set 14 b = a0 :: a1 :: a2 :: a3 :: a4 :: a5 :: a6 :: a7 :: a8 :: a9 :: a10 :: a11 :: a12 :: a13 :: b :: l := rfl
@[simp high] theorem fg15 : (a0 :: a1 :: a2 :: a3 :: a4 :: a5 :: a6 :: a7 :: a8 :: a9 :: a10 :: a11 :: a12 :: a13 :: a14 :: a15 :: l)[15]? = some a15 := rfl
@[simp high] theorem fs15 : (a0 :: a1 :: a2 :: a3 :: a4 :: a5 :: a6 :: a7 :: a8 :: a9 :: a10 :: a11 :: a12 :: a13 :: a14 :: a15 :: l).set 15 b = a0 :: a1 :: a2 :: a3 :: a4 :: a5 :: a6 :: a7 :: a8 :: a9 :: a10 :: a11 :: a12 :: a13 :: a14 :: b :: l := rfl
@[simp high] theorem fg16 : (a0 :: a1 :: a2 :: a3 :: a4 :: a5 :: a6 :: a7 :: a8 :: a9 :: a10 :: a11 :: a12 :: a13 :: a14 :: a15 :: a16 :: l)[16]? = some a16 := rfl
@[simp high] theorem fs16 : (a0 :: a1 :: a2 :: a3 :: a4 :: a5 :: a6 :: a7 :: a8 :: a9 :: a10 :: a11 :: a12 :: a13 :: a14 :: a15 :: a16 :: l).set 16 b = a0 :: a1 :: a2 :: a3 :: a4 :: a5 :: a6 :: a7 :: a8 :: a9 :: a10 :: a11 :: a12 :: a13 :: a14 :: a15 :: b :: l := rfl
@[simp high] theorem fg17 : (a0 :: a1 :: a2 :: a3 :: a4 :: a5 :: a6 :: a7 :: a8 :: a9 :: a10 :: a11 :: a12 :: a13 :: a14 :: a15 :: a16 :: a17 :: l)[17]? = some a17 := rfl
@[simp high] theorem fs17 : (a0 :: a1 :: a2 :: a3 :: a4 :: a5 :: a6 :: a7 :: a8 :: a9 :: a10 :: a11 :: a12 :: a13 :: a14 :: a15 :: a16 :: a17 :: l).set 17 b = a0 :: a1 :: a2 :: a3 :: a4 :: a5 :: a6 :: a7 :: a8 :: a9 :: a10 :: a11 :: a12 :: a13 :: a14 :: a15 :: a16 :: b :: l := rfl
@[simp high] theorem fg18 : (a0 :: a1 :: a2 :: a3 :: a4 :: a5 :: a6 :: a7 :: a8 :: a9 :: a10 :: a11 :: a12 :: a13 :: a14 :: a15 :: a16 :: a17 :: a18 :: l)[18]? = some a18 := rfl
@[simp high] theorem fs18 : (a0 :: a1 :: a2 :: a3 :: a4 :: a5 :: a6 :: a7 :: a8 :: a9 :: a10 :: a11 :: a12 :: a13 :: a14 :: a15 :: a16 :: a17 :: a18 :: l).set 18 b = a0 :: a1 :: a2 :: a3 :: a4 :: a5 :: a6 :: a7 :: a8 :: a9 :: a10 :: a11 :: a12 :: a13 :: a14 :: a15 :: a16 :: a17 :: b :: l := rfl
@[simp high] theorem fg19 : (a0 :: a1 :: a2 :: a3 :: a4 :: a5 :: a6 :: a7 :: a8 :: a9 :: a10 :: a11 :: a12 :: a13 :: a14 :: a15 :: a16 :: a17 :: a18 :: a19 :: l)[19]? = some a19 := rfl
@[simp high] theorem fs19 : (a0 :: a1 :: a2 :: a3 :: a4 :: a5 :: a6 :: a7 :: a8 :: a9 :: a10 :: a11 :: a12 :: a13 :: a14 :: a15 :: a16 :: a17 :: a18 :: a19 :: l).set 19 b = a0 :: a1 :: a2 :: a3 :: a4 :: a5 :: a6 :: a7 :: a8 :: a9 :: a10 :: a11 :: a12 :: a13 :: a14 :: a15 :: a16 :: a17 :: a18 :: b :: l := rfl
@[simp high] theorem fg20 : (a0 :: a1 :: a2 :: a3 :: a4 :: a5 :: a6 :: a7 :: a8 :: a9 :: a10 :: a11 :: a12 :: a13 :: a14 :: a15 :: a16 :: a17 :: a18 :: a19 :: a20 :: l)[20]? = some a20 := rfl
@[simp high] theorem fs20 : (a0 :: a1 :: a2 :: a3 :: a4 :: a5 :: a6 :: a7 :: a8 :: a9 :: a10 :: a11 :: a12 :: a13 :: a14 :: a15 :: a16 :: a17 :: a18 :: a19 :: a20 :: l).set 20 b = a0 :: a1 :: a2 :: a3 :: a4 :: a5 :: a6 :: a7 :: a8 :: a9 :: a10 :: a11 :: a12 :: a13 :: a14 :: a15 :: a16 :: a17 :: a18 :: a19 :: b :: l := rfl
@[simp high] theorem fg21 : (a0 :: a1 :: a2 :: a3 :: a4 :: a5 :: a6 :: a7 :: a8 :: a9 :: a10 :: a11 :: a12 :: a13 :: a14 :: a15 :: a16 :: a17 :: a18 :: a19 :: a20 :: a21 :: l)[21]? = some a21 := rfl
@[simp high] theorem fs21 : (a0 :: a1 :: a2 :: a3 :: a4 :: a5 :: a6 :: a7 :: a8 :: a9 :: a10 :: a11 :: a12 :: a13 :: a14 :: a15 :: a16 :: a17 :: a18 :: a19 :: a20 :: a21 :: l).set 21 b = a0 :: a1 :: a2 :: a3 :: a4 :: a5 :: a6 :: a7 :: a8 :: a9 :: a10 :: a11 :: a12 :: a13 :: a14 :: a15 :: a16 :: a17 :: a18 :: a19 :: a20 :: b :: l := rfl
@[simp high] theorem fg22 : (a0 :: a1 :: a2 :: a3 :: a4 :: a5 :: a6 :: a7 :: a8 :: a9 :: a10 :: a11 :: a12 :: a13 :: a14 :: a15 :: a16 :: a17 :: a18 :: a19 :: a20 :: a21 :: a22 :: l)[22]? = some a22 := rfl
@[simp high] theorem fs22 : (a0 :: a1 :: a2 :: a3 :: a4 :: a5 :: a6 :: a7 :: a8 :: a9 :: a10 :: a11 :: a12 :: a13 :: a14 :: a15 :: a16 :: a17 :: a18 :: a19 :: a20 :: a21 :: a22 :: l).set 22 b = a0 :: a1 :: a2 :: a3 :: a4 :: a5 :: a6 :: a7 :: a8 :: a9 :: a10 :: a11 :: a12 :: a13 :: a14 :: a15 :: a16 :: a17 :: a18 :: a19 :: a20 :: a21 :: b :: l := rfl
@[simp high] theorem fg23 : (a0 :: a1 :: a2 :: a3 :: a4 :: a5 :: a6 :: a7 :: a8 :: a9 :: a10 :: a11 :: a12 :: a13 :: a14 :: a15 :: a16 :: a17 :: a18 :: a19 :: a20 :: a21 :: a22 :: a23 :: l)[23]? = some a23 := rfl
@[simp high] theorem fs23 : (a0 :: a1 :: a2 :: a3 :: a4 :: a5 :: a6 :: a7 :: a8 :: a9 :: a10 :: a11 :: a12 :: a13 :: a14 :: a15 :: a16 :: a17 :: a18 :: a19 :: a20 :: a21 :: a22 :: a23 :: l).set 23 b = a0 :: a1 :: a2 :: a3 :: a4 :: a5 :: a6 :: a7 :: a8 :: a9 :: a10 :: a11 :: a12 :: a13 :: a14 :: a15 :: a16 :: a17 :: a18 :: a19 :: a20 :: a21 :: a22 :: b :: l := rfl
@[simp high] theorem fg24 : (a0 :: a1 :: a2 :: a3 :: a4 :: a5 :: a6 :: a7 :: a8 :: a9 :: a10 :: a11 :: a12 :: a13 :: a14 :: a15 :: a16 :: a17 :: a18 :: a19 :: a20 :: a21 :: a22 :: a23 :: a24 :: l)[24]? = some a24 := rfl
@[simp high] theorem fs24 : (a0 :: a1 :: a2 :: a3 :: a4 :: a5 :: a6 :: a7 :: a8 :: a9 :: a10 :: a11 :: a12 :: a13 :: a14 :: a15 :: a16 :: a17 :: a18 :: a19 :: a20 :: a21 :: a22 :: a23 :: a24 :: l).set 24 b = a0 :: a1 :: a2 :: a3 :: a4 :: a5 :: a6 :: a7 :: a8 :: a9 :: a10 :: a11 :: a12 :: a13 :: a14 :: a15 :: a16 :: a17 :: a18 :: a19 :: a20 :: a21 :: a22 :: a23 :: b :: l := rfl
@[simp high] theorem fg25 : (a0 :: a1 :: a2 :: a3 :: a4 :: a5 :: a6 :: a7 :: a8 :: a9 :: a10 :: a11 :: a12 :: a13 :: a14 :: a15 :: a16 :: a17 :: a18 :: a19 :: a20 :: a21 :: a22 :: a23 :: a24 :: a25 :: l)[25]? = some a25 := rfl
@[simp high] theorem fs25 : (a0 :: a1 :: a2 :: a3 :: a4 :: a5 :: a6 :: a7 :: a8 :: a9 :: a10 :: a11 :: a12 :: a13 :: a14 :: a15 :: a16 :: a17 :: a18 :: a19 :: a20 :: a21 :: a22 :: a23 :: a24 :: a25 :: l).set 25 b = a0 :: a1 :: a2 :: a3 :: a4 :: a5 :: a6 :: a7 :: a8 :: a9 :: a10 :: a11 :: a12 :: a13 :: a14 :: a15 :: a16 :: a17 :: a18 :: a19 :: a20 :: a21 :: a22 :: a23 :: a24 :: b :: l := rfl
@[simp high] theorem fg26 : (a0 :: a1 :: a2 :: a3 :: a4 :: a5 :: a6 :: a7 :: a8 :: a9 :: a10 :: a11 :: a12 :: a13 :: a14 :: a15 :: a16 :: a17 :: a18 :: a19 :: a20 :: a21 :: a22 :: a23 :: a24 :: a25 :: a26 :: l)[26]? = some a26 := rfl
@[simp high] theorem fs26 : (a0 :: a1 :: a2 :: a3 :: a4 :: a5 :: a6 :: a7 :: a8 :: a9 :: a10 :: a11 :: a12 :: a13 :: a14 :: a15 :: a16 :: a17 :: a18 :: a19 :: a20 :: a21 :: a22 :: a23 :: a24 :: a25 :: a26 :: l).set 26 b = a0 :: a1 :: a2 :: a3 :: a4 :: a5 :: a6 :: a7 :: a8 :: a9 :: a10 :: a11 :: a12 :: a13 :: a14 :: a15 :: a16 :: a17 :: a18 :: a19 :: a20 :: a21 :: a22 :: a23 :: a24 :: a25 :: b :: l := rfl
@[simp high] theorem fg27 : (a0 :: a1 :: a2 :: a3 :: a4 :: a5 :: a6 :: a7 :: a8 :: a9 :: a10 :: a11 :: a12 :: a13 :: a14 :: a15 :: a16 :: a17 :: a18 :: a19 :: a20 :: a21 :: a22 :: a23 :: a24 :: a25 :: a26 :: a27 :: l)[27]? = some a27 := rfl
@[simp high] theorem fs27 : (a0 :: a1 :: a2 :: a3 :: a4 :: a5 :: a6 :: a7 :: a8 :: a9 :: a10 :: a11 :: a12 :: a13 :: a14 :: a15 :: a16 :: a17 :: a18 :: a19 :: a20 :: a21 :: a22 :: a23 :: a24 :: a25 :: a26 :: a27 :: l).set 27 b = a0 :: a1 :: a2 :: a3 :: a4 :: a5 :: a6 :: a7 :: a8 :: a9 :: a10 :: a11 :: a12 :: a13 :: a14 :: a15 :: a16 :: a17 :: a18 :: a19 :: a20 :: a21 :: a22 :: a23 :: a24 :: a25 :: a26 :: b :: l := rfl
@[simp high] theorem fg28 : (a0 :: a1 :: a2 :: a3 :: a4 :: a5 :: a6 :: a7 :: a8 :: a9 :: a10 :: a11 :: a12 :: a13 :: a14 :: a15 :: a16 :: a17 :: a18 :: a19 :: a20 :: a21 :: a22 :: a23 :: a24 :: a25 :: a26 :: a27 :: a28 :: l)[28]? = some a28 := rfl
@[simp high] theorem fs28 : (a0 :: a1 :: a2 :: a3 :: a4 :: a5 :: a6 :: a7 :: a8 :: a9 :: a10 :: a11 :: a12 :: a13 :: a14 :: a15 :: a16 :: a17 :: a18 :: a19 :: a20 :: a21 :: a22 :: a23 :: a24 :: a25 :: a26 :: a27 :: a28 :: l).set 28 b = a0 :: a1 :: a2 :: a3 :: a4 :: a5 :: a6 :: a7 :: a8 :: a9 :: a10 :: a11 :: a12 :: a13 :: a14 :: a15 :: a16 :: a17 :: a18 :: a19 :: a20 :: a21 :: a22 :: a23 :: a24 :: a25 :: a26 :: a27 :: b :: l := rfl
@[simp high] theorem fg29 : (a0 :: a1 :: a2 :: a3 :: a4 :: a5 :: a6 :: a7 :: a8 :: a9 :: a10 :: a11 :: a12 :: a13 :: a14 :: a15 :: a16 :: a17 :: a18 :: a19 :: a20 :: a21 :: a22 :: a23 :: a24 :: a25 :: a26 :: a27 :: a28 :: a29 :: l)[29]? = some a29 := rfl
@[simp high] theorem fs29 : (a0 :: a1 :: a2 :: a3 :: a4 :: a5 :: a6 :: a7 :: a8 :: a9 :: a10 :: a11 :: a12 :: a13 :: a14 :: a15 :: a16 :: a17 :: a18 :: a19 :: a20 :: a21 :: a22 :: a23 :: a24 :: a25 :: a26 :: a27 :: a28 :: a29 :: l).set 29 b = a0 :: a1 :: a2 :: a3 :: a4 :: a5 :: a6 :: a7 :: a8 :: a9 :: a10 :: a11 :: a12 :: a13 :: a14 :: a15 :: a16 :: a17 :: a18 :: a19 :: a20 :: a21 :: a22 :: a23 :: a24 :: a25 :: a26 :: a27 :: a28 :: b :: l := rfl
@[simp high] theorem fg30 : (a0 :: a1 :: a2 :: a3 :: a4 :: a5 :: a6 :: a7 :: a8 :: a9 :: a10 :: a11 :: a12 :: a13 :: a14 :: a15 :: a16 :: a17 :: a18 :: a19 :: a20 :: a21 :: a22 :: a23 :: a24 :: a25 :: a26 :: a27 :: a28 :: a29 :: a30 :: l)[30]? = some a30 := rfl
@[simp high] theorem fs30 : (a0 :: a1 :: a2 :: a3 :: a4 :: a5 :: a6 :: a7 :: a8 :: a9 :: a10 :: a11 :: a12 :: a13 :: a14 :: a15 :: a16 :: a17 :: a18 :: a19 :: a20 :: a21 :: a22 :: a23 :: a24 :: a25 :: a26 :: a27 :: a28 :: a29 :: a30 :: l).set 30 b = a0 :: a1 :: a2 :: a3 :: a4 :: a5 :: a6 :: a7 :: a8 :: a9 :: a10 :: a11 :: a12 :: a13 :: a14 :: a15 :: a16 :: a17 :: a18 :: a19 :: a20 :: a21 :: a22 :: a23 :: a24 :: a25 :: a26 :: a27 :: a28 :: a29 :: b :: l := rfl
@[simp high] theorem fg31 : (a0 :: a1 :: a2 :: a3 :: a4 :: a5 :: a6 :: a7 :: a8 :: a9 :: a10 :: a11 :: a12 :: a13 :: a14 :: a15 :: a16 :: a17 :: a18 :: a19 :: a20 :: a21 :: a22 :: a23 :: a24 :: a25 :: a26 :: a27 :: a28 :: a29 :: a30 :: a31 :: l)[31]? = some a31 := rfl
@[simp high] theorem fs31 : (a0 :: a1 :: a2 :: a3 :: a4 :: a5 :: a6 :: a7 :: a8 :: a9 :: a10 :: a11 :: a12 :: a13 :: a14 :: a15 :: a16 :: a17 :: a18 :: a19 :: a20 :: a21 :: a22 :: a23 :: a24 :: a25 :: a26 :: a27 :: a28 :: a29 :: a30 :: a31 :: l).set 31 b = a0 :: a1 :: a2 :: a3 :: a4 :: a5 :: a6 :: a7 :: a8 :: a9 :: a10 :: a11 :: a12 :: a13 :: a14 :: a15 :: a16 :: a17 :: a18 :: a19 :: a20 :: a21 :: a22 :: a23 :: a24 :: a25 :: a26 :: a27 :: a28 :: a29 :: a30 :: b :: l := rfl
@[simp high] theorem fg32 : (a0 :: a1 :: a2 :: a3 :: a4 :: a5 :: a6 :: a7 :: a8 :: a9 :: a10 :: a11 :: a12 :: a13 :: a14 :: a15 :: a16 :: a17 :: a18 :: a19 :: a20 :: a21 :: a22 :: a23 :: a24 :: a25 :: a26 :: a27 :: a28 :: a29 :: a30 :: a31 :: a32 :: l)[32]? = some a32 := rfl
@[simp high] theorem fs32 : (a0 :: a1 :: a2 :: a3 :: a4 :: a5 :: a6 :: a7 :: a8 :: a9 :: a10 :: a11 :: a12 :: a13 :: a14 :: a15 :: a16 :: a17 :: a18 :: a19 :: a20 :: a21 :: a22 :: a23 :: a24 :: a25 :: a26 :: a27 :: a28 :: a29 :: a30 :: a31 :: a32 :: l).set 32 b = a0 :: a1 :: a2 :: a3 :: a4 :: a5 :: a6 :: a7 :: a8 :: a9 :: a10 :: a11 :: a12 :: a13 :: a14 :: a15 :: a16 :: a17 :: a18 :: a19 :: a20 :: a21 :: a22 :: a23 :: a24 :: a25 :: a26 :: a27 :: a28 :: a29 :: a30 :: a31 :: b :: l := rfl
end
section
variable {fr : Fr} {st : Sto} {f g h : Sem} {b c : SemB} {s t : SSem} {i j : Int} {n k : Nat} {l : SemL} {w u : W}
@[simp] theorem x_seq : sSeq s t fr st = (match s fr st with | .nx fr1 st1 => t fr1 st1 | o => o) := rfl
@[simp] theorem x_nil : sNil fr st = .nx fr st := rfl
@[simp] theorem x_exp : sExp f fr st = (f fr st).stm fr fun _ st1 => .nx fr st1 := rfl
@[simp] theorem x_ret : sRet f fr st = (f fr st).stm fr fun w st1 => .rt w st1 := rfl
@[simp] theorem x_retN : sRetN fr st = .rt .non st := rfl
@[simp] theorem x_bk : sBk fr st = .bk fr st := rfl
@[simp] theorem x_ct : sCt fr st = .ct fr st := rfl
@[simp] theorem x_if : sIf b s t fr st = (b fr st).stm fr fun b st1 => if b = true then s fr st1 else t fr st1 := rfl
@[simp] theorem x_asgN : sAsg f (gNm n) fr st = (f fr st).stm fr fun w st1 => .nx (fr.set n (some w)) st1 := rfl
@[simp] theorem x_subL {o i : Sem} : sSub uLst f o i fr st = (f fr st).stm fr fun w st1 => (o fr st1).stm fr fun o st2 => (i fr st2).stm fr fun i st3 => match uLst o i w st3 with
  | some st4 => .nx fr st4
  | none => .bad := rfl
theorem x_uLst : uLst (.cell k) (.int j) w st = (match st[k]? with
    | some (.lst ws) => (ixN ws.length j).map fun n => st.set k (.lst (ws.set n w))
    | _ => none) := rfl
@[simp] theorem x_var : eVar n fr st = (match fr[n]? with
  | some (some w) => .ok w st
  | _ => .bad) := rfl
@[simp] theorem x_c : eC w fr st = .ok w st := rfl
@[simp] theorem x_2 {op : Op2} : e2 op f g fr st = (f fr st).bind fun w st1 => (g fr st1).bind fun u st2 => op w u st2 := rfl
@[simp] theorem x_1 {op : Op1} : e1 op f fr st = (f fr st).bind fun w st1 => op w st1 := rfl
@[simp] theorem x_N {op : OpN} : eN op l fr st = (l fr st).bind fun w st1 => op w st1 := rfl
@[simp] theorem x_call {F : Fn} : eCall F l fr st = (l fr st).bind fun w st1 => F w st1 := rfl
@[simp] theorem x_aNil : aNil fr st = .ok [] st := rfl
@[simp] theorem x_aCons : aCons f l fr st = (f fr st).bind fun w st1 => (l fr st1).bind fun ws st2 => .ok (w :: ws) st2 := rfl
@[simp] theorem x_bOf : bOf f fr st = (f fr st).bind fun w st1 => match w with
  | .bl b => .ok b st1
  | _ => .bad := rfl
@[simp] theorem x_bNot : bNot b fr st = (b fr st).bind fun b st1 => .ok (!b) st1 := rfl
@[simp] theorem x_bAnd : bAnd b c fr st = (b fr st).bind fun b st1 => if b = true then c fr st1 else .ok false st1 := rfl
@[simp] theorem x_bOr : bOr b c fr st = (b fr st).bind fun b st1 => if b = true then .ok true st1 else c fr st1 := rfl
@[simp] theorem x_and : eAnd f g fr st = (f fr st).bind fun w st1 => match w with
  | .bl b => if b = true then g fr st1 else .ok (.bl false) st1
  | _ => .bad := rfl
@[simp] theorem x_or : eOr f g fr st = (f fr st).bind fun w st1 => match w with
  | .bl b => if b = true then .ok (.bl true) st1 else g fr st1
  | _ => .bad := rfl
@[simp] theorem x_not : eNot f fr st = (f fr st).bind fun w st1 => match w with
  | .bl b => .ok (.bl (!b)) st1
  | _ => .bad := rfl
@[simp] theorem x_ife : eIf b f g fr st = (b fr st).bind fun b st1 => if b = true then f fr st1 else g fr st1 := rfl
@[simp] theorem x_chain {op op' : Op2} : eChain op op' f g h fr st = (f fr st).bind fun x st1 => (g fr st1).bind fun y st2 => (op x y st2).bind fun z st3 => match z with
  | .bl b => if b = true then (h fr st3).bind fun w st4 => op' y w st4 else .ok (.bl false) st3
  | _ => .bad := rfl
@[simp] theorem x_add : oAdd (.int i) (.int j) st = .ok (.int (i + j)) st := rfl
@[simp] theorem x_sub : oSub (.int i) (.int j) st = .ok (.int (i - j)) st := rfl
@[simp] theorem x_neg : oNeg (.int i) st = .ok (.int (-i)) st := rfl
theorem x_mul (h : mulOk i j = true) : oMul (.int i) (.int j) st = .ok (.int (i * j)) st := if_pos h
theorem mul_small (h : -(2 ^ 64) < j ∧ j < 2 ^ 64) : mulOk i j = true := by
  unfold mulOk
  rw [Bool.or_eq_true]
  exact .inl (dec_mk (.inr h))
theorem mul_smallL (h : -(2 ^ 64) < i ∧ i < 2 ^ 64) : mulOk i j = true := by
  unfold mulOk
  rw [Bool.or_eq_true]
  exact .inl (dec_mk (.inl h))
@[simp] theorem x_mulR (h : -(2 ^ 64) < j ∧ j < 2 ^ 64) : oMul (.int i) (.int j) st = .ok (.int (i * j)) st := x_mul (mul_small h)
@[simp] theorem x_mulL (h : -(2 ^ 64) < i ∧ i < 2 ^ 64) : oMul (.int i) (.int j) st = .ok (.int (i * j)) st := x_mul (mul_smallL h)
@[simp] theorem x_div (h : 0 < j) (h2 : j.natAbs.log2 < 9000) : oDiv (.int i) (.int j) st = .ok (.int (i / j)) st := if_pos (dec_mk ⟨h, h2⟩)
theorem log_small {j : Int} (h : 0 < j) (h2 : j < 2 ^ 64) : j.natAbs.log2 < 9000 := by
  have : j.natAbs < 2 ^ 64 := by omega
  have := (Nat.log2_lt (n := j.natAbs) (k := 64) (by omega)).mpr this
  omega
@[simp] theorem x_divS (h : 0 < j) (h2 : j < 2 ^ 64) : oDiv (.int i) (.int j) st = .ok (.int (i / j)) st := x_div h (log_small h h2)
@[simp] theorem x_mod (h : 0 < j) : oMod (.int i) (.int j) st = .ok (.int (i % j)) st := if_pos h
@[simp] theorem x_pow (h : 0 ≤ j ∧ j ≤ 1000000 ∧ i.natAbs < 2 ^ 64) : oPow (.int i) (.int j) st = .ok (.int (i ^ j.toNat)) st := if_pos (dec_mk h)
@[simp] theorem x_le : oLe (.int i) (.int j) st = .ok (.bl (decide (i ≤ j))) st := rfl
@[simp] theorem x_lt : oLt (.int i) (.int j) st = .ok (.bl (decide (i < j))) st := rfl
@[simp] theorem x_gt : oGt (.int i) (.int j) st = .ok (.bl (decide (j < i))) st := rfl
@[simp] theorem x_ge : oGe (.int i) (.int j) st = .ok (.bl (decide (j ≤ i))) st := rfl
@[simp] theorem x_int : oInt [.int i] st = .ok (.int i) st := rfl
@[simp] theorem x_intB {b : Bool} : oInt [.bl b] st = .ok (.int (if b then 1 else 0)) st := rfl
@[simp] theorem x_eqI : oEq (.int i) (.int j) st = .ok (.bl (decide (i = j))) st := by
  show (match eqW st (.int i) (.int j) with | some b => Out.ok (W.bl b) st | none => .bad) = _
  have : eqW st (.int i) (.int j) = some (decide (i = j)) := by
    show (if SeqAt.shaped (.int i) && SeqAt.shaped (.int j) then some (PyData.eqv (.int i) (.int j)) else none) = _
    have z : ∀ i : Int, SeqAt.shaped (.int i) = true := fun i => by rfl
    rw [z, z]
    show some (i == j) = _
    congr 1
  rw [this]
@[simp] theorem x_neI : oNe (.int i) (.int j) st = .ok (.bl (!decide (i = j))) st := by
  show (match eqW st (.int i) (.int j) with | some b => Out.ok (W.bl (!b)) st | none => .bad) = _
  have : eqW st (.int i) (.int j) = some (decide (i = j)) := by
    show (if SeqAt.shaped (.int i) && SeqAt.shaped (.int j) then some (PyData.eqv (.int i) (.int j)) else none) = _
    have z : ∀ i : Int, SeqAt.shaped (.int i) = true := fun i => by rfl
    rw [z, z]
    show some (i == j) = _
    congr 1
  rw [this]
@[simp] theorem x_isN : oIs w .non st = .ok (.bl (isNon w)) st := rfl
@[simp] theorem x_isNN : oIsN w .non st = .ok (.bl (!isNon w)) st := rfl
theorem x_tup {ws : List W} (h : ws.length ≤ 1000) : oTup ws st = .ok (.tup ws) st := if_pos (decide_eq_true h)
theorem x_lst {ws : List W} (h : ws.length ≤ 1000) : oLst ws st = .ok (.lst ws) st := if_pos (decide_eq_true h)
theorem x_cell {ws : List W} (h : ws.length ≤ 1000) : oCell ws st = .ok (.cell st.length) (st ++ [.lst ws]) := if_pos (decide_eq_true h)
@[simp] theorem x_pNo : pNo fr st = .ok none st := rfl
@[simp] theorem x_pYes : pYes f fr st = (f fr st).bind fun w st1 => match w with
  | .int i => .ok (some i) st1
  | _ => .bad := rfl
@[simp] theorem x_sl {l h : SemO} : eSl f l h fr st = (f fr st).bind fun x st1 => (l fr st1).bind fun lo st2 => (h fr st2).bind fun hi st3 => oSl x lo hi st3 := rfl
@[simp] theorem x_iSeq : iSeq f fr st = (f fr st).bind fun x st1 => match itW st1 x with
  | some ws => .ok (x, ws) st1
  | none => .bad := rfl
@[simp] theorem x_eM {ty : Sto → W → Bool} {op : OpM} : eM ty op f l fr st = (f fr st).bind fun w st1 => if ty st1 w = true then (l fr st1).bind fun ws st2 => op w ws st2 else .bad := rfl
@[simp] theorem x_lst_lst {ws : List W} : lstW st (.lst ws) = some ws := rfl
@[simp] theorem x_lst_ro {ws : List W} : lstW st (.ro ws) = some ws := rfl
@[simp] theorem x_lst_tup {ws : List W} : lstW st (.tup ws) = none := rfl
@[simp] theorem x_tup_tup {ws : List W} : tupW st (.tup ws) = some ws := rfl
@[simp] theorem x_seq_lst {ws : List W} : seqW st (.lst ws) = some ws := rfl
@[simp] theorem x_seq_ro {ws : List W} : seqW st (.ro ws) = some ws := rfl
@[simp] theorem x_seq_tup {ws : List W} : seqW st (.tup ws) = some ws := rfl
@[simp] theorem x_it_lst {ws : List W} : itW st (.lst ws) = some ws := rfl
@[simp] theorem x_it_ro {ws : List W} : itW st (.ro ws) = some ws := rfl
@[simp] theorem x_it_tup {ws : List W} : itW st (.tup ws) = some ws := rfl
theorem x_len {ws : List W} (h : seqW st w = some ws) (hn : ∀ x, w ≠ .str x) : oLen [w] st = .ok (.int ws.length) st := by
  cases w <;> first | exact absurd rfl (hn _) | simp [oLen, h]
@[simp] theorem x_len_tup {ws : List W} : oLen [.tup ws] st = .ok (.int ws.length) st := rfl
@[simp] theorem x_len_lst {ws : List W} : oLen [.lst ws] st = .ok (.int ws.length) st := rfl
@[simp] theorem x_len_ro {ws : List W} : oLen [.ro ws] st = .ok (.int ws.length) st := rfl
@[simp] theorem x_list_tup {ws : List W} : oList [.tup ws] st = .ok (.lst ws) st := rfl
@[simp] theorem x_list_lst {ws : List W} : oList [.lst ws] st = .ok (.lst ws) st := rfl
@[simp] theorem x_tuple_lst {ws : List W} : oTuple [.lst ws] st = .ok (.tup ws) st := rfl
@[simp] theorem x_tuple_tup {ws : List W} : oTuple [.tup ws] st = .ok (.tup ws) st := rfl
@[simp] theorem x_rev_lst {ws : List W} : oTupRev (.lst ws) st = .ok (.tup ws.reverse) st := rfl
theorem x_ix {ws : List W} (h : seqW st w = some ws) (hn : ∀ x, w ≠ .str x) {m : Nat} (hm : ixN ws.length i = some m) (hu : ws[m]? = some u) : oIx w (.int i) st = .ok u st := by
  have e : (seqW st w).bind (fun ws => atI ws i) = some u := by
    rw [h]; show (ixN ws.length i).bind (fun j => ws[j]?) = _; rw [hm]; exact hu
  cases w <;> first | exact absurd rfl (hn _) | simp only [oIx, e]
theorem ixN_ok {n : Nat} {i : Int} (h : 0 ≤ i) (h2 : i < n) : ixN n i = some i.toNat := by
  unfold ixN; rw [if_pos h, if_pos h2]
theorem ixN_nat {n k : Nat} (h : k < n) : ixN n (k : Int) = some k := by
  rw [ixN_ok (by omega) (by omega)]; simp
theorem x_ixT {ws : List W} (h : 0 ≤ i) (hu : ws[i.toNat]? = some u) : oIx (.tup ws) (.int i) st = .ok u st := by
  have hl : i.toNat < ws.length := by
    rcases Nat.lt_or_ge i.toNat ws.length with q | q
    · exact q
    · rw [List.getElem?_eq_none q] at hu; cases hu
  exact x_ix rfl (fun _ z => by cases z) (ixN_ok h (by omega)) hu
theorem x_ixL {ws : List W} (h : 0 ≤ i) (hu : ws[i.toNat]? = some u) : oIx (.lst ws) (.int i) st = .ok u st := by
  have hl : i.toNat < ws.length := by
    rcases Nat.lt_or_ge i.toNat ws.length with q | q
    · exact q
    · rw [List.getElem?_eq_none q] at hu; cases hu
  exact x_ix rfl (fun _ z => by cases z) (ixN_ok h (by omega)) hu
theorem x_ixC {ws : List W} (hc : st[k]? = some (.lst ws)) (h : 0 ≤ i) (hu : ws[i.toNat]? = some u) : oIx (.cell k) (.int i) st = .ok u st := by
  have hl : i.toNat < ws.length := by
    rcases Nat.lt_or_ge i.toNat ws.length with q | q
    · exact q
    · rw [List.getElem?_eq_none q] at hu; cases hu
  exact x_ix (by simp [seqW, lstW, hc]) (fun _ z => by cases z) (ixN_ok h (by omega)) hu
end
theorem leave_same {n : Nat} {w : W} {st : Sto} (h : st.length = n) : leave n w st = .ok w st := if_pos h
theorem leaveX_same {n : Nat} {x : Exc} {st : Sto} (h : st.length = n) : leaveX n x st = .err x st := if_pos h
theorem mk_rt {m : Nat} {b : SSem} {ws : List W} {st st1 : Sto} {w : W} (h : b (ws.map some ++ List.replicate (m - ws.length) none) st = .rt w st1) (hl : st1.length = st.length) : mkFn m b ws st = .ok w st1 := by
  unfold mkFn mkFnG; rw [h]; exact leave_same hl
theorem mkA_rt {m : Nat} {b : SSem} {ws : List W} {st st1 : Sto} {w : W} (h : b (ws.map some ++ List.replicate (m - ws.length) none) st = .rt w st1) : mkFnA m b ws st = .ok w st1 := by
  unfold mkFnA mkFnG; rw [h]; rfl
theorem mk_nx {m : Nat} {b : SSem} {ws : List W} {st st1 : Sto} {fr : Fr} (h : b (ws.map some ++ List.replicate (m - ws.length) none) st = .nx fr st1) (hl : st1.length = st.length) : mkFn m b ws st = .ok .non st1 := by
  unfold mkFn mkFnG; rw [h]; exact leave_same hl
theorem mk_er {m : Nat} {b : SSem} {ws : List W} {st st1 : Sto} {fr : Fr} {x : Exc} (h : b (ws.map some ++ List.replicate (m - ws.length) none) st = .er x fr st1) (hl : st1.length = st.length) : mkFn m b ws st = .err x st1 := by
  unfold mkFn mkFnG; rw [h]; exact leaveX_same hl
/-- new cells that nothing handed back speaks of -/
theorem mk_rt2 {m : Nat} {b : SSem} {ws : List W} {st ex : Sto} {w : W} (h : b (ws.map some ++ List.replicate (m - ws.length) none) st = .rt w (st ++ ex)) (hw : ∀ n f, fz0 n f w = some w) (ho : st.all (oldW st.length) = true) : mkFn m b ws st = .ok w st := by
  unfold mkFn mkFnG; rw [h]
  show leave st.length w (st ++ ex) = _
  unfold leave
  split
  · rename_i e
    have : ex = [] := by
      rw [List.length_append] at e
      exact List.eq_nil_of_length_eq_zero (by omega)
    rw [this, List.append_nil]
  · rw [hw]
    simp only [List.take_left, ho, if_true]
/-! ## comprehensions, loops -/
inductive Both {α β : Type} (R : α → β → Prop) : List α → List β → Prop
  | nil : Both R [] []
  | cons {a : α} {b : β} {l : List α} {m : List β} (h : R a b) (r : Both R l m) : Both R (a :: l) (b :: m)
theorem src_free {x : W} {all : List W} {st : Sto} (h : ∀ k, x ≠ .cell k) : srcOk x all st := by
  cases x <;> first | trivial | exact absurd rfl (h _)
theorem lc_map {x : W} {all : List W} {g : TgF} {t : SemB} {e : Sem} {fr : Fr} {f : W → W} {st : Sto} (hs : srcOk x all st) : ∀ ws : List W, (∀ w ∈ ws, ∃ fr1, g w fr st = some fr1 ∧ t fr1 st = .ok true st ∧ e fr1 st = .ok (f w) st) → lcRun x all g t e fr ws st = .ok (ws.map f) st
  | [], _ => by unfold lcRun; rw [if_pos hs]; rfl
  | w :: r, h => by
    obtain ⟨fr1, h1, h2, h3⟩ := h w List.mem_cons_self
    have ih := lc_map hs r fun u hu => h u (List.mem_cons_of_mem _ hu)
    unfold lcRun
    rw [if_pos hs, h1]
    simp only [h2, h3, ih, List.map_cons]
theorem lc_filter {x : W} {all : List W} {g : TgF} {t : SemB} {e : Sem} {fr : Fr} {p : W → Bool} {f : W → W} {st : Sto} (hs : srcOk x all st) : ∀ ws : List W, (∀ w ∈ ws, ∃ fr1, g w fr st = some fr1 ∧ t fr1 st = .ok (p w) st ∧ (p w = true → e fr1 st = .ok (f w) st)) → lcRun x all g t e fr ws st = .ok ((ws.filter p).map f) st
  | [], _ => by unfold lcRun; rw [if_pos hs]; rfl
  | w :: r, h => by
    obtain ⟨fr1, h1, h2, h3⟩ := h w List.mem_cons_self
    have ih := lc_filter hs r fun u hu => h u (List.mem_cons_of_mem _ hu)
    unfold lcRun
    rw [if_pos hs, h1]
    cases e : p w with
    | true => simp only [h2, e, h3 e, ih, List.filter_cons, if_true, List.map_cons]
    | false => simp only [h2, e, ih, List.filter_cons]; rfl
/-- the store goes on, by an invariant; what comes out is told of each item -/
theorem lc_inv {x : W} {all : List W} {g : TgF} {t : SemB} {e : Sem} {fr : Fr} (I : Sto → Prop) (R : W → W → Prop) (hs : ∀ st, I st → srcOk x all st) : ∀ (ws : List W) (st : Sto), I st → (∀ w ∈ ws, ∀ st, I st → ∃ fr1 y st2, g w fr st = some fr1 ∧ t fr1 st = .ok true st ∧ e fr1 st = .ok y st2 ∧ I st2 ∧ R w y) →
    ∃ ys st', lcRun x all g t e fr ws st = .ok ys st' ∧ I st' ∧ Both R ws ys
  | [], st, hi, _ => ⟨[], st, by unfold lcRun; rw [if_pos (hs st hi)], hi, .nil⟩
  | w :: r, st, hi, h => by
    obtain ⟨fr1, y, st2, h1, h2, h3, h4, h5⟩ := h w List.mem_cons_self st hi
    obtain ⟨ys, st3, e1, e2, e3⟩ := lc_inv I R hs r st2 h4 fun u hu => h u (List.mem_cons_of_mem _ hu)
    refine ⟨y :: ys, st3, ?_, e2, .cons h5 e3⟩
    unfold lcRun
    rw [if_pos (hs st hi), h1]
    simp only [h2, h3, e1]
theorem x_lc {f : SemI} {g : TgF} {own : List Nat} {t : SemB} {e : Sem} {fr : Fr} {st st1 st2 : Sto} {x : W} {all ys : List W} (h : f fr st = .ok (x, all) st1) (h2 : lcRun x all g t e (wipeF fr own) all st1 = .ok ys st2) : eLc f g own t e fr st = .ok (.lst ys) st2 := by
  unfold eLc eLcG; rw [h, Out.bind_ok]; simp only [h2, finL]
theorem x_lcC {f : SemI} {g : TgF} {own : List Nat} {t : SemB} {e : Sem} {fr : Fr} {st st1 st2 : Sto} {x : W} {all ys : List W} (h : f fr st = .ok (x, all) st1) (h2 : lcRun x all g t e (wipeF fr own) all st1 = .ok ys st2) : eLcC f g own t e fr st = .ok (.cell st2.length) (st2 ++ [.lst ys]) := by
  unfold eLcC eLcG; rw [h, Out.bind_ok]; simp only [h2, finC]
/-- a loop by an invariant over the turns -/
theorem for_inv {x : W} {all : List W} {g : TgF} {b : SSem} (P : Nat → Fr → Sto → Prop) (hs : ∀ k fr st, P k fr st → srcOk x all st) (step : ∀ k fr st w, P k fr st → all[k]? = some w → ∃ fr1 fr2 st2, g w fr st = some fr1 ∧ (b fr1 st = .nx fr2 st2 ∨ b fr1 st = .ct fr2 st2) ∧ P (k + 1) fr2 st2) :
    ∀ (m k : Nat) (fr : Fr) (st : Sto), all.length = k + m → P k fr st → ∃ fr' st', forRun x all g b (all.drop k) fr st = .nx fr' st' ∧ P all.length fr' st'
  | 0, k, fr, st, hm, h => ⟨fr, st, by rw [List.drop_eq_nil_of_le (by omega)]; unfold forRun; rw [if_pos (hs k fr st h)], by rw [hm]; exact h⟩
  | m + 1, k, fr, st, hm, h => by
    have hk : k < all.length := by omega
    obtain ⟨fr1, fr2, st2, h1, h2, h3⟩ := step k fr st all[k] h (by simp)
    obtain ⟨fr', st', e1, e2⟩ := for_inv P hs step m (k + 1) fr2 st2 (by omega) h3
    refine ⟨fr', st', ?_, e2⟩
    rw [List.drop_eq_getElem_cons hk]
    unfold forRun
    rw [if_pos (hs k fr st h), h1]
    rcases h2 with h2 | h2 <;> simp only [h2, e1]
theorem x_for {f : SemI} {g : TgF} {b : SSem} {fr : Fr} {st st1 : Sto} {x : W} {all : List W} (h : f fr st = .ok (x, all) st1) (P : Nat → Fr → Sto → Prop) (h0 : P 0 fr st1) (hs : ∀ k fr st, P k fr st → srcOk x all st) (step : ∀ k fr st w, P k fr st → all[k]? = some w → ∃ fr1 fr2 st2, g w fr st = some fr1 ∧ (b fr1 st = .nx fr2 st2 ∨ b fr1 st = .ct fr2 st2) ∧ P (k + 1) fr2 st2) :
    ∃ fr' st', sFor f g b fr st = .nx fr' st' ∧ P all.length fr' st' := by
  obtain ⟨fr', st', e1, e2⟩ := for_inv P hs step all.length 0 fr st1 (by omega) h0
  refine ⟨fr', st', ?_, e2⟩
  unfold sFor; rw [h, Out.stm_ok]
  exact e1
theorem rngW_at {lo c : Int} {n k : Nat} {w : W} (h : (rngW lo c n)[k]? = some w) : k < n ∧ w = .int (lo + (k : Int) * c) := by
  unfold rngW at h
  rw [List.getElem?_map] at h
  by_cases q : k < n
  · rw [List.getElem?_range q] at h
    exact ⟨q, (Option.some.inj h).symm⟩
  · rw [List.getElem?_eq_none (by simpa using q)] at h; cases h
theorem rng_mem {lo c : Int} {n : Nat} {w : W} (h : w ∈ rngW lo c n) : ∃ k, k < n ∧ w = .int (lo + (k : Int) * c) := by
  unfold rngW at h
  obtain ⟨k, h1, h2⟩ := List.mem_map.mp h
  exact ⟨k, by simpa using h1, h2.symm⟩
theorem x_rng1 {l : SemL} {fr : Fr} {st st1 : Sto} {j : Int} (h : l fr st = .ok [.int j] st1) (h2 : j ≤ 1000000) (h3 : -1000000 ≤ j) : iRng rg1 l fr st = .ok (.non, rngW 0 1 j.toNat) st1 := by
  unfold iRng rg1
  rw [h, Out.bind_ok]
  have hb : big j = true := dec_mk (by omega)
  have hl : j.toNat ≤ LINE := by unfold LINE; omega
  simp only [hb, if_true, if_pos hl]
/-! ## a row of statements -/
theorem seq_to {s t : SSem} {fr fr1 : Fr} {st st1 : Sto} {o : SOut} (h : s fr st = .nx fr1 st1) (h2 : t fr1 st1 = o) : sSeq s t fr st = o := by
  unfold sSeq; rw [h]; exact h2
theorem asg_to {f : Sem} {i : Nat} {t : SSem} {fr : Fr} {st st1 : Sto} {w : W} {o : SOut} (h : f fr st = .ok w st1) (h2 : t (fr.set i (some w)) st1 = o) : sSeq (sAsg f (gNm i)) t fr st = o := by
  unfold sSeq sAsg; rw [h]; exact h2
/-- if not ..: is passed by -/
theorem if_no {b : SemB} {s u t : SSem} {fr fr1 : Fr} {st st1 st2 : Sto} {o : SOut} (h : b fr st = .ok false st1) (h3 : u fr st1 = .nx fr1 st2) (h2 : t fr1 st2 = o) : sSeq (sIf b s u) t fr st = o := by
  unfold sSeq sIf; rw [h]; simp [h3]; exact h2
theorem exp_to {f : Sem} {t : SSem} {fr : Fr} {st st1 : Sto} {w : W} {o : SOut} (h : f fr st = .ok w st1) (h2 : t fr st1 = o) : sSeq (sExp f) t fr st = o := by
  unfold sSeq sExp; rw [h]; exact h2
@[simp] theorem ty_non_ {st : Sto} : tyW st .non = some "NoneType" := rfl
@[simp] theorem isi_non {st : Sto} {n : String} : oIsi [.non, .ty n] st = if tyN "NoneType" && tyN n then .ok (.bl (subT "NoneType" n)) st else .bad := rfl
@[simp] theorem isi2_non {st : Sto} {n m : String} : oIsi [.non, .tup [.ty n, .ty m]] st = if tyN "NoneType" && (tyN n && tyN m) then .ok (.bl (subT "NoneType" n || subT "NoneType" m)) st else .bad := by
  show (if tyN "NoneType" && [n, m].all tyN then Out.ok (W.bl ([n, m].any (subT "NoneType"))) st else .bad) = _
  simp
@[simp] theorem ty_bl_ {st : Sto} {b : Bool} : tyW st (.bl b) = some "bool" := rfl
@[simp] theorem isi_bl {st : Sto} {b : Bool} {n : String} : oIsi [(.bl b), .ty n] st = if tyN "bool" && tyN n then .ok (.bl (subT "bool" n)) st else .bad := rfl
@[simp] theorem isi2_bl {st : Sto} {b : Bool} {n m : String} : oIsi [(.bl b), .tup [.ty n, .ty m]] st = if tyN "bool" && (tyN n && tyN m) then .ok (.bl (subT "bool" n || subT "bool" m)) st else .bad := by
  show (if tyN "bool" && [n, m].all tyN then Out.ok (W.bl ([n, m].any (subT "bool"))) st else .bad) = _
  simp
@[simp] theorem ty_int_ {st : Sto} {i : Int} : tyW st (.int i) = some "int" := rfl
@[simp] theorem isi_int {st : Sto} {i : Int} {n : String} : oIsi [(.int i), .ty n] st = if tyN "int" && tyN n then .ok (.bl (subT "int" n)) st else .bad := rfl
@[simp] theorem isi2_int {st : Sto} {i : Int} {n m : String} : oIsi [(.int i), .tup [.ty n, .ty m]] st = if tyN "int" && (tyN n && tyN m) then .ok (.bl (subT "int" n || subT "int" m)) st else .bad := by
  show (if tyN "int" && [n, m].all tyN then Out.ok (W.bl ([n, m].any (subT "int"))) st else .bad) = _
  simp
@[simp] theorem ty_str_ {st : Sto} {z : Str} : tyW st (.str z) = some "str" := rfl
@[simp] theorem isi_str {st : Sto} {z : Str} {n : String} : oIsi [(.str z), .ty n] st = if tyN "str" && tyN n then .ok (.bl (subT "str" n)) st else .bad := rfl
@[simp] theorem isi2_str {st : Sto} {z : Str} {n m : String} : oIsi [(.str z), .tup [.ty n, .ty m]] st = if tyN "str" && (tyN n && tyN m) then .ok (.bl (subT "str" n || subT "str" m)) st else .bad := by
  show (if tyN "str" && [n, m].all tyN then Out.ok (W.bl ([n, m].any (subT "str"))) st else .bad) = _
  simp
@[simp] theorem ty_tup_ {st : Sto} {ws : List W} : tyW st (.tup ws) = some "tuple" := rfl
@[simp] theorem isi_tup {st : Sto} {ws : List W} {n : String} : oIsi [(.tup ws), .ty n] st = if tyN "tuple" && tyN n then .ok (.bl (subT "tuple" n)) st else .bad := rfl
@[simp] theorem isi2_tup {st : Sto} {ws : List W} {n m : String} : oIsi [(.tup ws), .tup [.ty n, .ty m]] st = if tyN "tuple" && (tyN n && tyN m) then .ok (.bl (subT "tuple" n || subT "tuple" m)) st else .bad := by
  show (if tyN "tuple" && [n, m].all tyN then Out.ok (W.bl ([n, m].any (subT "tuple"))) st else .bad) = _
  simp
@[simp] theorem ty_lst_ {st : Sto} {ws : List W} : tyW st (.lst ws) = some "list" := rfl
@[simp] theorem isi_lst {st : Sto} {ws : List W} {n : String} : oIsi [(.lst ws), .ty n] st = if tyN "list" && tyN n then .ok (.bl (subT "list" n)) st else .bad := rfl
@[simp] theorem isi2_lst {st : Sto} {ws : List W} {n m : String} : oIsi [(.lst ws), .tup [.ty n, .ty m]] st = if tyN "list" && (tyN n && tyN m) then .ok (.bl (subT "list" n || subT "list" m)) st else .bad := by
  show (if tyN "list" && [n, m].all tyN then Out.ok (W.bl ([n, m].any (subT "list"))) st else .bad) = _
  simp
@[simp] theorem ty_dct_ {st : Sto} {ws : List W} : tyW st (.dct [] ws) = some "dict" := rfl
@[simp] theorem ty_dct_S {st : Sto} {x : Str} {ks ws : List W} : tyW st (.dct (.str x :: ks) ws) = some "dict" := rfl
@[simp] theorem isi_dct {st : Sto} {ws : List W} {n : String} : oIsi [(.dct [] ws), .ty n] st = if tyN "dict" && tyN n then .ok (.bl (subT "dict" n)) st else .bad := rfl
@[simp] theorem isi_dctS {st : Sto} {x : Str} {ks ws : List W} {n : String} : oIsi [(.dct (.str x :: ks) ws), .ty n] st = if tyN "dict" && tyN n then .ok (.bl (subT "dict" n)) st else .bad := rfl
@[simp] theorem isi2_dct {st : Sto} {ws : List W} {n m : String} : oIsi [(.dct [] ws), .tup [.ty n, .ty m]] st = if tyN "dict" && (tyN n && tyN m) then .ok (.bl (subT "dict" n || subT "dict" m)) st else .bad := by
  show (if tyN "dict" && [n, m].all tyN then Out.ok (W.bl ([n, m].any (subT "dict"))) st else .bad) = _
  simp
@[simp] theorem isi2_dctS {st : Sto} {x : Str} {ks ws : List W} {n m : String} : oIsi [(.dct (.str x :: ks) ws), .tup [.ty n, .ty m]] st = if tyN "dict" && (tyN n && tyN m) then .ok (.bl (subT "dict" n || subT "dict" m)) st else .bad := by
  show (if tyN "dict" && [n, m].all tyN then Out.ok (W.bl ([n, m].any (subT "dict"))) st else .bad) = _
  simp
@[simp] theorem tyN_NoneType : tyN "NoneType" = true := by decide +kernel
@[simp] theorem subT_NoneType_bool : subT "NoneType" "bool" = false := by decide +kernel
@[simp] theorem subT_NoneType_int : subT "NoneType" "int" = false := by decide +kernel
@[simp] theorem subT_NoneType_str : subT "NoneType" "str" = false := by decide +kernel
@[simp] theorem subT_NoneType_tuple : subT "NoneType" "tuple" = false := by decide +kernel
@[simp] theorem subT_NoneType_list : subT "NoneType" "list" = false := by decide +kernel
@[simp] theorem subT_NoneType_dict : subT "NoneType" "dict" = false := by decide +kernel
@[simp] theorem tyN_bool : tyN "bool" = true := by decide +kernel
@[simp] theorem subT_bool_bool : subT "bool" "bool" = true := by decide +kernel
@[simp] theorem subT_bool_int : subT "bool" "int" = true := by decide +kernel
@[simp] theorem subT_bool_str : subT "bool" "str" = false := by decide +kernel
@[simp] theorem subT_bool_tuple : subT "bool" "tuple" = false := by decide +kernel
@[simp] theorem subT_bool_list : subT "bool" "list" = false := by decide +kernel
@[simp] theorem subT_bool_dict : subT "bool" "dict" = false := by decide +kernel
@[simp] theorem tyN_int : tyN "int" = true := by decide +kernel
@[simp] theorem subT_int_bool : subT "int" "bool" = false := by decide +kernel
@[simp] theorem subT_int_int : subT "int" "int" = true := by decide +kernel
@[simp] theorem subT_int_str : subT "int" "str" = false := by decide +kernel
@[simp] theorem subT_int_tuple : subT "int" "tuple" = false := by decide +kernel
@[simp] theorem subT_int_list : subT "int" "list" = false := by decide +kernel
@[simp] theorem subT_int_dict : subT "int" "dict" = false := by decide +kernel
@[simp] theorem tyN_str : tyN "str" = true := by decide +kernel
@[simp] theorem subT_str_bool : subT "str" "bool" = false := by decide +kernel
@[simp] theorem subT_str_int : subT "str" "int" = false := by decide +kernel
@[simp] theorem subT_str_str : subT "str" "str" = true := by decide +kernel
@[simp] theorem subT_str_tuple : subT "str" "tuple" = false := by decide +kernel
@[simp] theorem subT_str_list : subT "str" "list" = false := by decide +kernel
@[simp] theorem subT_str_dict : subT "str" "dict" = false := by decide +kernel
@[simp] theorem tyN_tuple : tyN "tuple" = true := by decide +kernel
@[simp] theorem subT_tuple_bool : subT "tuple" "bool" = false := by decide +kernel
@[simp] theorem subT_tuple_int : subT "tuple" "int" = false := by decide +kernel
@[simp] theorem subT_tuple_str : subT "tuple" "str" = false := by decide +kernel
@[simp] theorem subT_tuple_tuple : subT "tuple" "tuple" = true := by decide +kernel
@[simp] theorem subT_tuple_list : subT "tuple" "list" = false := by decide +kernel
@[simp] theorem subT_tuple_dict : subT "tuple" "dict" = false := by decide +kernel
@[simp] theorem tyN_list : tyN "list" = true := by decide +kernel
@[simp] theorem subT_list_bool : subT "list" "bool" = false := by decide +kernel
@[simp] theorem subT_list_int : subT "list" "int" = false := by decide +kernel
@[simp] theorem subT_list_str : subT "list" "str" = false := by decide +kernel
@[simp] theorem subT_list_tuple : subT "list" "tuple" = false := by decide +kernel
@[simp] theorem subT_list_list : subT "list" "list" = true := by decide +kernel
@[simp] theorem subT_list_dict : subT "list" "dict" = false := by decide +kernel
@[simp] theorem tyN_dict : tyN "dict" = true := by decide +kernel
@[simp] theorem subT_dict_bool : subT "dict" "bool" = false := by decide +kernel
@[simp] theorem subT_dict_int : subT "dict" "int" = false := by decide +kernel
@[simp] theorem subT_dict_str : subT "dict" "str" = false := by decide +kernel
@[simp] theorem subT_dict_tuple : subT "dict" "tuple" = false := by decide +kernel
@[simp] theorem subT_dict_list : subT "dict" "list" = false := by decide +kernel
@[simp] theorem subT_dict_dict : subT "dict" "dict" = true := by decide +kernel

@[simp] theorem eq_bl {a b : Bool} {st : Sto} : oEq (.bl a) (.bl b) st = .ok (.bl (decide (a = b))) st := by cases a <;> cases b <;> rfl
@[simp] theorem ne_bl {a b : Bool} {st : Sto} : oNe (.bl a) (.bl b) st = .ok (.bl (!decide (a = b))) st := by cases a <;> cases b <;> rfl
theorem eq_refl_ {st : Sto} {w : W} {d : PyData} (h : pdT st w = some d) (hs : SeqAt.shaped d = true) (he : PyData.eqv d d = true) : oEq w w st = .ok (.bl true) st := by
  unfold oEq eqW; rw [h]; simp [hs, he]
theorem eq_str {z : Str} {st : Sto} (h : PyData.strOk z = true) : oEq (.str z) (.str z) st = .ok (.bl true) st := by
  refine eq_refl_ (d := .str z) rfl ?_ (by show (z == z) = true; simp)
  unfold SeqAt.shaped
  have : PyData.canLay0 (.str z) = PyData.strOk z := by simp only [PyData.canLay0]
  rw [this, h]; rfl
theorem oIsi_eq {x : W} {n t : String} {st : Sto} (h : tyW st x = some t) (h1 : tyN t = true) (h2 : tyN n = true) : oIsi [x, .ty n] st = .ok (.bl (subT t n)) st := by
  show (match tyW st x with
    | some t => if tyN t && tyN n then Out.ok (W.bl (subT t n)) st else .bad
    | none => .bad) = _
  rw [h]; simp [h1, h2]
end SL

namespace SL
open PySem PySem.Spec PyProof.Rows L2
def top (i : Nat) : Stmt := PySem.Challenge.pw_surelabels_k33_rows_that_rest.main.body.getD i (.Pass ⟨0, 0, 0, 0⟩)
def inCls (st : Stmt) (i : Nat) : Stmt := match st with
  | .ClassDef _ _ _ b _ _ _ _ _ _ _ => b.getD i (.Pass ⟨0, 0, 0, 0⟩)
  | _ => .Pass ⟨0, 0, 0, 0⟩
abbrev s_is_integer : Stmt := top 6
abbrev s_is_between : Stmt := top 7
abbrev s_count_rows : Stmt := top 12
abbrev s_is_items : Stmt := top 8
abbrev s_span_of : Stmt := top 15
abbrev s_is_table : Stmt := top 16
abbrev s_Window___init__ : Stmt := inCls (top 17) 0
abbrev s_longer_tails : Stmt := top 27
abbrev s_cell_number : Stmt := top 11
abbrev s_filtered : Stmt := top 18
abbrev s_resting_behind : Stmt := top 25
abbrev s_many_rest : Stmt := top 26
abbrev s_is_row : Stmt := top 9
abbrev s_check_row : Stmt := top 10
abbrev s_swept_row : Stmt := top 19
abbrev s_rests : Stmt := top 24
abbrev s_swept_till : Stmt := top 28
abbrev s_law_asked : Stmt := top 42
abbrev s_law_number : Stmt := top 34
abbrev s_law_count : Stmt := top 40
abbrev s_law_draw : Stmt := top 31
abbrev s_law_hand : Stmt := top 30
abbrev s_law_rows : Stmt := top 33
abbrev s_law_is_same : Stmt := top 43
abbrev s_law_radius : Stmt := top 36
abbrev s_law_row : Stmt := top 32
abbrev s_law_same : Stmt := top 39
abbrev s_law_filtered : Stmt := top 37
abbrev s_law_swept : Stmt := top 38
abbrev s_law_table : Stmt := top 35
abbrev s_law_till : Stmt := top 41
abbrev s_same : Stmt := top 20
abbrev s_law : Stmt := top 44
abbrev s_init_BadNumber : Stmt := inCls (top 3) 0
abbrev s_init_BadRow : Stmt := inCls (top 2) 0
abbrev s_init_BadWindow : Stmt := inCls (top 4) 0
def exT : ExT := fun a b => if a = "BadNumber" then (if b = "BadNumber" then some true else if b = "BadRow" then some false else if b = "LabelError" then some true else none) else if a = "BadRow" then (if b = "BadNumber" then some false else if b = "BadRow" then some true else if b = "LabelError" then some true else none) else if a = "BadWindow" then (if b = "BadNumber" then some false else if b = "BadRow" then some false else if b = "LabelError" then some true else none) else none
/-! ### what the defs say -/
noncomputable def B_is_integer : SSem := sRet (eAnd (eN oIsi (aCons (eVar 0) (aCons (eC (.ty "int")) (aNil)))) (eNot (eN oIsi (aCons (eVar 0) (aCons (eC (.ty "bool")) (aNil))))))
noncomputable def F_is_integer : Fn := mkFn 1 B_is_integer
noncomputable def B_is_between : SSem := sRet (eAnd (eCall F_is_integer (aCons (eVar 0) (aNil))) (eChain oLe oLe (eVar 1) (eVar 0) (eVar 2)))
noncomputable def F_is_between : Fn := mkFn 3 B_is_between
noncomputable def B_count_rows : SSem := sSeq (sAsg (eC (.int 1)) (gNm 1)) (sSeq (sFor (iRng rg1 (aCons (eVar 0) (aNil))) (gNm 2) (sAsg (e2 oMul (eC (.int 2)) (eVar 1)) (gNm 1))) (sRet (eVar 1)))
noncomputable def F_count_rows : Fn := mkFn 3 B_count_rows
noncomputable def B_is_items : SSem := sRet (eN oIsi (aCons (eVar 0) (aCons (eN oTup (aCons (eC (.ty "tuple")) (aCons (eC (.ty "list")) (aNil)))) (aNil))))
noncomputable def F_is_items : Fn := mkFn 1 B_is_items
noncomputable def B_span_of : SSem := sRet (e2 oAdd (e2 oMul (eC (.int 2)) (eVar 0)) (eC (.int 1)))
noncomputable def F_span_of : Fn := mkFn 1 B_span_of
noncomputable def B_is_table : SSem := sSeq (sIf (bOr (bNot (bOf (eCall F_is_items (aCons (eVar 0) (aNil))))) (bOf (e2 oNe (eN oLen (aCons (eVar 0) (aNil))) (eCall F_count_rows (aCons (eCall F_span_of (aCons (eVar 1) (aNil))) (aNil)))))) (sRet (eC (.bl false))) (sNil)) (sRet (eN oAll (aCons (eLc (iSeq (eVar 0)) (gNm 2) [2] (tTrue) (eCall F_is_between (aCons (eVar 2) (aCons (eC (.int 0)) (aCons (eC (.int 1)) (aNil)))))) (aNil))))
noncomputable def F_is_table : Fn := mkFn 3 B_is_table
noncomputable def B_Window___init__ : SSem := sSeq (sIf (bNot (bOf (eCall F_is_between (aCons (eVar 1) (aCons (eC (.int 0)) (aCons (eC (.int 3)) (aNil))))))) (sRaise "BadWindow" ["part"] (aCons (eC (.str "radius")) (aNil))) (sNil)) (sSeq (sIf (bNot (bOf (eCall F_is_table (aCons (eVar 2) (aCons (eVar 1) (aNil)))))) (sRaise "BadWindow" ["part"] (aCons (eC (.str "table")) (aNil))) (sNil)) (sSeq (sFldS ["Window"] "radius" (eVar 1) (eVar 0)) (sFldS ["Window"] "table" (eN oTuple (aCons (eVar 2) (aNil))) (eVar 0))))
noncomputable def F_Window___init__ : Fn := mkFn 3 B_Window___init__
noncomputable def B_longer_tails : SSem := sSeq (sAsg (eTDct0) (gNm 2)) (sSeq (sLockT 0 (sFor (iKeysT 0) (gNm 3) (sFor (iSeq (eVar 1)) (gNm 4) (sSeq (sAsg (eSl (e2 oAdd (eVar 3) (eN oTup (aCons (eVar 4) (aNil)))) (pYes (eC (.int 1))) (pNo)) (gNm 5)) (sSub uDctT (e2 oAdd (eTGet2 (eVar 2) (eVar 5) (eC (.int 0))) (e2 oTGet (eVar 0) (eVar 3))) (eVar 2) (eVar 5)))))) (sRet (eVar 2)))
noncomputable def F_longer_tails : Fn := mkFnC 6 B_longer_tails
noncomputable def B_cell_number : SSem := sSeq (sAsg (eC (.int 0)) (gNm 1)) (sSeq (sFor (iSeq (eVar 0)) (gNm 2) (sAsg (e2 oAdd (e2 oMul (eC (.int 2)) (eVar 1)) (eVar 2)) (gNm 1))) (sRet (eVar 1)))
noncomputable def F_cell_number : Fn := mkFn 3 B_cell_number
noncomputable def B_filtered : SSem := sSeq (sAsg (eCall F_span_of (aCons (eFld ["Window"] "radius" (eVar 0)) (aNil))) (gNm 2)) (sSeq (sAsg (eN oCell (aNil)) (gNm 3)) (sSeq (sFor (iRng rg1 (aCons (e2 oAdd (e2 oSub (eN oLen (aCons (eVar 1) (aNil))) (eVar 2)) (eC (.int 1))) (aNil))) (gNm 4) (sExp (eM isLst mAppend (eVar 3) (aCons (e2 oIx (eFld ["Window"] "table" (eVar 0)) (eCall F_cell_number (aCons (eSl (eVar 1) (pYes (eVar 4)) (pYes (e2 oAdd (eVar 4) (eVar 2)))) (aNil)))) (aNil))))) (sRet (eN oTuple (aCons (eVar 3) (aNil))))))
noncomputable def F_filtered : Fn := mkFn 5 B_filtered
noncomputable def B_resting_behind : SSem := sSeq (sAsg (eTDct0) (gNm 3)) (sSeq (sLockT 1 (sFor (iKeysT 1) (gNm 4) (sFor (iSeq (eVar 2)) (gNm 5) (sSeq (sAsg (e2 oAdd (eVar 4) (eN oTup (aCons (eVar 5) (aNil)))) (gNm 6)) (sIf (bOf (e2 oEq (e2 oIx (eCall F_filtered (aCons (eVar 0) (aCons (eVar 6) (aNil)))) (eC (.int 0))) (e2 oIx (eVar 6) (eFld ["Window"] "radius" (eVar 0))))) (sSub uDctT (e2 oAdd (eTGet2 (eVar 3) (eSl (eVar 6) (pYes (eC (.int 1))) (pNo)) (eC (.int 0))) (e2 oTGet (eVar 1) (eVar 4))) (eVar 3) (eSl (eVar 6) (pYes (eC (.int 1))) (pNo))) (sNil)))))) (sRet (eVar 3)))
noncomputable def F_resting_behind : Fn := mkFnC 7 B_resting_behind
noncomputable def B_many_rest : SSem := sSeq (sIf (bNot (bOf (eCall F_is_between (aCons (eVar 1) (aCons (eC (.int 0)) (aCons (eC (.int 200)) (aNil))))))) (sRaise "BadNumber" ["part"] (aCons (eC (.str "length")) (aNil))) (sNil)) (sSeq (sAsg (eFld ["Window"] "radius" (eVar 0)) (gNm 2)) (sSeq (sAsg (eTDct1 (e2 oMulX (eN oTup (aCons (eC (.int 0)) (aNil))) (e2 oMul (eC (.int 2)) (eVar 2))) (eC (.int 1))) (gNm 3)) (sSeq (sFor (iRng rg1 (aCons (e2 oAdd (eVar 1) (eVar 2)) (aNil))) (gNm 4) (sSeq (sAsg (eIf (bOf (e2 oLt (eVar 4) (eVar 1))) (eN oTup (aCons (eC (.int 0)) (aCons (eC (.int 1)) (aNil)))) (eN oTup (aCons (eC (.int 0)) (aNil)))) (gNm 5)) (sIf (bOf (e2 oLt (eVar 4) (eVar 2))) (sAsg (eCall F_longer_tails (aCons (eVar 3) (aCons (eVar 5) (aNil)))) (gNm 3)) (sAsg (eCall F_resting_behind (aCons (eVar 0) (aCons (eVar 3) (aCons (eVar 5) (aNil))))) (gNm 3))))) (sRet (eN oSumX (aCons (eLockT 3 (eLc (iKeysT 3) (gNm 6) [6] (tTrue) (e2 oTGet (eVar 3) (eVar 6)))) (aNil)))))))
noncomputable def F_many_rest : Fn := mkFn 7 B_many_rest
noncomputable def B_is_row : SSem := sRet (eAnd (eN oIsi (aCons (eVar 0) (aCons (eC (.ty "tuple")) (aNil)))) (eN oAll (aCons (eLc (iSeq (eVar 0)) (gNm 1) [1] (tTrue) (eCall F_is_between (aCons (eVar 1) (aCons (eC (.int 0)) (aCons (eC (.int 1)) (aNil)))))) (aNil))))
noncomputable def F_is_row : Fn := mkFn 2 B_is_row
noncomputable def B_check_row : SSem := sIf (bNot (bOf (eCall F_is_row (aCons (eVar 0) (aNil))))) (sRaise "BadRow" ["part"] (aCons (eVar 1) (aNil))) (sNil)
noncomputable def F_check_row : Fn := mkFn 2 B_check_row
noncomputable def B_swept_row : SSem := sSeq (sAsg (e2 oMulX (eN oTup (aCons (eC (.int 0)) (aNil))) (eFld ["Window"] "radius" (eVar 0))) (gNm 2)) (sRet (eCall F_filtered (aCons (eVar 0) (aCons (e2 oAdd (e2 oAdd (eVar 2) (eVar 1)) (eVar 2)) (aNil)))))
noncomputable def F_swept_row : Fn := mkFn 3 B_swept_row
noncomputable def B_rests : SSem := sSeq (sExp (eCall F_check_row (aCons (eVar 1) (aCons (eC (.str "row")) (aNil))))) (sRet (e2 oEq (eCall F_swept_row (aCons (eVar 0) (aCons (eVar 1) (aNil)))) (eVar 1)))
noncomputable def F_rests : Fn := mkFn 2 B_rests
noncomputable def B_swept_till : SSem := sSeq (sExp (eCall F_check_row (aCons (eVar 1) (aCons (eC (.str "row")) (aNil))))) (sSeq (sIf (bNot (bOf (eCall F_is_between (aCons (eVar 2) (aCons (eC (.int 0)) (aCons (eC (.int 200)) (aNil))))))) (sRaise "BadNumber" ["part"] (aCons (eC (.str "most")) (aNil))) (sNil)) (sSeq (sFor (iRng rg1 (aCons (eVar 2) (aNil))) (gNm 3) (sSeq (sAsg (eCall F_swept_row (aCons (eVar 0) (aCons (eVar 1) (aNil)))) (gNm 4)) (sSeq (sIf (bOf (e2 oEq (eVar 4) (eVar 1))) (sRet (eN oTup (aCons (eVar 3) (aCons (eVar 1) (aNil))))) (sNil)) (sAsg (eVar 4) (gNm 1))))) (sSeq (sIf (bOf (e2 oEq (eCall F_swept_row (aCons (eVar 0) (aCons (eVar 1) (aNil)))) (eVar 1))) (sRet (eN oTup (aCons (eVar 2) (aCons (eVar 1) (aNil))))) (sNil)) (sRet (eN oTup (aCons (e1 oNeg (eC (.int 1))) (aCons (eVar 1) (aNil))))))))
noncomputable def F_swept_till : Fn := mkFn 5 B_swept_till
noncomputable def B_law_asked : SSem := sSeq (sTry exT (sIf (bOf (e2 oEq (eVar 0) (eC (.int 0)))) (sAsg (eN oLst (aCons (eC (.str "told")) (aCons (eCall F_rests (aCons (eVar 1) (aCons (eVar 2) (aNil)))) (aNil)))) (gNm 5)) (sIf (bOf (e2 oEq (eVar 0) (eC (.int 1)))) (sAsg (eN oLst (aCons (eC (.str "told")) (aCons (eCall F_many_rest (aCons (eVar 1) (aCons (eVar 3) (aNil)))) (aNil)))) (gNm 5)) (sAsg (eN oLst (aCons (eC (.str "told")) (aCons (eCall F_swept_till (aCons (eVar 1) (aCons (eVar 2) (aCons (eVar 3) (aNil))))) (aNil)))) (gNm 5)))) [⟨"BadRow", some 4, fun x => sAsg (eN oLst (aCons (eC (.str "row")) (aCons (eXf x "BadRow" "part") (aNil)))) (gNm 5)⟩, ⟨"BadNumber", some 4, fun x => sAsg (eN oLst (aCons (eC (.str "number")) (aCons (eXf x "BadNumber" "part") (aNil)))) (gNm 5)⟩, ⟨"LabelError", none, fun x => sAsg (eN oLst (aCons (eC (.str "other")) (aNil))) (gNm 5)⟩]) (sRet (eVar 5))
noncomputable def F_law_asked : Fn := mkFn 6 B_law_asked
noncomputable def B_law_number : SSem := sSeq (sAsg (eC (.int 0)) (gNm 1)) (sSeq (sFor (iSeq (eVar 0)) (gNm 2) (sAsg (e2 oAdd (e2 oMul (eC (.int 2)) (eVar 1)) (eVar 2)) (gNm 1))) (sRet (eVar 1)))
noncomputable def F_law_number : Fn := mkFn 3 B_law_number
noncomputable def B_law_count : SSem := sSeq (sAsg (eTDct0) (gNm 3)) (sSeq (sSub uDctT (eC (.int 1)) (eVar 3) (eN oTuple (aCons (eLc (iRng rg1 (aCons (e2 oMul (eC (.int 2)) (eVar 0)) (aNil))) (gNm 4) [4] (tTrue) (eC (.int 0))) (aNil)))) (sSeq (sFor (iRng rg1 (aCons (e2 oAdd (eVar 2) (eVar 0)) (aNil))) (gNm 4) (sSeq (sAsg (eTDct0) (gNm 5)) (sSeq (sLockT 3 (sFor (iKeysT 3) (gNm 6) (sFor (iRng rg1 (aCons (e2 oAdd (eC (.int 1)) (eN oInt (aCons (e2 oLt (eVar 4) (eVar 2)) (aNil)))) (aNil))) (gNm 7) (sSeq (sAsg (e2 oAdd (eVar 6) (eN oTup (aCons (eVar 7) (aNil)))) (gNm 8)) (sIf (bOr (bOf (e2 oLt (eVar 4) (eVar 0))) (bOf (e2 oEq (e2 oIx (eVar 1) (eCall F_law_number (aCons (eVar 8) (aNil)))) (e2 oIx (eVar 8) (eVar 0))))) (sSub uDctT (e2 oAdd (eTGet2 (eVar 5) (eSl (eVar 8) (pYes (eC (.int 1))) (pNo)) (eC (.int 0))) (e2 oTGet (eVar 3) (eVar 6))) (eVar 5) (eSl (eVar 8) (pYes (eC (.int 1))) (pNo))) (sNil)))))) (sAsg (eVar 5) (gNm 3))))) (sRet (eN oSumX (aCons (eLockT 3 (eLc (iKeysT 3) (gNm 6) [6] (tTrue) (e2 oTGet (eVar 3) (eVar 6)))) (aNil))))))
noncomputable def F_law_count : Fn := mkFn 9 B_law_count
noncomputable def B_law_draw : SSem := sSeq (sSub uLst (e2 oAdd (e2 oIx (eVar 0) (eC (.int 3))) (eC (.int 1))) (eVar 0) (eC (.int 3))) (sSeq (sIf (bAnd (bOf (e2 oEq (e2 oIx (eVar 0) (eC (.int 2))) (eC (.int 0)))) (bOf (e2 oLt (e2 oIx (eVar 0) (eC (.int 1))) (eN oLen (aCons (e2 oIx (eVar 0) (eC (.int 0))) (aNil)))))) (sSeq (sAsg (e2 oIx (e2 oIx (eVar 0) (eC (.int 0))) (e2 oIx (eVar 0) (eC (.int 1)))) (gNm 3)) (sSeq (sSub uLst (e2 oAdd (e2 oIx (eVar 0) (eC (.int 1))) (eC (.int 1))) (eVar 0) (eC (.int 1))) (sIf (bOf (e2 oGe (eVar 3) (e2 oPow (eC (.int 10)) (eC (.int 18))))) (sSub uLst (eVar 3) (eVar 0) (eC (.int 2))) (sSub uLst (e2 oMod (eN oInt (aCons (e2 oAdd (e2 oAdd (e2 oMul (e2 oIx (eVar 0) (eC (.int 4))) (eC (.int 59))) (e2 oMul (eVar 3) (eC (.int 7877)))) (e2 oIx (eVar 0) (eC (.int 3)))) (aNil))) (eC (.int 2147483629))) (eVar 0) (eC (.int 4)))))) (sNil)) (sSeq (sIf (bOf (e2 oGt (e2 oIx (eVar 0) (eC (.int 2))) (eC (.int 0)))) (sSeq (sAsg (e2 oMod (eN oInt (aCons (e2 oIx (eVar 0) (eC (.int 2))) (aNil))) (eVar 1)) (gNm 4)) (sSeq (sSub uLst (e2 oDiv (e2 oIx (eVar 0) (eC (.int 2))) (eVar 1)) (eVar 0) (eC (.int 2))) (sRet (eVar 4)))) (sNil)) (sSeq (sAsg (e2 oMod (eN oInt (aCons (e2 oAdd (e2 oAdd (e2 oIx (eVar 0) (eC (.int 4))) (e2 oMul (e2 oIx (eVar 0) (eC (.int 3))) (eC (.int 104693)))) (eC (.int 11))) (aNil))) (eC (.int 2147483647))) (gNm 2)) (sSeq (sAsg (e2 oMod (eN oInt (aCons (e2 oMul (eVar 2) (e2 oAdd (e2 oDiv (eVar 2) (eC (.int 1031))) (eC (.int 69631)))) (aNil))) (eC (.int 2147483647))) (gNm 2)) (sSeq (sAsg (e2 oMod (eN oInt (aCons (e2 oMul (eVar 2) (e2 oAdd (e2 oDiv (eVar 2) (eC (.int 2039))) (eC (.int 40709)))) (aNil))) (eC (.int 2147483399))) (gNm 2)) (sRet (e2 oMod (eN oInt (aCons (e2 oDiv (eVar 2) (eC (.int 16))) (aNil))) (eVar 1))))))))
noncomputable def F_law_draw : Fn := mkFn 5 B_law_draw
noncomputable def B_law_hand : SSem := sSeq (sAsg (eC (.int 31)) (gNm 1)) (sSeq (sFor (iSeq (eSl (eVar 0) (pNo) (pYes (eC (.int 63))))) (gNm 2) (sAsg (e2 oMod (eN oInt (aCons (e2 oAdd (e2 oAdd (e2 oMul (eVar 1) (eC (.int 53))) (eVar 2)) (eC (.int 13))) (aNil))) (eC (.int 2147483629))) (gNm 1))) (sRet (eN oCell (aCons (eN oList (aCons (eSl (eVar 0) (pNo) (pYes (eC (.int 63)))) (aNil))) (aCons (eC (.int 0)) (aCons (eC (.int 0)) (aCons (eC (.int 0)) (aCons (eVar 1) (aNil)))))))))
noncomputable def F_law_hand : Fn := mkFnC 3 B_law_hand
noncomputable def B_law_rows : SSem := sSeq (sAsg (eN oLst (aCons (eN oTup (aNil)) (aNil))) (gNm 1)) (sSeq (sFor (iRng rg1 (aCons (eVar 0) (aNil))) (gNm 2) (sAsg (e2 oAdd (eLc (iSeq (eVar 1)) (gNm 3) [3] (tTrue) (e2 oAdd (eVar 3) (eN oTup (aCons (eC (.int 0)) (aNil))))) (eLc (iSeq (eVar 1)) (gNm 3) [3] (tTrue) (e2 oAdd (eVar 3) (eN oTup (aCons (eC (.int 1)) (aNil)))))) (gNm 1))) (sRet (eN oSort1 (aCons (eVar 1) (aNil)))))
noncomputable def F_law_rows : Fn := mkFn 4 B_law_rows
noncomputable def B_law_is_same : SSem := sRet (e2 oEq (eLc (iSeq (eVar 0)) (gNm 2) [2] (tTrue) (eN oInt (aCons (eVar 2) (aNil)))) (eLc (iSeq (eCall F_law_rows (aCons (e2 oAdd (e2 oMul (eC (.int 2)) (eVar 1)) (eC (.int 1))) (aNil)))) (gNm 3) [3] (tTrue) (e2 oIx (eVar 3) (eVar 1))))
noncomputable def F_law_is_same : Fn := mkFn 4 B_law_is_same
noncomputable def B_law_radius : SSem := sRet (e2 oIx (eN oLst (aCons (eC (.int 0)) (aCons (eC (.int 1)) (aCons (eC (.int 1)) (aCons (eC (.int 1)) (aCons (eC (.int 2)) (aCons (eC (.int 3)) (aNil)))))))) (eCall F_law_draw (aCons (eVar 0) (aCons (eC (.int 6)) (aNil)))))
noncomputable def F_law_radius : Fn := mkFn 1 B_law_radius
noncomputable def B_law_row : SSem := sRet (eN oTuple (aCons (eLc (iRng rg1 (aCons (eVar 1) (aNil))) (gNm 2) [2] (tTrue) (eCall F_law_draw (aCons (eVar 0) (aCons (eC (.int 2)) (aNil))))) (aNil)))
noncomputable def F_law_row : Fn := mkFn 3 B_law_row
noncomputable def B_law_same (R : Fn) : SSem := sSeq (sIf (bOf (eN oIsi (aCons (eVar 1) (aCons (eN oTup (aCons (eC (.ty "list")) (aCons (eC (.ty "tuple")) (aNil)))) (aNil))))) (sSeq (sIf (bOr (bOf (e2 oNe (eN oIsi (aCons (eVar 0) (aCons (eC (.ty "list")) (aNil)))) (eN oIsi (aCons (eVar 1) (aCons (eC (.ty "list")) (aNil)))))) (bNot (bOf (eN oIsi (aCons (eVar 0) (aCons (eN oTup (aCons (eC (.ty "list")) (aCons (eC (.ty "tuple")) (aNil)))) (aNil))))))) (sRet (eC (.bl false))) (sNil)) (sSeq (sIf (bOf (e2 oNe (eN oLen (aCons (eVar 0) (aNil))) (eN oLen (aCons (eVar 1) (aNil))))) (sRet (eC (.bl false))) (sNil)) (sRet (e2 oEq (eN oLen (aCons (eLc (iRng rg1 (aCons (eN oLen (aCons (eVar 1) (aNil))) (aNil))) (gNm 2) [2] (bNot (bOf (eCall (R) (aCons (e2 oIx (eVar 0) (eVar 2)) (aCons (e2 oIx (eVar 1) (eVar 2)) (aNil)))))) (eVar 2)) (aNil))) (eC (.int 0)))))) (sNil)) (sSeq (sIf (bOr (bOf (eN oIsi (aCons (eVar 1) (aCons (eN oTup (aCons (eC (.ty "bool")) (aCons (eC (.ty "str")) (aNil)))) (aNil))))) (bOf (e2 oIs (eVar 1) (eC .non)))) (sRet (eAnd (e2 oEq (eN oIsi (aCons (eVar 0) (aCons (eC (.ty "bool")) (aNil)))) (eN oIsi (aCons (eVar 1) (aCons (eC (.ty "bool")) (aNil))))) (e2 oEq (eVar 0) (eVar 1)))) (sNil)) (sRet (eAnd (eN oIsi (aCons (eVar 0) (aCons (eC (.ty "int")) (aNil)))) (eAnd (eNot (eN oIsi (aCons (eVar 0) (aCons (eC (.ty "bool")) (aNil))))) (e2 oEq (eVar 0) (eVar 1))))))
noncomputable def F_law_same : Nat → Fn
  | 0 => mkFn 3 (fun _ _ => .bad)
  | d + 1 => mkFn 3 (B_law_same (F_law_same d))
noncomputable def B_law_filtered : SSem := sSeq (sAsg (e2 oAdd (e2 oMul (eC (.int 2)) (eVar 0)) (eC (.int 1))) (gNm 3)) (sRet (eN oTuple (aCons (eLc (iRng rg1 (aCons (e2 oAdd (e2 oSub (eN oLen (aCons (eVar 2) (aNil))) (eVar 3)) (eC (.int 1))) (aNil))) (gNm 4) [4] (tTrue) (e2 oIx (eVar 1) (eCall F_law_number (aCons (eSl (eVar 2) (pYes (eVar 4)) (pYes (e2 oAdd (eVar 4) (eVar 3)))) (aNil))))) (aNil))))
noncomputable def F_law_filtered : Fn := mkFn 5 B_law_filtered
noncomputable def B_law_swept : SSem := sSeq (sAsg (eN oTuple (aCons (eLc (iRng rg1 (aCons (eVar 0) (aNil))) (gNm 4) [4] (tTrue) (eC (.int 0))) (aNil))) (gNm 3)) (sRet (eCall F_law_filtered (aCons (eVar 0) (aCons (eVar 1) (aCons (e2 oAdd (e2 oAdd (eVar 3) (eVar 2)) (eVar 3)) (aNil))))))
noncomputable def F_law_swept : Fn := mkFn 5 B_law_swept
noncomputable def B_law_table : SSem := sSeq (sAsg (eN oLen (aCons (eCall F_law_rows (aCons (e2 oAdd (e2 oMul (eC (.int 2)) (eVar 1)) (eC (.int 1))) (aNil))) (aNil))) (gNm 2)) (sSeq (sAsg (eCall F_law_draw (aCons (eVar 0) (aCons (eC (.int 5)) (aNil)))) (gNm 3)) (sSeq (sIf (bOf (e2 oEq (eVar 3) (eC (.int 0)))) (sRet (eLc (iSeq (eCall F_law_rows (aCons (e2 oAdd (e2 oMul (eC (.int 2)) (eVar 1)) (eC (.int 1))) (aNil)))) (gNm 7) [7] (tTrue) (eN oInt (aCons (e2 oGt (eN oSumX (aCons (eVar 7) (aNil))) (eVar 1)) (aNil))))) (sNil)) (sSeq (sIf (bOf (e2 oEq (eVar 3) (eC (.int 1)))) (sRet (eLc (iSeq (eCall F_law_rows (aCons (e2 oAdd (e2 oMul (eC (.int 2)) (eVar 1)) (eC (.int 1))) (aNil)))) (gNm 7) [7] (tTrue) (e2 oIx (eVar 7) (eVar 1)))) (sNil)) (sSeq (sAsg (eLc (iRng rg1 (aCons (eVar 2) (aNil))) (gNm 6) [6] (tTrue) (eCall F_law_draw (aCons (eVar 0) (aCons (eC (.int 2)) (aNil))))) (gNm 4)) (sSeq (sIf (bOf (e2 oEq (eVar 3) (eC (.int 2)))) (sSeq (sAsg (eLc (iRng rg1 (aCons (eC (.int 2)) (aNil))) (gNm 6) [6] (tTrue) (eCall F_law_draw (aCons (eVar 0) (aCons (eC (.int 2)) (aNil))))) (gNm 5)) (sRet (eLc (iSeq (eCall F_law_rows (aCons (e2 oAdd (e2 oMul (eC (.int 2)) (eVar 1)) (eC (.int 1))) (aNil)))) (gNm 7) [7] (tTrue) (e2 oIx (eVar 5) (e2 oIx (eVar 7) (eVar 1)))))) (sNil)) (sRet (eVar 4)))))))
noncomputable def F_law_table : Fn := mkFn 8 B_law_table
noncomputable def B_law_till : SSem := sSeq (sFor (iRng rg1 (aCons (e2 oAdd (eVar 3) (eC (.int 1))) (aNil))) (gNm 4) (sSeq (sAsg (eCall F_law_swept (aCons (eVar 0) (aCons (eVar 1) (aCons (eVar 2) (aNil))))) (gNm 5)) (sSeq (sIf (bOf (e2 oEq (eVar 5) (eVar 2))) (sRet (eN oTup (aCons (eVar 4) (aCons (eVar 2) (aNil))))) (sNil)) (sIf (bOf (e2 oLt (eVar 4) (eVar 3))) (sAsg (eVar 5) (gNm 2)) (sNil))))) (sRet (eN oTup (aCons (e1 oNeg (eC (.int 1))) (aCons (eVar 2) (aNil)))))
noncomputable def F_law_till : Fn := mkFn 6 B_law_till
noncomputable def B_same : SSem := sRet (eMake "Window" F_Window___init__ (aCons (eC (.int 0)) (aCons (eN oTup (aCons (eC (.int 0)) (aCons (eC (.int 1)) (aNil)))) (aNil))))
noncomputable def F_same : Fn := mkFn 0 B_same
noncomputable def B_law : SSem := sSeq (sAsg (eCall F_law_hand (aCons (eVar 0) (aNil))) (gNm 1)) (sSeq (sAsg (eCall F_law_radius (aCons (eVar 1) (aNil))) (gNm 2)) (sSeq (sAsg (eCall F_law_table (aCons (eVar 1) (aCons (eVar 2) (aNil)))) (gNm 3)) (sSeq (sAsg (eMake "Window" F_Window___init__ (aCons (eVar 2) (aCons (eVar 3) (aNil)))) (gNm 4)) (sSeq (sAsg (eCall F_law_row (aCons (eVar 1) (aCons (eCall F_law_draw (aCons (eVar 1) (aCons (eC (.int 13)) (aNil)))) (aNil)))) (gNm 5)) (sSeq (sIf (bNot (bOf (eCall (F_law_same 5) (aCons (eCall F_rests (aCons (eVar 4) (aCons (eVar 5) (aNil)))) (aCons (e2 oEq (eCall F_law_swept (aCons (eVar 2) (aCons (eVar 3) (aCons (eVar 5) (aNil))))) (eVar 5)) (aNil)))))) (sRet (eC (.bl false))) (sNil)) (sSeq (sAsg (eCall F_law_draw (aCons (eVar 1) (aCons (eC (.int 9)) (aNil)))) (gNm 6)) (sSeq (sAsg (eN oLen (aCons (eLc (iSeq (eCall F_law_rows (aCons (eVar 6) (aNil)))) (gNm 14) [14] (bOf (e2 oEq (eCall F_law_swept (aCons (eVar 2) (aCons (eVar 3) (aCons (eVar 14) (aNil))))) (eVar 14))) (eVar 14)) (aNil))) (gNm 7)) (sSeq (sIf (bNot (bOf (eCall (F_law_same 5) (aCons (eCall F_many_rest (aCons (eVar 4) (aCons (eVar 6) (aNil)))) (aCons (eVar 7) (aNil)))))) (sRet (eC (.bl false))) (sNil)) (sSeq (sAsg (e2 oAdd (eC (.int 9)) (eCall F_law_draw (aCons (eVar 1) (aCons (eC (.int 32)) (aNil))))) (gNm 6)) (sSeq (sIf (bNot (bOf (eCall (F_law_same 5) (aCons (eCall F_many_rest (aCons (eVar 4) (aCons (eVar 6) (aNil)))) (aCons (eCall F_law_count (aCons (eVar 2) (aCons (eVar 3) (aCons (eVar 6) (aNil))))) (aNil)))))) (sRet (eC (.bl false))) (sNil)) (sSeq (sAsg (eCall F_law_draw (aCons (eVar 1) (aCons (eC (.int 10)) (aNil)))) (gNm 8)) (sSeq (sIf (bOf (e2 oEq (eCall F_law_draw (aCons (eVar 1) (aCons (eC (.int 20)) (aNil)))) (eC (.int 0)))) (sSeq (sAsg (eC (.int 200)) (gNm 8)) (sSeq (sAsg (eC (.int 1)) (gNm 12)) (sSeq (sFor (iRng rg1 (aCons (eC (.int 200)) (aNil))) (gNm 9) (sAsg (e2 oMul (eVar 12) (eC (.int 2))) (gNm 12))) (sSeq (sIf (bOf (e2 oNe (eCall F_many_rest (aCons (eCall F_same aNil) (aCons (eC (.int 200)) (aNil)))) (eVar 12))) (sRet (eC (.bl false))) (sNil)) (sSeq (sAsg (eCall F_many_rest (aCons (eVar 4) (aCons (eC (.int 200)) (aNil)))) (gNm 13)) (sIf (bOr (bOf (e2 oLt (eVar 13) (eC (.int 0)))) (bOr (bOf (e2 oGt (eVar 13) (eVar 12))) (bOf (e2 oNe (e2 oEq (eVar 13) (eVar 12)) (eCall F_law_is_same (aCons (eVar 3) (aCons (eVar 2) (aNil)))))))) (sRet (eC (.bl false))) (sNil))))))) (sNil)) (sSeq (sFor (iRng rg1 (aCons (eC (.int 2)) (aNil))) (gNm 9) (sIf (bNot (bOf (eCall (F_law_same 5) (aCons (eCall F_swept_till (aCons (eVar 4) (aCons (eVar 5) (aCons (eVar 8) (aNil))))) (aCons (eCall F_law_till (aCons (eVar 2) (aCons (eVar 3) (aCons (eVar 5) (aCons (eVar 8) (aNil)))))) (aNil)))))) (sRet (eC (.bl false))) (sNil))) (sSeq (sAsg (e2 oIx (eN oLst (aCons (eC .non) (aCons (eC (.int 0)) (aCons (e2 oAdd (eN oList (aCons (eVar 5) (aNil))) (eN oLst (aCons (eC (.int 1)) (aNil)))) (aCons (eC (.str "01")) (aCons (eN oTup (aCons (eC (.int 2)) (aNil))) (aCons (eN oTup (aCons (eC (.bl true)) (aNil))) (aCons (eC (.dct [] [])) (aNil))))))))) (eCall F_law_draw (aCons (eVar 1) (aCons (eC (.int 7)) (aNil))))) (gNm 10)) (sSeq (sAsg (e2 oIx (eN oLst (aCons (e1 oNeg (eC (.int 1))) (aCons (eC (.int 201)) (aCons (eC .non) (aCons (eC (.bl true)) (aCons (eC (.str "1")) (aCons (eN oLst (aCons (eC (.int 1)) (aNil))) (aCons (eC (.dct [] [])) (aCons (e2 oPow (eC (.int 10)) (eC (.int 20))) (aNil)))))))))) (eCall F_law_draw (aCons (eVar 1) (aCons (eC (.int 8)) (aNil))))) (gNm 11)) (sSeq (sIf (bOr (bOf (e2 oNe (eCall F_law_asked (aCons (eC (.int 0)) (aCons (eVar 4) (aCons (eVar 10) (aCons (eC (.int 0)) (aNil)))))) (eN oLst (aCons (eC (.str "row")) (aCons (eC (.str "row")) (aNil)))))) (bOf (e2 oNe (eCall F_law_asked (aCons (eC (.int 2)) (aCons (eVar 4) (aCons (eVar 10) (aCons (eVar 11) (aNil)))))) (eN oLst (aCons (eC (.str "row")) (aCons (eC (.str "row")) (aNil))))))) (sRet (eC (.bl false))) (sNil)) (sRet (eAnd (e2 oEq (eCall F_law_asked (aCons (eC (.int 1)) (aCons (eVar 4) (aCons (eVar 5) (aCons (eVar 11) (aNil)))))) (eN oLst (aCons (eC (.str "number")) (aCons (eC (.str "length")) (aNil))))) (e2 oEq (eCall F_law_asked (aCons (eC (.int 2)) (aCons (eVar 4) (aCons (eVar 5) (aCons (eVar 11) (aNil)))))) (eN oLst (aCons (eC (.str "number")) (aCons (eC (.str "most")) (aNil)))))))))))))))))))))))
noncomputable def F_law : Fn := mkFn 15 B_law
structure Txt (P : Program) (w : World) (K : PySem.W.Frag) (mg : Str → Option Value) (base : Heap) (C_BadNumber : Addr) (C_LabelError : Addr) (C_BadRow : Addr) (C_BadWindow : Addr) (C_Window : Addr) : Prop where
  n_all : mg "all" = none
  n_bool : mg "bool" = none
  n_int : mg "int" = none
  n_isinstance : mg "isinstance" = none
  n_len : mg "len" = none
  n_list : mg "list" = none
  n_range : mg "range" = none
  n_sorted : mg "sorted" = none
  n_str : mg "str" = none
  n_sum : mg "sum" = none
  n_tuple : mg "tuple" = none
  c_MOST_LENGTH : ∃ t, mg "MOST_LENGTH" = some (.int 200 t)
  c_MOST_RADIUS : ∃ t, mg "MOST_RADIUS" = some (.int 3 t)
  c_MOST_SWEEPS : ∃ t, mg "MOST_SWEEPS" = some (.int 200 t)
  g_BadNumber : mg "BadNumber" = some (.ref C_BadNumber)
  g_LabelError : mg "LabelError" = some (.ref C_LabelError)
  g_BadRow : mg "BadRow" = some (.ref C_BadRow)
  g_BadWindow : mg "BadWindow" = some (.ref C_BadWindow)
  g_Window : mg "Window" = some (.ref C_Window)
  k_Window : ClsC K C_Window
  nf_Window_radius : PySem.W.findIn K (.ref C_Window) "radius" = some none
  nf_Window_table : PySem.W.findIn K (.ref C_Window) "table" = some none
  E_BadNumber : Exc1 P w K mg base "BadNumber" "part"
  E_BadRow : Exc1 P w K mg base "BadRow" "part"
  E_BadWindow : Exc1 P w K mg base "BadWindow" "part"
  xf_BadNumber : XfC K C_BadNumber
  xn_BadNumber_part : PySem.W.findIn K (.ref C_BadNumber) "part" = some none
  xf_BadRow : XfC K C_BadRow
  xn_BadRow_part : PySem.W.findIn K (.ref C_BadRow) "part" = some none
  ext : ExTOk K mg exT
section
variable {P : Program} {w : World} {K : PySem.W.Frag} {mg : Str → Option Value} {base : Heap} {C_BadNumber C_LabelError C_BadRow C_BadWindow C_Window : Addr}
theorem sc_is_integer : FnScope ["value"] ["value"] (defScope s_is_integer) := ⟨rfl, rfl, rfl, by decide +kernel, rfl, by decide +kernel, by decide +kernel⟩
theorem hb_is_integer (T : Txt P w K mg base C_BadNumber C_LabelError C_BadRow C_BadWindow C_Window) {qual : Str} {f : Addr} {cdv : Value} {A : Around} {outer : List Env} {s : Shared} {H : Hp} {E : XK} (C : Ctx (cxOf (L2.CX P w) P w K mg base ["value"] qual (defScope s_is_integer) f cdv A outer s H E) (Wish.of fun c d _ H => E c d H) 0) :
    BV (cxOf (L2.CX P w) P w K mg base ["value"] qual (defScope s_is_integer) f cdv A outer s H E) (Wish.of fun c d _ H => E c d H) (defBody s_is_integer) B_is_integer :=
  bv_one (sv_ret (ev_and (ev_callB cr_isi os_isi T.n_isinstance (av_cons (ev_var (i := 0)) (av_cons (ev_ty T.n_int) (av_nil)))) (ev_one (ev_not (ev_callB cr_isi os_isi T.n_isinstance (av_cons (ev_var (i := 0)) (av_cons (ev_ty T.n_bool) (av_nil))))))))
theorem I_is_integer (T : Txt P w K mg base C_BadNumber C_LabelError C_BadRow C_BadWindow C_Window) {qual : Str} {f : Addr} {fd : FuncData} (F : Fun K "is_integer" qual s_is_integer f fd) (hx : mg "is_integer" = some (.ref f)) (hB : Binds K fd ["value"] []) : FnIs P w K mg base "is_integer" 1 1 F_is_integer := fn_is lv_leave F hx hB sc_is_integer fun _ _ _ _ _ _ C => hb_is_integer T C
theorem sc_is_between : FnScope ["value", "low", "high"] ["value", "low", "high"] (defScope s_is_between) := ⟨rfl, rfl, rfl, by decide +kernel, rfl, by decide +kernel, by decide +kernel⟩
theorem hb_is_between (T : Txt P w K mg base C_BadNumber C_LabelError C_BadRow C_BadWindow C_Window) (I_is_integer : FnIs P w K mg base "is_integer" 1 1 F_is_integer) {qual : Str} {f : Addr} {cdv : Value} {A : Around} {outer : List Env} {s : Shared} {H : Hp} {E : XK} (C : Ctx (cxOf (L2.CX P w) P w K mg base ["value", "low", "high"] qual (defScope s_is_between) f cdv A outer s H E) (Wish.of fun c d _ H => E c d H) 1) :
    BV (cxOf (L2.CX P w) P w K mg base ["value", "low", "high"] qual (defScope s_is_between) f cdv A outer s H E) (Wish.of fun c d _ H => E c d H) (defBody s_is_between) B_is_between :=
  bv_one (sv_ret (ev_and (ev_callI I_is_integer C (by decide) (av_cons (ev_var (i := 0)) (av_nil)) (arN_cons (arN_nil))) (ev_one (ev_chain op_le op_le os_le os_le (ev_var (i := 1)) (ev_var (i := 0)) (ev_var (i := 2))))))
theorem I_is_between (T : Txt P w K mg base C_BadNumber C_LabelError C_BadRow C_BadWindow C_Window) (I_is_integer : FnIs P w K mg base "is_integer" 1 1 F_is_integer) {qual : Str} {f : Addr} {fd : FuncData} (F : Fun K "is_between" qual s_is_between f fd) (hx : mg "is_between" = some (.ref f)) (hB : Binds K fd ["value", "low", "high"] []) : FnIs P w K mg base "is_between" 2 3 F_is_between := fn_is lv_leave F hx hB sc_is_between fun _ _ _ _ _ _ C => hb_is_between T I_is_integer C
theorem sc_count_rows : FnScope ["width", "many", "_"] ["width"] (defScope s_count_rows) := ⟨rfl, rfl, rfl, by decide +kernel, rfl, by decide +kernel, by decide +kernel⟩
theorem hb_count_rows (T : Txt P w K mg base C_BadNumber C_LabelError C_BadRow C_BadWindow C_Window) {qual : Str} {f : Addr} {cdv : Value} {A : Around} {outer : List Env} {s : Shared} {H : Hp} {E : XK} (C : Ctx (cxOf (L2.CX P w) P w K mg base ["width", "many", "_"] qual (defScope s_count_rows) f cdv A outer s H E) (Wish.of fun c d _ H => E c d H) 0) :
    BV (cxOf (L2.CX P w) P w K mg base ["width", "many", "_"] qual (defScope s_count_rows) f cdv A outer s H E) (Wish.of fun c d _ H => E c d H) (defBody s_count_rows) B_count_rows :=
  bv_cons (sv_set (i := 1) C.nd (ev_int)) (bv_cons (sv_for C (iv_rng1 T.n_range (av_cons (ev_var (i := 0)) (av_nil))) (gv_nm (i := 2) C.nd) (bv_one (sv_set (i := 1) C.nd (ev_op or_mul os_mul (ev_int) (ev_var (i := 1)))))) (bv_one (sv_ret (ev_var (i := 1)))))
theorem I_count_rows (T : Txt P w K mg base C_BadNumber C_LabelError C_BadRow C_BadWindow C_Window) {qual : Str} {f : Addr} {fd : FuncData} (F : Fun K "count_rows" qual s_count_rows f fd) (hx : mg "count_rows" = some (.ref f)) (hB : Binds K fd ["width"] []) : FnIs P w K mg base "count_rows" 1 1 F_count_rows := fn_is lv_leave F hx hB sc_count_rows fun _ _ _ _ _ _ C => hb_count_rows T C
theorem sc_is_items : FnScope ["value"] ["value"] (defScope s_is_items) := ⟨rfl, rfl, rfl, by decide +kernel, rfl, by decide +kernel, by decide +kernel⟩
theorem hb_is_items (T : Txt P w K mg base C_BadNumber C_LabelError C_BadRow C_BadWindow C_Window) {qual : Str} {f : Addr} {cdv : Value} {A : Around} {outer : List Env} {s : Shared} {H : Hp} {E : XK} (C : Ctx (cxOf (L2.CX P w) P w K mg base ["value"] qual (defScope s_is_items) f cdv A outer s H E) (Wish.of fun c d _ H => E c d H) 0) :
    BV (cxOf (L2.CX P w) P w K mg base ["value"] qual (defScope s_is_items) f cdv A outer s H E) (Wish.of fun c d _ H => E c d H) (defBody s_is_items) B_is_items :=
  bv_one (sv_ret (ev_callB cr_isi os_isi T.n_isinstance (av_cons (ev_var (i := 0)) (av_cons (ev_tup (av_cons (ev_ty T.n_tuple) (av_cons (ev_ty T.n_list) (av_nil)))) (av_nil)))))
theorem I_is_items (T : Txt P w K mg base C_BadNumber C_LabelError C_BadRow C_BadWindow C_Window) {qual : Str} {f : Addr} {fd : FuncData} (F : Fun K "is_items" qual s_is_items f fd) (hx : mg "is_items" = some (.ref f)) (hB : Binds K fd ["value"] []) : FnIs P w K mg base "is_items" 1 1 F_is_items := fn_is lv_leave F hx hB sc_is_items fun _ _ _ _ _ _ C => hb_is_items T C
theorem sc_span_of : FnScope ["radius"] ["radius"] (defScope s_span_of) := ⟨rfl, rfl, rfl, by decide +kernel, rfl, by decide +kernel, by decide +kernel⟩
theorem hb_span_of (T : Txt P w K mg base C_BadNumber C_LabelError C_BadRow C_BadWindow C_Window) {qual : Str} {f : Addr} {cdv : Value} {A : Around} {outer : List Env} {s : Shared} {H : Hp} {E : XK} (C : Ctx (cxOf (L2.CX P w) P w K mg base ["radius"] qual (defScope s_span_of) f cdv A outer s H E) (Wish.of fun c d _ H => E c d H) 0) :
    BV (cxOf (L2.CX P w) P w K mg base ["radius"] qual (defScope s_span_of) f cdv A outer s H E) (Wish.of fun c d _ H => E c d H) (defBody s_span_of) B_span_of :=
  bv_one (sv_ret (ev_op or_add os_add (ev_op or_mul os_mul (ev_int) (ev_var (i := 0))) (ev_int)))
theorem I_span_of (T : Txt P w K mg base C_BadNumber C_LabelError C_BadRow C_BadWindow C_Window) {qual : Str} {f : Addr} {fd : FuncData} (F : Fun K "span_of" qual s_span_of f fd) (hx : mg "span_of" = some (.ref f)) (hB : Binds K fd ["radius"] []) : FnIs P w K mg base "span_of" 1 1 F_span_of := fn_is lv_leave F hx hB sc_span_of fun _ _ _ _ _ _ C => hb_span_of T C
theorem sc_is_table : FnScope ["value", "radius", "cell"] ["value", "radius"] (defScope s_is_table) := ⟨rfl, rfl, rfl, by decide +kernel, rfl, by decide +kernel, by decide +kernel⟩
theorem hb_is_table (T : Txt P w K mg base C_BadNumber C_LabelError C_BadRow C_BadWindow C_Window) (I_count_rows : FnIs P w K mg base "count_rows" 1 1 F_count_rows) (I_is_between : FnIs P w K mg base "is_between" 2 3 F_is_between) (I_is_items : FnIs P w K mg base "is_items" 1 1 F_is_items) (I_span_of : FnIs P w K mg base "span_of" 1 1 F_span_of) {qual : Str} {f : Addr} {cdv : Value} {A : Around} {outer : List Env} {s : Shared} {H : Hp} {E : XK} (C : Ctx (cxOf (L2.CX P w) P w K mg base ["value", "radius", "cell"] qual (defScope s_is_table) f cdv A outer s H E) (Wish.of fun c d _ H => E c d H) 2) :
    BV (cxOf (L2.CX P w) P w K mg base ["value", "radius", "cell"] qual (defScope s_is_table) f cdv A outer s H E) (Wish.of fun c d _ H => E c d H) (defBody s_is_table) B_is_table :=
  bv_cons (sv_if (tv_w (wv_or (tv_not (tv_val (ev_callI I_is_items C (by decide) (av_cons (ev_var (i := 0)) (av_nil)) (arN_cons (arN_nil))))) (wv_or1 (tv_cmp (op_neD C.room.units) os_ne (ev_callB cr_len os_len T.n_len (av_cons (ev_var (i := 0)) (av_nil))) (ev_callI I_count_rows C (by decide) (av_cons (ev_callI I_span_of C (by decide) (av_cons (ev_var (i := 1)) (av_nil)) (arN_cons (arN_nil))) (av_nil)) (arN_cons (arN_nil))) (nomark _))))) (bv_one (sv_ret (ev_bl))) (bv_nil)) (bv_one (sv_ret (ev_callB (cr_all C.calm) os_all T.n_all (av_cons (ev_lcG fin_lst (own := [("cell", 2)]) C.calm C.nd (iv_seq (ev_var (i := 0))) (by show blkC ["value", "radius", "cell"] (defScope s_is_table) _ _ = true; decide +kernel) (by decide) (fun _ h => nomatch h) (fun _ _ _ _ _ => gv_nm (i := 2) C.nd) (fun _ _ _ _ _ => tv_ifs0) (fun s H C1 cl fp => ev_blk C (fun C => ev_callI I_is_between C (by decide) (av_cons (ev_var (i := 2)) (av_cons (ev_int) (av_cons (ev_int) (av_nil)))) (arN_cons (arN_cons (arN_cons (arN_nil))))))) (av_nil)))))
theorem I_is_table (T : Txt P w K mg base C_BadNumber C_LabelError C_BadRow C_BadWindow C_Window) (I_count_rows : FnIs P w K mg base "count_rows" 1 1 F_count_rows) (I_is_between : FnIs P w K mg base "is_between" 2 3 F_is_between) (I_is_items : FnIs P w K mg base "is_items" 1 1 F_is_items) (I_span_of : FnIs P w K mg base "span_of" 1 1 F_span_of) {qual : Str} {f : Addr} {fd : FuncData} (F : Fun K "is_table" qual s_is_table f fd) (hx : mg "is_table" = some (.ref f)) (hB : Binds K fd ["value", "radius"] []) : FnIs P w K mg base "is_table" 3 2 F_is_table := fn_is lv_leave F hx hB sc_is_table fun _ _ _ _ _ _ C => hb_is_table T I_count_rows I_is_between I_is_items I_span_of C
theorem sc_Window___init__ : FnScope ["self", "radius", "table"] ["self", "radius", "table"] (defScope s_Window___init__) := ⟨rfl, rfl, rfl, by decide +kernel, rfl, by decide +kernel, by decide +kernel⟩
theorem hb_Window___init__ (T : Txt P w K mg base C_BadNumber C_LabelError C_BadRow C_BadWindow C_Window) (I_is_between : FnIs P w K mg base "is_between" 2 3 F_is_between) (I_is_table : FnIs P w K mg base "is_table" 3 2 F_is_table) {qual : Str} {f : Addr} {cdv : Value} {A : Around} {outer : List Env} {s : Shared} {H : Hp} {E : XK} (C : Ctx (cxOf (L2.CX P w) P w K mg base ["self", "radius", "table"] qual (defScope s_Window___init__) f cdv A outer s H E) (Wish.of fun c d _ H => E c d H) 3) :
    BV (cxOf (L2.CX P w) P w K mg base ["self", "radius", "table"] qual (defScope s_Window___init__) f cdv A outer s H E) (Wish.of fun c d _ H => E c d H) (defBody s_Window___init__) B_Window___init__ :=
  bv_cons (sv_if (tv_not (tv_val (ev_callI I_is_between C (by decide) (av_cons (ev_var (i := 1)) (av_cons (ev_int) (av_cons (ev_gI T.c_MOST_RADIUS) (av_nil)))) (arN_cons (arN_cons (arN_cons (arN_nil))))))) (bv_one (sv_raise1 C (by decide) T.E_BadWindow (av_cons (ev_str) (av_nil)))) (bv_nil)) (bv_cons (sv_if (tv_not (tv_val (ev_callI I_is_table C (by decide) (av_cons (ev_var (i := 2)) (av_cons (ev_var (i := 1)) (av_nil))) (arN_cons (arN_cons (arN_nil)))))) (bv_one (sv_raise1 C (by decide) T.E_BadWindow (av_cons (ev_str) (av_nil)))) (bv_nil)) (bv_cons (sv_fld (fldCons T.g_Window T.k_Window.cl T.nf_Window_radius fldNil) (ev_var (i := 1)) (ev_var (i := 0))) (bv_one (sv_fld (fldCons T.g_Window T.k_Window.cl T.nf_Window_table fldNil) (ev_callTy call_tuple_of os_tuple T.n_tuple (av_cons (ev_var (i := 2)) (av_nil))) (ev_var (i := 0))))))
theorem MK_Window (T : Txt P w K mg base C_BadNumber C_LabelError C_BadRow C_BadWindow C_Window) (I_is_between : FnIs P w K mg base "is_between" 2 3 F_is_between) (I_is_table : FnIs P w K mg base "is_table" 3 2 F_is_table) {f : Addr} {fd : FuncData} (F : Fun K "__init__" "Window.__init__" s_Window___init__ f fd) (M : Mk K C_Window f) (hB : Binds K fd ["self", "radius", "table"] []) : MkIs P w K mg base "Window" 4 2 F_Window___init__ := ⟨C_Window, f, fd, _, M, fn_okG lv_leave F sc_Window___init__ rfl rfl fun _ _ _ _ _ _ C => hb_Window___init__ T I_is_between I_is_table C, T.g_Window, hB⟩
theorem sc_longer_tails : FnScope ["counts", "cells", "found", "tail", "cell", "key"] ["counts", "cells"] (defScope s_longer_tails) := ⟨rfl, rfl, rfl, by decide +kernel, rfl, by decide +kernel, by decide +kernel⟩
theorem hb_longer_tails (T : Txt P w K mg base C_BadNumber C_LabelError C_BadRow C_BadWindow C_Window) {qual : Str} {f : Addr} {cdv : Value} {A : Around} {outer : List Env} {s : Shared} {H : Hp} {E : XK} (C : Ctx (cxOf (L2.CX P w) P w K mg base ["counts", "cells", "found", "tail", "cell", "key"] qual (defScope s_longer_tails) f cdv A outer s H E) (Wish.of fun c d _ H => E c d H) 0) :
    BV (cxOf (L2.CX P w) P w K mg base ["counts", "cells", "found", "tail", "cell", "key"] qual (defScope s_longer_tails) f cdv A outer s H E) (Wish.of fun c d _ H => E c d H) (defBody s_longer_tails) B_longer_tails :=
  bv_cons (sv_set (i := 2) C.nd (ev_tdct0)) (bv_cons (sv_lockT (sv_for C (iv_keysT (ev_var (i := 0))) (gv_nm (i := 3) C.nd) (bv_one (sv_for C (iv_seq (ev_var (i := 1))) (gv_nm (i := 4) C.nd) (bv_cons (sv_set (i := 5) C.nd (ev_sl (ev_op or_add os_add (ev_var (i := 3)) (ev_tup (av_cons (ev_var (i := 4)) (av_nil)))) (ov_yes (ev_int)) (ov_no))) (bv_one (sv_subT C (ev_op or_add os_add (ev_tget2 C (ev_var (i := 2)) (ev_var (i := 5)) (ev_int)) (ev_tget C (ev_var (i := 0)) (ev_var (i := 3)))) (ev_var (i := 2)) (ev_var (i := 5))))))))) (bv_one (sv_ret (ev_var (i := 2)))))
theorem I_longer_tails (T : Txt P w K mg base C_BadNumber C_LabelError C_BadRow C_BadWindow C_Window) {qual : Str} {f : Addr} {fd : FuncData} (F : Fun K "longer_tails" qual s_longer_tails f fd) (hx : mg "longer_tails" = some (.ref f)) (hB : Binds K fd ["counts", "cells"] []) : FnIs P w K mg base "longer_tails" 1 2 F_longer_tails := fn_is lv_leaveC F hx hB sc_longer_tails fun _ _ _ _ _ _ C => hb_longer_tails T C
theorem sc_cell_number : FnScope ["row", "number", "cell"] ["row"] (defScope s_cell_number) := ⟨rfl, rfl, rfl, by decide +kernel, rfl, by decide +kernel, by decide +kernel⟩
theorem hb_cell_number (T : Txt P w K mg base C_BadNumber C_LabelError C_BadRow C_BadWindow C_Window) {qual : Str} {f : Addr} {cdv : Value} {A : Around} {outer : List Env} {s : Shared} {H : Hp} {E : XK} (C : Ctx (cxOf (L2.CX P w) P w K mg base ["row", "number", "cell"] qual (defScope s_cell_number) f cdv A outer s H E) (Wish.of fun c d _ H => E c d H) 0) :
    BV (cxOf (L2.CX P w) P w K mg base ["row", "number", "cell"] qual (defScope s_cell_number) f cdv A outer s H E) (Wish.of fun c d _ H => E c d H) (defBody s_cell_number) B_cell_number :=
  bv_cons (sv_set (i := 1) C.nd (ev_int)) (bv_cons (sv_for C (iv_seq (ev_var (i := 0))) (gv_nm (i := 2) C.nd) (bv_one (sv_set (i := 1) C.nd (ev_op or_add os_add (ev_op or_mul os_mul (ev_int) (ev_var (i := 1))) (ev_var (i := 2)))))) (bv_one (sv_ret (ev_var (i := 1)))))
theorem I_cell_number (T : Txt P w K mg base C_BadNumber C_LabelError C_BadRow C_BadWindow C_Window) {qual : Str} {f : Addr} {fd : FuncData} (F : Fun K "cell_number" qual s_cell_number f fd) (hx : mg "cell_number" = some (.ref f)) (hB : Binds K fd ["row"] []) : FnIs P w K mg base "cell_number" 1 1 F_cell_number := fn_is lv_leave F hx hB sc_cell_number fun _ _ _ _ _ _ C => hb_cell_number T C
theorem sc_filtered : FnScope ["window", "cells", "span", "found", "at"] ["window", "cells"] (defScope s_filtered) := ⟨rfl, rfl, rfl, by decide +kernel, rfl, by decide +kernel, by decide +kernel⟩
theorem hb_filtered (T : Txt P w K mg base C_BadNumber C_LabelError C_BadRow C_BadWindow C_Window) (I_cell_number : FnIs P w K mg base "cell_number" 1 1 F_cell_number) (I_span_of : FnIs P w K mg base "span_of" 1 1 F_span_of) {qual : Str} {f : Addr} {cdv : Value} {A : Around} {outer : List Env} {s : Shared} {H : Hp} {E : XK} (C : Ctx (cxOf (L2.CX P w) P w K mg base ["window", "cells", "span", "found", "at"] qual (defScope s_filtered) f cdv A outer s H E) (Wish.of fun c d _ H => E c d H) 1) :
    BV (cxOf (L2.CX P w) P w K mg base ["window", "cells", "span", "found", "at"] qual (defScope s_filtered) f cdv A outer s H E) (Wish.of fun c d _ H => E c d H) (defBody s_filtered) B_filtered :=
  bv_cons (sv_set (i := 2) C.nd (ev_callI I_span_of C (by decide) (av_cons (ev_fld (fldCons T.g_Window T.k_Window.cl T.nf_Window_radius fldNil) (ev_var (i := 0))) (av_nil)) (arN_cons (arN_nil)))) (bv_cons (sv_set (i := 3) C.nd (ev_lstC (av_nil))) (bv_cons (sv_for C (iv_rng1 T.n_range (av_cons (ev_op or_add os_add (ev_op op_sub os_sub (ev_callB cr_len os_len T.n_len (av_cons (ev_var (i := 1)) (av_nil))) (ev_var (i := 2))) (ev_int)) (av_nil))) (gv_nm (i := 4) C.nd) (bv_one (sv_expr (ev_m PySem.F.plainAttrs_list PySem.F.slot_list_append PySem.F.type_list_append ty_lst mt_append os_append (ev_var (i := 3)) (av_cons (ev_ix ix_seq os_ix (ev_fld (fldCons T.g_Window T.k_Window.cl T.nf_Window_table fldNil) (ev_var (i := 0))) (ev_callI I_cell_number C (by decide) (av_cons (ev_sl (ev_var (i := 1)) (ov_yes (ev_var (i := 4))) (ov_yes (ev_op or_add os_add (ev_var (i := 4)) (ev_var (i := 2))))) (av_nil)) (arN_cons (arN_nil))) (fun _ _ => rfl)) (av_nil)))))) (bv_one (sv_ret (ev_callTy call_tuple_of os_tuple T.n_tuple (av_cons (ev_var (i := 3)) (av_nil)))))))
theorem I_filtered (T : Txt P w K mg base C_BadNumber C_LabelError C_BadRow C_BadWindow C_Window) (I_cell_number : FnIs P w K mg base "cell_number" 1 1 F_cell_number) (I_span_of : FnIs P w K mg base "span_of" 1 1 F_span_of) {qual : Str} {f : Addr} {fd : FuncData} (F : Fun K "filtered" qual s_filtered f fd) (hx : mg "filtered" = some (.ref f)) (hB : Binds K fd ["window", "cells"] []) : FnIs P w K mg base "filtered" 2 2 F_filtered := fn_is lv_leave F hx hB sc_filtered fun _ _ _ _ _ _ C => hb_filtered T I_cell_number I_span_of C
theorem sc_resting_behind : FnScope ["window", "counts", "cells", "found", "tail", "cell", "look"] ["window", "counts", "cells"] (defScope s_resting_behind) := ⟨rfl, rfl, rfl, by decide +kernel, rfl, by decide +kernel, by decide +kernel⟩
theorem hb_resting_behind (T : Txt P w K mg base C_BadNumber C_LabelError C_BadRow C_BadWindow C_Window) (I_filtered : FnIs P w K mg base "filtered" 2 2 F_filtered) {qual : Str} {f : Addr} {cdv : Value} {A : Around} {outer : List Env} {s : Shared} {H : Hp} {E : XK} (C : Ctx (cxOf (L2.CX P w) P w K mg base ["window", "counts", "cells", "found", "tail", "cell", "look"] qual (defScope s_resting_behind) f cdv A outer s H E) (Wish.of fun c d _ H => E c d H) 2) :
    BV (cxOf (L2.CX P w) P w K mg base ["window", "counts", "cells", "found", "tail", "cell", "look"] qual (defScope s_resting_behind) f cdv A outer s H E) (Wish.of fun c d _ H => E c d H) (defBody s_resting_behind) B_resting_behind :=
  bv_cons (sv_set (i := 3) C.nd (ev_tdct0)) (bv_cons (sv_lockT (sv_for C (iv_keysT (ev_var (i := 1))) (gv_nm (i := 4) C.nd) (bv_one (sv_for C (iv_seq (ev_var (i := 2))) (gv_nm (i := 5) C.nd) (bv_cons (sv_set (i := 6) C.nd (ev_op or_add os_add (ev_var (i := 4)) (ev_tup (av_cons (ev_var (i := 5)) (av_nil))))) (bv_one (sv_if (tv_cmp (op_eqD C.room.units) os_eq (ev_ix ix_seq os_ix (ev_callI I_filtered C (by decide) (av_cons (ev_var (i := 0)) (av_cons (ev_var (i := 6)) (av_nil))) (arN_cons (arN_cons (arN_nil)))) (ev_int) (fun _ _ => rfl)) (ev_ix ix_seq os_ix (ev_var (i := 6)) (ev_fld (fldCons T.g_Window T.k_Window.cl T.nf_Window_radius fldNil) (ev_var (i := 0))) (fun _ _ => rfl)) (nomark _)) (bv_one (sv_subT C (ev_op or_add os_add (ev_tget2 C (ev_var (i := 3)) (ev_sl (ev_var (i := 6)) (ov_yes (ev_int)) (ov_no)) (ev_int)) (ev_tget C (ev_var (i := 1)) (ev_var (i := 4)))) (ev_var (i := 3)) (ev_sl (ev_var (i := 6)) (ov_yes (ev_int)) (ov_no)))) (bv_nil)))))))) (bv_one (sv_ret (ev_var (i := 3)))))
theorem I_resting_behind (T : Txt P w K mg base C_BadNumber C_LabelError C_BadRow C_BadWindow C_Window) (I_filtered : FnIs P w K mg base "filtered" 2 2 F_filtered) {qual : Str} {f : Addr} {fd : FuncData} (F : Fun K "resting_behind" qual s_resting_behind f fd) (hx : mg "resting_behind" = some (.ref f)) (hB : Binds K fd ["window", "counts", "cells"] []) : FnIs P w K mg base "resting_behind" 3 3 F_resting_behind := fn_is lv_leaveC F hx hB sc_resting_behind fun _ _ _ _ _ _ C => hb_resting_behind T I_filtered C
theorem sc_many_rest : FnScope ["window", "length", "radius", "counts", "at", "cells", "tail"] ["window", "length"] (defScope s_many_rest) := ⟨rfl, rfl, rfl, by decide +kernel, rfl, by decide +kernel, by decide +kernel⟩
theorem hb_many_rest (T : Txt P w K mg base C_BadNumber C_LabelError C_BadRow C_BadWindow C_Window) (I_is_between : FnIs P w K mg base "is_between" 2 3 F_is_between) (I_longer_tails : FnIs P w K mg base "longer_tails" 1 2 F_longer_tails) (I_resting_behind : FnIs P w K mg base "resting_behind" 3 3 F_resting_behind) {qual : Str} {f : Addr} {cdv : Value} {A : Around} {outer : List Env} {s : Shared} {H : Hp} {E : XK} (C : Ctx (cxOf (L2.CX P w) P w K mg base ["window", "length", "radius", "counts", "at", "cells", "tail"] qual (defScope s_many_rest) f cdv A outer s H E) (Wish.of fun c d _ H => E c d H) 3) :
    BV (cxOf (L2.CX P w) P w K mg base ["window", "length", "radius", "counts", "at", "cells", "tail"] qual (defScope s_many_rest) f cdv A outer s H E) (Wish.of fun c d _ H => E c d H) (defBody s_many_rest) B_many_rest :=
  bv_cons (sv_if (tv_not (tv_val (ev_callI I_is_between C (by decide) (av_cons (ev_var (i := 1)) (av_cons (ev_int) (av_cons (ev_gI T.c_MOST_LENGTH) (av_nil)))) (arN_cons (arN_cons (arN_cons (arN_nil))))))) (bv_one (sv_raise1 C (by decide) T.E_BadNumber (av_cons (ev_str) (av_nil)))) (bv_nil)) (bv_cons (sv_set (i := 2) C.nd (ev_fld (fldCons T.g_Window T.k_Window.cl T.nf_Window_radius fldNil) (ev_var (i := 0)))) (bv_cons (sv_set (i := 3) C.nd (ev_tdct1 C (ev_op or_mulX os_mulX (ev_tup (av_cons (ev_int) (av_nil))) (ev_op or_mul os_mul (ev_int) (ev_var (i := 2)))) (ev_int))) (bv_cons (sv_for C (iv_rng1 T.n_range (av_cons (ev_op or_add os_add (ev_var (i := 1)) (ev_var (i := 2))) (av_nil))) (gv_nm (i := 4) C.nd) (bv_cons (sv_set (i := 5) C.nd (ev_if (tv_cmp or_lt os_lt (ev_var (i := 4)) (ev_var (i := 1)) (nomark _)) (ev_tup (av_cons (ev_int) (av_cons (ev_int) (av_nil)))) (ev_tup (av_cons (ev_int) (av_nil))))) (bv_one (sv_if (tv_cmp or_lt os_lt (ev_var (i := 4)) (ev_var (i := 2)) (nomark _)) (bv_one (sv_set (i := 3) C.nd (ev_callI I_longer_tails C (by decide) (av_cons (ev_var (i := 3)) (av_cons (ev_var (i := 5)) (av_nil))) (arN_cons (arN_cons (arN_nil)))))) (bv_one (sv_set (i := 3) C.nd (ev_callI I_resting_behind C (by decide) (av_cons (ev_var (i := 0)) (av_cons (ev_var (i := 3)) (av_cons (ev_var (i := 5)) (av_nil)))) (arN_cons (arN_cons (arN_cons (arN_nil))))))))))) (bv_one (sv_ret (ev_callB (cr_sumX C.calm) os_sumX T.n_sum (av_cons (ev_lockT (ev_lcG fin_lst (own := [("tail", 6)]) C.calm C.nd (iv_keysT (ev_var (i := 3))) (by show blkC ["window", "length", "radius", "counts", "at", "cells", "tail"] (defScope s_many_rest) _ _ = true; decide +kernel) (by decide) (fun _ h => nomatch h) (fun _ _ _ _ _ => gv_nm (i := 6) C.nd) (fun _ _ _ _ _ => tv_ifs0) (fun s H C1 cl fp => ev_blk C (fun C => ev_tget C (ev_var (i := 3)) (ev_var (i := 6)))))) (av_nil))))))))
theorem I_many_rest (T : Txt P w K mg base C_BadNumber C_LabelError C_BadRow C_BadWindow C_Window) (I_is_between : FnIs P w K mg base "is_between" 2 3 F_is_between) (I_longer_tails : FnIs P w K mg base "longer_tails" 1 2 F_longer_tails) (I_resting_behind : FnIs P w K mg base "resting_behind" 3 3 F_resting_behind) {qual : Str} {f : Addr} {fd : FuncData} (F : Fun K "many_rest" qual s_many_rest f fd) (hx : mg "many_rest" = some (.ref f)) (hB : Binds K fd ["window", "length"] []) : FnIs P w K mg base "many_rest" 4 2 F_many_rest := fn_is lv_leave F hx hB sc_many_rest fun _ _ _ _ _ _ C => hb_many_rest T I_is_between I_longer_tails I_resting_behind C
theorem sc_is_row : FnScope ["thing", "cell"] ["thing"] (defScope s_is_row) := ⟨rfl, rfl, rfl, by decide +kernel, rfl, by decide +kernel, by decide +kernel⟩
theorem hb_is_row (T : Txt P w K mg base C_BadNumber C_LabelError C_BadRow C_BadWindow C_Window) (I_is_between : FnIs P w K mg base "is_between" 2 3 F_is_between) {qual : Str} {f : Addr} {cdv : Value} {A : Around} {outer : List Env} {s : Shared} {H : Hp} {E : XK} (C : Ctx (cxOf (L2.CX P w) P w K mg base ["thing", "cell"] qual (defScope s_is_row) f cdv A outer s H E) (Wish.of fun c d _ H => E c d H) 2) :
    BV (cxOf (L2.CX P w) P w K mg base ["thing", "cell"] qual (defScope s_is_row) f cdv A outer s H E) (Wish.of fun c d _ H => E c d H) (defBody s_is_row) B_is_row :=
  bv_one (sv_ret (ev_and (ev_callB cr_isi os_isi T.n_isinstance (av_cons (ev_var (i := 0)) (av_cons (ev_ty T.n_tuple) (av_nil)))) (ev_one (ev_callB (cr_all C.calm) os_all T.n_all (av_cons (ev_lcG fin_lst (own := [("cell", 1)]) C.calm C.nd (iv_seq (ev_var (i := 0))) (by show blkC ["thing", "cell"] (defScope s_is_row) _ _ = true; decide +kernel) (by decide) (fun _ h => nomatch h) (fun _ _ _ _ _ => gv_nm (i := 1) C.nd) (fun _ _ _ _ _ => tv_ifs0) (fun s H C1 cl fp => ev_blk C (fun C => ev_callI I_is_between C (by decide) (av_cons (ev_var (i := 1)) (av_cons (ev_int) (av_cons (ev_int) (av_nil)))) (arN_cons (arN_cons (arN_cons (arN_nil))))))) (av_nil))))))
theorem I_is_row (T : Txt P w K mg base C_BadNumber C_LabelError C_BadRow C_BadWindow C_Window) (I_is_between : FnIs P w K mg base "is_between" 2 3 F_is_between) {qual : Str} {f : Addr} {fd : FuncData} (F : Fun K "is_row" qual s_is_row f fd) (hx : mg "is_row" = some (.ref f)) (hB : Binds K fd ["thing"] []) : FnIs P w K mg base "is_row" 3 1 F_is_row := fn_is lv_leave F hx hB sc_is_row fun _ _ _ _ _ _ C => hb_is_row T I_is_between C
theorem sc_check_row : FnScope ["row", "part"] ["row", "part"] (defScope s_check_row) := ⟨rfl, rfl, rfl, by decide +kernel, rfl, by decide +kernel, by decide +kernel⟩
theorem hb_check_row (T : Txt P w K mg base C_BadNumber C_LabelError C_BadRow C_BadWindow C_Window) (I_is_row : FnIs P w K mg base "is_row" 3 1 F_is_row) {qual : Str} {f : Addr} {cdv : Value} {A : Around} {outer : List Env} {s : Shared} {H : Hp} {E : XK} (C : Ctx (cxOf (L2.CX P w) P w K mg base ["row", "part"] qual (defScope s_check_row) f cdv A outer s H E) (Wish.of fun c d _ H => E c d H) 3) :
    BV (cxOf (L2.CX P w) P w K mg base ["row", "part"] qual (defScope s_check_row) f cdv A outer s H E) (Wish.of fun c d _ H => E c d H) (defBody s_check_row) B_check_row :=
  bv_one (sv_if (tv_not (tv_val (ev_callI I_is_row C (by decide) (av_cons (ev_var (i := 0)) (av_nil)) (arN_cons (arN_nil))))) (bv_one (sv_raise1 C (by decide) T.E_BadRow (av_cons (ev_var (i := 1)) (av_nil)))) (bv_nil))
theorem I_check_row (T : Txt P w K mg base C_BadNumber C_LabelError C_BadRow C_BadWindow C_Window) (I_is_row : FnIs P w K mg base "is_row" 3 1 F_is_row) {qual : Str} {f : Addr} {fd : FuncData} (F : Fun K "check_row" qual s_check_row f fd) (hx : mg "check_row" = some (.ref f)) (hB : Binds K fd ["row", "part"] []) : FnIs P w K mg base "check_row" 4 2 F_check_row := fn_is lv_leave F hx hB sc_check_row fun _ _ _ _ _ _ C => hb_check_row T I_is_row C
theorem sc_swept_row : FnScope ["window", "row", "light"] ["window", "row"] (defScope s_swept_row) := ⟨rfl, rfl, rfl, by decide +kernel, rfl, by decide +kernel, by decide +kernel⟩
theorem hb_swept_row (T : Txt P w K mg base C_BadNumber C_LabelError C_BadRow C_BadWindow C_Window) (I_filtered : FnIs P w K mg base "filtered" 2 2 F_filtered) {qual : Str} {f : Addr} {cdv : Value} {A : Around} {outer : List Env} {s : Shared} {H : Hp} {E : XK} (C : Ctx (cxOf (L2.CX P w) P w K mg base ["window", "row", "light"] qual (defScope s_swept_row) f cdv A outer s H E) (Wish.of fun c d _ H => E c d H) 2) :
    BV (cxOf (L2.CX P w) P w K mg base ["window", "row", "light"] qual (defScope s_swept_row) f cdv A outer s H E) (Wish.of fun c d _ H => E c d H) (defBody s_swept_row) B_swept_row :=
  bv_cons (sv_set (i := 2) C.nd (ev_op or_mulX os_mulX (ev_tup (av_cons (ev_int) (av_nil))) (ev_fld (fldCons T.g_Window T.k_Window.cl T.nf_Window_radius fldNil) (ev_var (i := 0))))) (bv_one (sv_ret (ev_callI I_filtered C (by decide) (av_cons (ev_var (i := 0)) (av_cons (ev_op or_add os_add (ev_op or_add os_add (ev_var (i := 2)) (ev_var (i := 1))) (ev_var (i := 2))) (av_nil))) (arN_cons (arN_cons (arN_nil))))))
theorem I_swept_row (T : Txt P w K mg base C_BadNumber C_LabelError C_BadRow C_BadWindow C_Window) (I_filtered : FnIs P w K mg base "filtered" 2 2 F_filtered) {qual : Str} {f : Addr} {fd : FuncData} (F : Fun K "swept_row" qual s_swept_row f fd) (hx : mg "swept_row" = some (.ref f)) (hB : Binds K fd ["window", "row"] []) : FnIs P w K mg base "swept_row" 3 2 F_swept_row := fn_is lv_leave F hx hB sc_swept_row fun _ _ _ _ _ _ C => hb_swept_row T I_filtered C
theorem sc_rests : FnScope ["window", "row"] ["window", "row"] (defScope s_rests) := ⟨rfl, rfl, rfl, by decide +kernel, rfl, by decide +kernel, by decide +kernel⟩
theorem hb_rests (T : Txt P w K mg base C_BadNumber C_LabelError C_BadRow C_BadWindow C_Window) (I_check_row : FnIs P w K mg base "check_row" 4 2 F_check_row) (I_swept_row : FnIs P w K mg base "swept_row" 3 2 F_swept_row) {qual : Str} {f : Addr} {cdv : Value} {A : Around} {outer : List Env} {s : Shared} {H : Hp} {E : XK} (C : Ctx (cxOf (L2.CX P w) P w K mg base ["window", "row"] qual (defScope s_rests) f cdv A outer s H E) (Wish.of fun c d _ H => E c d H) 4) :
    BV (cxOf (L2.CX P w) P w K mg base ["window", "row"] qual (defScope s_rests) f cdv A outer s H E) (Wish.of fun c d _ H => E c d H) (defBody s_rests) B_rests :=
  bv_cons (sv_expr (ev_callI I_check_row C (by decide) (av_cons (ev_var (i := 1)) (av_cons (ev_str) (av_nil))) (arN_cons (arN_cons (arN_nil))))) (bv_one (sv_ret (ev_cmp (op_eqD C.room.units) os_eq (ev_callI I_swept_row C (by decide) (av_cons (ev_var (i := 0)) (av_cons (ev_var (i := 1)) (av_nil))) (arN_cons (arN_cons (arN_nil)))) (ev_var (i := 1)) (nomark _))))
theorem I_rests (T : Txt P w K mg base C_BadNumber C_LabelError C_BadRow C_BadWindow C_Window) (I_check_row : FnIs P w K mg base "check_row" 4 2 F_check_row) (I_swept_row : FnIs P w K mg base "swept_row" 3 2 F_swept_row) {qual : Str} {f : Addr} {fd : FuncData} (F : Fun K "rests" qual s_rests f fd) (hx : mg "rests" = some (.ref f)) (hB : Binds K fd ["window", "row"] []) : FnIs P w K mg base "rests" 5 2 F_rests := fn_is lv_leave F hx hB sc_rests fun _ _ _ _ _ _ C => hb_rests T I_check_row I_swept_row C
theorem sc_swept_till : FnScope ["window", "row", "most", "number", "behind"] ["window", "row", "most"] (defScope s_swept_till) := ⟨rfl, rfl, rfl, by decide +kernel, rfl, by decide +kernel, by decide +kernel⟩
theorem hb_swept_till (T : Txt P w K mg base C_BadNumber C_LabelError C_BadRow C_BadWindow C_Window) (I_check_row : FnIs P w K mg base "check_row" 4 2 F_check_row) (I_is_between : FnIs P w K mg base "is_between" 2 3 F_is_between) (I_swept_row : FnIs P w K mg base "swept_row" 3 2 F_swept_row) {qual : Str} {f : Addr} {cdv : Value} {A : Around} {outer : List Env} {s : Shared} {H : Hp} {E : XK} (C : Ctx (cxOf (L2.CX P w) P w K mg base ["window", "row", "most", "number", "behind"] qual (defScope s_swept_till) f cdv A outer s H E) (Wish.of fun c d _ H => E c d H) 4) :
    BV (cxOf (L2.CX P w) P w K mg base ["window", "row", "most", "number", "behind"] qual (defScope s_swept_till) f cdv A outer s H E) (Wish.of fun c d _ H => E c d H) (defBody s_swept_till) B_swept_till :=
  bv_cons (sv_expr (ev_callI I_check_row C (by decide) (av_cons (ev_var (i := 1)) (av_cons (ev_str) (av_nil))) (arN_cons (arN_cons (arN_nil))))) (bv_cons (sv_if (tv_not (tv_val (ev_callI I_is_between C (by decide) (av_cons (ev_var (i := 2)) (av_cons (ev_int) (av_cons (ev_gI T.c_MOST_SWEEPS) (av_nil)))) (arN_cons (arN_cons (arN_cons (arN_nil))))))) (bv_one (sv_raise1 C (by decide) T.E_BadNumber (av_cons (ev_str) (av_nil)))) (bv_nil)) (bv_cons (sv_for C (iv_rng1 T.n_range (av_cons (ev_var (i := 2)) (av_nil))) (gv_nm (i := 3) C.nd) (bv_cons (sv_set (i := 4) C.nd (ev_callI I_swept_row C (by decide) (av_cons (ev_var (i := 0)) (av_cons (ev_var (i := 1)) (av_nil))) (arN_cons (arN_cons (arN_nil))))) (bv_cons (sv_if (tv_cmp (op_eqD C.room.units) os_eq (ev_var (i := 4)) (ev_var (i := 1)) (nomark _)) (bv_one (sv_ret (ev_tup (av_cons (ev_var (i := 3)) (av_cons (ev_var (i := 1)) (av_nil)))))) (bv_nil)) (bv_one (sv_set (i := 1) C.nd (ev_var (i := 4))))))) (bv_cons (sv_if (tv_cmp (op_eqD C.room.units) os_eq (ev_callI I_swept_row C (by decide) (av_cons (ev_var (i := 0)) (av_cons (ev_var (i := 1)) (av_nil))) (arN_cons (arN_cons (arN_nil)))) (ev_var (i := 1)) (nomark _)) (bv_one (sv_ret (ev_tup (av_cons (ev_var (i := 2)) (av_cons (ev_var (i := 1)) (av_nil)))))) (bv_nil)) (bv_one (sv_ret (ev_tup (av_cons (ev_un un_neg os_neg (ev_int)) (av_cons (ev_var (i := 1)) (av_nil)))))))))
theorem I_swept_till (T : Txt P w K mg base C_BadNumber C_LabelError C_BadRow C_BadWindow C_Window) (I_check_row : FnIs P w K mg base "check_row" 4 2 F_check_row) (I_is_between : FnIs P w K mg base "is_between" 2 3 F_is_between) (I_swept_row : FnIs P w K mg base "swept_row" 3 2 F_swept_row) {qual : Str} {f : Addr} {fd : FuncData} (F : Fun K "swept_till" qual s_swept_till f fd) (hx : mg "swept_till" = some (.ref f)) (hB : Binds K fd ["window", "row", "most"] []) : FnIs P w K mg base "swept_till" 5 3 F_swept_till := fn_is lv_leave F hx hB sc_swept_till fun _ _ _ _ _ _ C => hb_swept_till T I_check_row I_is_between I_swept_row C
theorem sc_law_asked : FnScope ["_law_which", "_law_window", "_law_row_here", "_law_many", "e", "_law_told"] ["_law_which", "_law_window", "_law_row_here", "_law_many"] (defScope s_law_asked) := ⟨rfl, rfl, rfl, by decide +kernel, rfl, by decide +kernel, by decide +kernel⟩
theorem hb_law_asked (T : Txt P w K mg base C_BadNumber C_LabelError C_BadRow C_BadWindow C_Window) (I_many_rest : FnIs P w K mg base "many_rest" 4 2 F_many_rest) (I_rests : FnIs P w K mg base "rests" 5 2 F_rests) (I_swept_till : FnIs P w K mg base "swept_till" 5 3 F_swept_till) {qual : Str} {f : Addr} {cdv : Value} {A : Around} {outer : List Env} {s : Shared} {H : Hp} {E : XK} (C : Ctx (cxOf (L2.CX P w) P w K mg base ["_law_which", "_law_window", "_law_row_here", "_law_many", "e", "_law_told"] qual (defScope s_law_asked) f cdv A outer s H E) (Wish.of fun c d _ H => E c d H) 5) :
    BV (cxOf (L2.CX P w) P w K mg base ["_law_which", "_law_window", "_law_row_here", "_law_many", "e", "_law_told"] qual (defScope s_law_asked) f cdv A outer s H E) (Wish.of fun c d _ H => E c d H) (defBody s_law_asked) B_law_asked :=
  bv_cons (sv_try C T.ext rfl rfl (fun W pl xe C => bv_one (sv_if (tv_cmp (op_eqD C.room.units) os_eq (ev_var (i := 0)) (ev_int) (nomark _)) (bv_one (sv_set (i := 5) C.nd (ev_lst (av_cons (ev_str) (av_cons (ev_callI I_rests C (by decide) (av_cons (ev_var (i := 1)) (av_cons (ev_var (i := 2)) (av_nil))) (arN_cons (arN_cons (arN_nil)))) (av_nil)))))) (bv_one (sv_if (tv_cmp (op_eqD C.room.units) os_eq (ev_var (i := 0)) (ev_int) (nomark _)) (bv_one (sv_set (i := 5) C.nd (ev_lst (av_cons (ev_str) (av_cons (ev_callI I_many_rest C (by decide) (av_cons (ev_var (i := 1)) (av_cons (ev_var (i := 3)) (av_nil))) (arN_cons (arN_cons (arN_nil)))) (av_nil)))))) (bv_one (sv_set (i := 5) C.nd (ev_lst (av_cons (ev_str) (av_cons (ev_callI I_swept_till C (by decide) (av_cons (ev_var (i := 1)) (av_cons (ev_var (i := 2)) (av_cons (ev_var (i := 3)) (av_nil)))) (arN_cons (arN_cons (arN_cons (arN_nil))))) (av_nil)))))))))) (.as (i := 4) rfl (by decide) T.g_BadRow rfl rfl List.not_mem_nil (fun a ob cls d pl x hz hf => bv_one (sv_set (i := 5) C.nd (ev_lst (av_cons (ev_str) (av_cons (ev_xf (i := 4) T.xf_BadRow T.g_BadRow T.xn_BadRow_part hz hf rfl (Or.inl rfl)) (av_nil)))) (hk := lkS (by decide) List.not_mem_nil))) (.as (i := 4) rfl (by decide) T.g_BadNumber rfl rfl List.not_mem_nil (fun a ob cls d pl x hz hf => bv_one (sv_set (i := 5) C.nd (ev_lst (av_cons (ev_str) (av_cons (ev_xf (i := 4) T.xf_BadNumber T.g_BadNumber T.xn_BadNumber_part hz hf rfl (Or.inl rfl)) (av_nil)))) (hk := lkS (by decide) List.not_mem_nil))) (.one rfl (by decide) T.g_LabelError (fun a ob cls d pl x hz hf => bv_one (sv_set (i := 5) C.nd (ev_lst (av_cons (ev_str) (av_nil))) (hk := lkN List.not_mem_nil))) (.nil))))) (bv_one (sv_ret (ev_var (i := 5))))
theorem I_law_asked (T : Txt P w K mg base C_BadNumber C_LabelError C_BadRow C_BadWindow C_Window) (I_many_rest : FnIs P w K mg base "many_rest" 4 2 F_many_rest) (I_rests : FnIs P w K mg base "rests" 5 2 F_rests) (I_swept_till : FnIs P w K mg base "swept_till" 5 3 F_swept_till) {qual : Str} {f : Addr} {fd : FuncData} (F : Fun K "_law_asked" qual s_law_asked f fd) (hx : mg "_law_asked" = some (.ref f)) (hB : Binds K fd ["_law_which", "_law_window", "_law_row_here", "_law_many"] []) : FnIs P w K mg base "_law_asked" 6 4 F_law_asked := fn_is lv_leave F hx hB sc_law_asked fun _ _ _ _ _ _ C => hb_law_asked T I_many_rest I_rests I_swept_till C
theorem sc_law_number : FnScope ["_law_row_here", "_law_number_here", "_law_item"] ["_law_row_here"] (defScope s_law_number) := ⟨rfl, rfl, rfl, by decide +kernel, rfl, by decide +kernel, by decide +kernel⟩
theorem hb_law_number (T : Txt P w K mg base C_BadNumber C_LabelError C_BadRow C_BadWindow C_Window) {qual : Str} {f : Addr} {cdv : Value} {A : Around} {outer : List Env} {s : Shared} {H : Hp} {E : XK} (C : Ctx (cxOf (L2.CX P w) P w K mg base ["_law_row_here", "_law_number_here", "_law_item"] qual (defScope s_law_number) f cdv A outer s H E) (Wish.of fun c d _ H => E c d H) 0) :
    BV (cxOf (L2.CX P w) P w K mg base ["_law_row_here", "_law_number_here", "_law_item"] qual (defScope s_law_number) f cdv A outer s H E) (Wish.of fun c d _ H => E c d H) (defBody s_law_number) B_law_number :=
  bv_cons (sv_set (i := 1) C.nd (ev_int)) (bv_cons (sv_for C (iv_seq (ev_var (i := 0))) (gv_nm (i := 2) C.nd) (bv_one (sv_set (i := 1) C.nd (ev_op or_add os_add (ev_op or_mul os_mul (ev_int) (ev_var (i := 1))) (ev_var (i := 2)))))) (bv_one (sv_ret (ev_var (i := 1)))))
theorem I_law_number (T : Txt P w K mg base C_BadNumber C_LabelError C_BadRow C_BadWindow C_Window) {qual : Str} {f : Addr} {fd : FuncData} (F : Fun K "_law_number" qual s_law_number f fd) (hx : mg "_law_number" = some (.ref f)) (hB : Binds K fd ["_law_row_here"] []) : FnIs P w K mg base "_law_number" 1 1 F_law_number := fn_is lv_leave F hx hB sc_law_number fun _ _ _ _ _ _ C => hb_law_number T C
theorem sc_law_count : FnScope ["_law_radius_here", "_law_table_here", "_law_length", "_law_counts", "_law_at", "_law_longer", "_law_tail", "_law_item", "_law_look"] ["_law_radius_here", "_law_table_here", "_law_length"] (defScope s_law_count) := ⟨rfl, rfl, rfl, by decide +kernel, rfl, by decide +kernel, by decide +kernel⟩
theorem hb_law_count (T : Txt P w K mg base C_BadNumber C_LabelError C_BadRow C_BadWindow C_Window) (I_law_number : FnIs P w K mg base "_law_number" 1 1 F_law_number) {qual : Str} {f : Addr} {cdv : Value} {A : Around} {outer : List Env} {s : Shared} {H : Hp} {E : XK} (C : Ctx (cxOf (L2.CX P w) P w K mg base ["_law_radius_here", "_law_table_here", "_law_length", "_law_counts", "_law_at", "_law_longer", "_law_tail", "_law_item", "_law_look"] qual (defScope s_law_count) f cdv A outer s H E) (Wish.of fun c d _ H => E c d H) 1) :
    BV (cxOf (L2.CX P w) P w K mg base ["_law_radius_here", "_law_table_here", "_law_length", "_law_counts", "_law_at", "_law_longer", "_law_tail", "_law_item", "_law_look"] qual (defScope s_law_count) f cdv A outer s H E) (Wish.of fun c d _ H => E c d H) (defBody s_law_count) B_law_count :=
  bv_cons (sv_set (i := 3) C.nd (ev_tdct0)) (bv_cons (sv_subT C (ev_int) (ev_var (i := 3)) (ev_callTy call_tuple_of os_tuple T.n_tuple (av_cons (ev_lcG fin_lst (own := [("_law_at", 4)]) C.calm C.nd (iv_rng1 T.n_range (av_cons (ev_op or_mul os_mul (ev_int) (ev_var (i := 0))) (av_nil))) (by show blkC ["_law_radius_here", "_law_table_here", "_law_length", "_law_counts", "_law_at", "_law_longer", "_law_tail", "_law_item", "_law_look"] (defScope s_law_count) _ _ = true; decide +kernel) (by decide) (fun _ h => nomatch h) (fun _ _ _ _ _ => gv_nm (i := 4) C.nd) (fun _ _ _ _ _ => tv_ifs0) (fun s H C1 cl fp => ev_blk C (fun C => ev_int))) (av_nil)))) (bv_cons (sv_for C (iv_rng1 T.n_range (av_cons (ev_op or_add os_add (ev_var (i := 2)) (ev_var (i := 0))) (av_nil))) (gv_nm (i := 4) C.nd) (bv_cons (sv_set (i := 5) C.nd (ev_tdct0)) (bv_cons (sv_lockT (sv_for C (iv_keysT (ev_var (i := 3))) (gv_nm (i := 6) C.nd) (bv_one (sv_for C (iv_rng1 T.n_range (av_cons (ev_op or_add os_add (ev_int) (ev_callTy call_int1 os_int T.n_int (av_cons (ev_cmp or_lt os_lt (ev_var (i := 4)) (ev_var (i := 2)) (nomark _)) (av_nil)))) (av_nil))) (gv_nm (i := 7) C.nd) (bv_cons (sv_set (i := 8) C.nd (ev_op or_add os_add (ev_var (i := 6)) (ev_tup (av_cons (ev_var (i := 7)) (av_nil))))) (bv_one (sv_if (tv_w (wv_or (tv_cmp or_lt os_lt (ev_var (i := 4)) (ev_var (i := 0)) (nomark _)) (wv_or1 (tv_cmp (op_eqD C.room.units) os_eq (ev_ix ix_seq os_ix (ev_var (i := 1)) (ev_callI I_law_number C (by decide) (av_cons (ev_var (i := 8)) (av_nil)) (arN_cons (arN_nil))) (fun _ _ => rfl)) (ev_ix ix_seq os_ix (ev_var (i := 8)) (ev_var (i := 0)) (fun _ _ => rfl)) (nomark _))))) (bv_one (sv_subT C (ev_op or_add os_add (ev_tget2 C (ev_var (i := 5)) (ev_sl (ev_var (i := 8)) (ov_yes (ev_int)) (ov_no)) (ev_int)) (ev_tget C (ev_var (i := 3)) (ev_var (i := 6)))) (ev_var (i := 5)) (ev_sl (ev_var (i := 8)) (ov_yes (ev_int)) (ov_no)))) (bv_nil)))))))) (bv_one (sv_set (i := 3) C.nd (ev_var (i := 5))))))) (bv_one (sv_ret (ev_callB (cr_sumX C.calm) os_sumX T.n_sum (av_cons (ev_lockT (ev_lcG fin_lst (own := [("_law_tail", 6)]) C.calm C.nd (iv_keysT (ev_var (i := 3))) (by show blkC ["_law_radius_here", "_law_table_here", "_law_length", "_law_counts", "_law_at", "_law_longer", "_law_tail", "_law_item", "_law_look"] (defScope s_law_count) _ _ = true; decide +kernel) (by decide) (fun _ h => nomatch h) (fun _ _ _ _ _ => gv_nm (i := 6) C.nd) (fun _ _ _ _ _ => tv_ifs0) (fun s H C1 cl fp => ev_blk C (fun C => ev_tget C (ev_var (i := 3)) (ev_var (i := 6)))))) (av_nil)))))))
theorem I_law_count (T : Txt P w K mg base C_BadNumber C_LabelError C_BadRow C_BadWindow C_Window) (I_law_number : FnIs P w K mg base "_law_number" 1 1 F_law_number) {qual : Str} {f : Addr} {fd : FuncData} (F : Fun K "_law_count" qual s_law_count f fd) (hx : mg "_law_count" = some (.ref f)) (hB : Binds K fd ["_law_radius_here", "_law_table_here", "_law_length"] []) : FnIs P w K mg base "_law_count" 2 3 F_law_count := fn_is lv_leave F hx hB sc_law_count fun _ _ _ _ _ _ C => hb_law_count T I_law_number C
theorem sc_law_draw : FnScope ["_law_hand_here", "_law_many", "_law_mixed", "_law_number_here", "_law_digit"] ["_law_hand_here", "_law_many"] (defScope s_law_draw) := ⟨rfl, rfl, rfl, by decide +kernel, rfl, by decide +kernel, by decide +kernel⟩
theorem hb_law_draw (T : Txt P w K mg base C_BadNumber C_LabelError C_BadRow C_BadWindow C_Window) {qual : Str} {f : Addr} {cdv : Value} {A : Around} {outer : List Env} {s : Shared} {H : Hp} {E : XK} (C : Ctx (cxOf (L2.CX P w) P w K mg base ["_law_hand_here", "_law_many", "_law_mixed", "_law_number_here", "_law_digit"] qual (defScope s_law_draw) f cdv A outer s H E) (Wish.of fun c d _ H => E c d H) 0) :
    BV (cxOf (L2.CX P w) P w K mg base ["_law_hand_here", "_law_many", "_law_mixed", "_law_number_here", "_law_digit"] qual (defScope s_law_draw) f cdv A outer s H E) (Wish.of fun c d _ H => E c d H) (defBody s_law_draw) B_law_draw :=
  bv_cons (sv_sub set_list os_setL (ev_op or_add os_add (ev_ix ix_seq os_ix (ev_var (i := 0)) (ev_int) (fun _ _ => rfl)) (ev_int)) (ev_var (i := 0)) (ev_int)) (bv_cons (sv_if (tv_w (wv_and (tv_cmp (op_eqD C.room.units) os_eq (ev_ix ix_seq os_ix (ev_var (i := 0)) (ev_int) (fun _ _ => rfl)) (ev_int) (nomark _)) (wv_and1 (tv_cmp or_lt os_lt (ev_ix ix_seq os_ix (ev_var (i := 0)) (ev_int) (fun _ _ => rfl)) (ev_callB cr_len os_len T.n_len (av_cons (ev_ix ix_seq os_ix (ev_var (i := 0)) (ev_int) (fun _ _ => rfl)) (av_nil))) (nomark _))))) (bv_cons (sv_set (i := 3) C.nd (ev_ix ix_seq os_ix (ev_ix ix_seq os_ix (ev_var (i := 0)) (ev_int) (fun _ _ => rfl)) (ev_ix ix_seq os_ix (ev_var (i := 0)) (ev_int) (fun _ _ => rfl)) (fun _ _ => rfl))) (bv_cons (sv_sub set_list os_setL (ev_op or_add os_add (ev_ix ix_seq os_ix (ev_var (i := 0)) (ev_int) (fun _ _ => rfl)) (ev_int)) (ev_var (i := 0)) (ev_int)) (bv_one (sv_if (tv_cmp op_ge os_ge (ev_var (i := 3)) (ev_op op_pow os_pow (ev_int) (ev_int)) (nomark _)) (bv_one (sv_sub set_list os_setL (ev_var (i := 3)) (ev_var (i := 0)) (ev_int))) (bv_one (sv_sub set_list os_setL (ev_op op_mod os_mod (ev_callTy call_int1 os_int T.n_int (av_cons (ev_op or_add os_add (ev_op or_add os_add (ev_op or_mul os_mul (ev_ix ix_seq os_ix (ev_var (i := 0)) (ev_int) (fun _ _ => rfl)) (ev_int)) (ev_op or_mul os_mul (ev_var (i := 3)) (ev_int))) (ev_ix ix_seq os_ix (ev_var (i := 0)) (ev_int) (fun _ _ => rfl))) (av_nil))) (ev_int)) (ev_var (i := 0)) (ev_int))))))) (bv_nil)) (bv_cons (sv_if (tv_cmp op_gt os_gt (ev_ix ix_seq os_ix (ev_var (i := 0)) (ev_int) (fun _ _ => rfl)) (ev_int) (nomark _)) (bv_cons (sv_set (i := 4) C.nd (ev_op op_mod os_mod (ev_callTy call_int1 os_int T.n_int (av_cons (ev_ix ix_seq os_ix (ev_var (i := 0)) (ev_int) (fun _ _ => rfl)) (av_nil))) (ev_var (i := 1)))) (bv_cons (sv_sub set_list os_setL (ev_op op_fdivW os_div (ev_ix ix_seq os_ix (ev_var (i := 0)) (ev_int) (fun _ _ => rfl)) (ev_var (i := 1))) (ev_var (i := 0)) (ev_int)) (bv_one (sv_ret (ev_var (i := 4)))))) (bv_nil)) (bv_cons (sv_set (i := 2) C.nd (ev_op op_mod os_mod (ev_callTy call_int1 os_int T.n_int (av_cons (ev_op or_add os_add (ev_op or_add os_add (ev_ix ix_seq os_ix (ev_var (i := 0)) (ev_int) (fun _ _ => rfl)) (ev_op or_mul os_mul (ev_ix ix_seq os_ix (ev_var (i := 0)) (ev_int) (fun _ _ => rfl)) (ev_int))) (ev_int)) (av_nil))) (ev_int))) (bv_cons (sv_set (i := 2) C.nd (ev_op op_mod os_mod (ev_callTy call_int1 os_int T.n_int (av_cons (ev_op or_mul os_mul (ev_var (i := 2)) (ev_op or_add os_add (ev_op op_fdivW os_div (ev_var (i := 2)) (ev_int)) (ev_int))) (av_nil))) (ev_int))) (bv_cons (sv_set (i := 2) C.nd (ev_op op_mod os_mod (ev_callTy call_int1 os_int T.n_int (av_cons (ev_op or_mul os_mul (ev_var (i := 2)) (ev_op or_add os_add (ev_op op_fdivW os_div (ev_var (i := 2)) (ev_int)) (ev_int))) (av_nil))) (ev_int))) (bv_one (sv_ret (ev_op op_mod os_mod (ev_callTy call_int1 os_int T.n_int (av_cons (ev_op op_fdivW os_div (ev_var (i := 2)) (ev_int)) (av_nil))) (ev_var (i := 1))))))))))
theorem I_law_draw (T : Txt P w K mg base C_BadNumber C_LabelError C_BadRow C_BadWindow C_Window) {qual : Str} {f : Addr} {fd : FuncData} (F : Fun K "_law_draw" qual s_law_draw f fd) (hx : mg "_law_draw" = some (.ref f)) (hB : Binds K fd ["_law_hand_here", "_law_many"] []) : FnIs P w K mg base "_law_draw" 1 2 F_law_draw := fn_is lv_leave F hx hB sc_law_draw fun _ _ _ _ _ _ C => hb_law_draw T C
theorem sc_law_hand : FnScope ["_law_script", "_law_seed", "_law_number_here"] ["_law_script"] (defScope s_law_hand) := ⟨rfl, rfl, rfl, by decide +kernel, rfl, by decide +kernel, by decide +kernel⟩
theorem hb_law_hand (T : Txt P w K mg base C_BadNumber C_LabelError C_BadRow C_BadWindow C_Window) {qual : Str} {f : Addr} {cdv : Value} {A : Around} {outer : List Env} {s : Shared} {H : Hp} {E : XK} (C : Ctx (cxOf (L2.CX P w) P w K mg base ["_law_script", "_law_seed", "_law_number_here"] qual (defScope s_law_hand) f cdv A outer s H E) (Wish.of fun c d _ H => E c d H) 0) :
    BV (cxOf (L2.CX P w) P w K mg base ["_law_script", "_law_seed", "_law_number_here"] qual (defScope s_law_hand) f cdv A outer s H E) (Wish.of fun c d _ H => E c d H) (defBody s_law_hand) B_law_hand :=
  bv_cons (sv_set (i := 1) C.nd (ev_int)) (bv_cons (sv_for C (iv_seq (ev_sl (ev_var (i := 0)) (ov_no) (ov_yes (ev_int)))) (gv_nm (i := 2) C.nd) (bv_one (sv_set (i := 1) C.nd (ev_op op_mod os_mod (ev_callTy call_int1 os_int T.n_int (av_cons (ev_op or_add os_add (ev_op or_add os_add (ev_op or_mul os_mul (ev_var (i := 1)) (ev_int)) (ev_var (i := 2))) (ev_int)) (av_nil))) (ev_int))))) (bv_one (sv_ret (ev_lstC (av_cons (ev_callTy call_list_of os_list T.n_list (av_cons (ev_sl (ev_var (i := 0)) (ov_no) (ov_yes (ev_int))) (av_nil))) (av_cons (ev_int) (av_cons (ev_int) (av_cons (ev_int) (av_cons (ev_var (i := 1)) (av_nil))))))))))
theorem I_law_hand (T : Txt P w K mg base C_BadNumber C_LabelError C_BadRow C_BadWindow C_Window) {qual : Str} {f : Addr} {fd : FuncData} (F : Fun K "_law_hand" qual s_law_hand f fd) (hx : mg "_law_hand" = some (.ref f)) (hB : Binds K fd ["_law_script"] []) : FnIs P w K mg base "_law_hand" 1 1 F_law_hand := fn_is lv_leaveC F hx hB sc_law_hand fun _ _ _ _ _ _ C => hb_law_hand T C
theorem sc_law_rows : FnScope ["_law_length", "_law_rows_here", "_law_at", "_law_row_here"] ["_law_length"] (defScope s_law_rows) := ⟨rfl, rfl, rfl, by decide +kernel, rfl, by decide +kernel, by decide +kernel⟩
theorem hb_law_rows (T : Txt P w K mg base C_BadNumber C_LabelError C_BadRow C_BadWindow C_Window) {qual : Str} {f : Addr} {cdv : Value} {A : Around} {outer : List Env} {s : Shared} {H : Hp} {E : XK} (C : Ctx (cxOf (L2.CX P w) P w K mg base ["_law_length", "_law_rows_here", "_law_at", "_law_row_here"] qual (defScope s_law_rows) f cdv A outer s H E) (Wish.of fun c d _ H => E c d H) 0) :
    BV (cxOf (L2.CX P w) P w K mg base ["_law_length", "_law_rows_here", "_law_at", "_law_row_here"] qual (defScope s_law_rows) f cdv A outer s H E) (Wish.of fun c d _ H => E c d H) (defBody s_law_rows) B_law_rows :=
  bv_cons (sv_set (i := 1) C.nd (ev_lst (av_cons (ev_tup (av_nil)) (av_nil)))) (bv_cons (sv_for C (iv_rng1 T.n_range (av_cons (ev_var (i := 0)) (av_nil))) (gv_nm (i := 2) C.nd) (bv_one (sv_set (i := 1) C.nd (ev_op or_add os_add (ev_lcG fin_lst (own := [("_law_row_here", 3)]) C.calm C.nd (iv_seq (ev_var (i := 1))) (by show blkC ["_law_length", "_law_rows_here", "_law_at", "_law_row_here"] (defScope s_law_rows) _ _ = true; decide +kernel) (by decide) (fun _ h => nomatch h) (fun _ _ _ _ _ => gv_nm (i := 3) C.nd) (fun _ _ _ _ _ => tv_ifs0) (fun s H C1 cl fp => ev_blk C (fun C => ev_op or_add os_add (ev_var (i := 3)) (ev_tup (av_cons (ev_int) (av_nil)))))) (ev_lcG fin_lst (own := [("_law_row_here", 3)]) C.calm C.nd (iv_seq (ev_var (i := 1))) (by show blkC ["_law_length", "_law_rows_here", "_law_at", "_law_row_here"] (defScope s_law_rows) _ _ = true; decide +kernel) (by decide) (fun _ h => nomatch h) (fun _ _ _ _ _ => gv_nm (i := 3) C.nd) (fun _ _ _ _ _ => tv_ifs0) (fun s H C1 cl fp => ev_blk C (fun C => ev_op or_add os_add (ev_var (i := 3)) (ev_tup (av_cons (ev_int) (av_nil)))))))))) (bv_one (sv_ret (ev_callB cr_sort1X os_sort1 T.n_sorted (av_cons (ev_var (i := 1)) (av_nil))))))
theorem I_law_rows (T : Txt P w K mg base C_BadNumber C_LabelError C_BadRow C_BadWindow C_Window) {qual : Str} {f : Addr} {fd : FuncData} (F : Fun K "_law_rows" qual s_law_rows f fd) (hx : mg "_law_rows" = some (.ref f)) (hB : Binds K fd ["_law_length"] []) : FnIs P w K mg base "_law_rows" 1 1 F_law_rows := fn_is lv_leave F hx hB sc_law_rows fun _ _ _ _ _ _ C => hb_law_rows T C
theorem sc_law_is_same : FnScope ["_law_table_here", "_law_radius_here", "_law_item", "_law_look"] ["_law_table_here", "_law_radius_here"] (defScope s_law_is_same) := ⟨rfl, rfl, rfl, by decide +kernel, rfl, by decide +kernel, by decide +kernel⟩
theorem hb_law_is_same (T : Txt P w K mg base C_BadNumber C_LabelError C_BadRow C_BadWindow C_Window) (I_law_rows : FnIs P w K mg base "_law_rows" 1 1 F_law_rows) {qual : Str} {f : Addr} {cdv : Value} {A : Around} {outer : List Env} {s : Shared} {H : Hp} {E : XK} (C : Ctx (cxOf (L2.CX P w) P w K mg base ["_law_table_here", "_law_radius_here", "_law_item", "_law_look"] qual (defScope s_law_is_same) f cdv A outer s H E) (Wish.of fun c d _ H => E c d H) 1) :
    BV (cxOf (L2.CX P w) P w K mg base ["_law_table_here", "_law_radius_here", "_law_item", "_law_look"] qual (defScope s_law_is_same) f cdv A outer s H E) (Wish.of fun c d _ H => E c d H) (defBody s_law_is_same) B_law_is_same :=
  bv_one (sv_ret (ev_cmp (op_eqD C.room.units) os_eq (ev_lcG fin_lst (own := [("_law_item", 2)]) C.calm C.nd (iv_seq (ev_var (i := 0))) (by show blkC ["_law_table_here", "_law_radius_here", "_law_item", "_law_look"] (defScope s_law_is_same) _ _ = true; decide +kernel) (by decide) (fun _ h => nomatch h) (fun _ _ _ _ _ => gv_nm (i := 2) C.nd) (fun _ _ _ _ _ => tv_ifs0) (fun s H C1 cl fp => ev_blk C (fun C => ev_callTy call_int1 os_int T.n_int (av_cons (ev_var (i := 2)) (av_nil))))) (ev_lcG fin_lst (own := [("_law_look", 3)]) C.calm C.nd (iv_seq (ev_callI I_law_rows C (by decide) (av_cons (ev_op or_add os_add (ev_op or_mul os_mul (ev_int) (ev_var (i := 1))) (ev_int)) (av_nil)) (arN_cons (arN_nil)))) (by show blkC ["_law_table_here", "_law_radius_here", "_law_item", "_law_look"] (defScope s_law_is_same) _ _ = true; decide +kernel) (by decide) (fun _ h => nomatch h) (fun _ _ _ _ _ => gv_nm (i := 3) C.nd) (fun _ _ _ _ _ => tv_ifs0) (fun s H C1 cl fp => ev_blk C (fun C => ev_ix ix_seq os_ix (ev_var (i := 3)) (ev_var (i := 1)) (fun _ _ => rfl)))) (nomark _)))
theorem I_law_is_same (T : Txt P w K mg base C_BadNumber C_LabelError C_BadRow C_BadWindow C_Window) (I_law_rows : FnIs P w K mg base "_law_rows" 1 1 F_law_rows) {qual : Str} {f : Addr} {fd : FuncData} (F : Fun K "_law_is_same" qual s_law_is_same f fd) (hx : mg "_law_is_same" = some (.ref f)) (hB : Binds K fd ["_law_table_here", "_law_radius_here"] []) : FnIs P w K mg base "_law_is_same" 2 2 F_law_is_same := fn_is lv_leave F hx hB sc_law_is_same fun _ _ _ _ _ _ C => hb_law_is_same T I_law_rows C
theorem sc_law_radius : FnScope ["_law_hand_here"] ["_law_hand_here"] (defScope s_law_radius) := ⟨rfl, rfl, rfl, by decide +kernel, rfl, by decide +kernel, by decide +kernel⟩
theorem hb_law_radius (T : Txt P w K mg base C_BadNumber C_LabelError C_BadRow C_BadWindow C_Window) (I_law_draw : FnIs P w K mg base "_law_draw" 1 2 F_law_draw) {qual : Str} {f : Addr} {cdv : Value} {A : Around} {outer : List Env} {s : Shared} {H : Hp} {E : XK} (C : Ctx (cxOf (L2.CX P w) P w K mg base ["_law_hand_here"] qual (defScope s_law_radius) f cdv A outer s H E) (Wish.of fun c d _ H => E c d H) 1) :
    BV (cxOf (L2.CX P w) P w K mg base ["_law_hand_here"] qual (defScope s_law_radius) f cdv A outer s H E) (Wish.of fun c d _ H => E c d H) (defBody s_law_radius) B_law_radius :=
  bv_one (sv_ret (ev_ix ix_seq os_ix (ev_lst (av_cons (ev_int) (av_cons (ev_int) (av_cons (ev_int) (av_cons (ev_int) (av_cons (ev_int) (av_cons (ev_int) (av_nil)))))))) (ev_callI I_law_draw C (by decide) (av_cons (ev_var (i := 0)) (av_cons (ev_int) (av_nil))) (arN_cons (arN_cons (arN_nil)))) (fun _ _ => rfl)))
theorem I_law_radius (T : Txt P w K mg base C_BadNumber C_LabelError C_BadRow C_BadWindow C_Window) (I_law_draw : FnIs P w K mg base "_law_draw" 1 2 F_law_draw) {qual : Str} {f : Addr} {fd : FuncData} (F : Fun K "_law_radius" qual s_law_radius f fd) (hx : mg "_law_radius" = some (.ref f)) (hB : Binds K fd ["_law_hand_here"] []) : FnIs P w K mg base "_law_radius" 2 1 F_law_radius := fn_is lv_leave F hx hB sc_law_radius fun _ _ _ _ _ _ C => hb_law_radius T I_law_draw C
theorem sc_law_row : FnScope ["_law_hand_here", "_law_length", "_law_at"] ["_law_hand_here", "_law_length"] (defScope s_law_row) := ⟨rfl, rfl, rfl, by decide +kernel, rfl, by decide +kernel, by decide +kernel⟩
theorem hb_law_row (T : Txt P w K mg base C_BadNumber C_LabelError C_BadRow C_BadWindow C_Window) (I_law_draw : FnIs P w K mg base "_law_draw" 1 2 F_law_draw) {qual : Str} {f : Addr} {cdv : Value} {A : Around} {outer : List Env} {s : Shared} {H : Hp} {E : XK} (C : Ctx (cxOf (L2.CX P w) P w K mg base ["_law_hand_here", "_law_length", "_law_at"] qual (defScope s_law_row) f cdv A outer s H E) (Wish.of fun c d _ H => E c d H) 1) :
    BV (cxOf (L2.CX P w) P w K mg base ["_law_hand_here", "_law_length", "_law_at"] qual (defScope s_law_row) f cdv A outer s H E) (Wish.of fun c d _ H => E c d H) (defBody s_law_row) B_law_row :=
  bv_one (sv_ret (ev_callTy call_tuple_of os_tuple T.n_tuple (av_cons (ev_lcG fin_lst (own := [("_law_at", 2)]) C.calm C.nd (iv_rng1 T.n_range (av_cons (ev_var (i := 1)) (av_nil))) (by show blkC ["_law_hand_here", "_law_length", "_law_at"] (defScope s_law_row) _ _ = true; decide +kernel) (by decide) (fun _ h => nomatch h) (fun _ _ _ _ _ => gv_nm (i := 2) C.nd) (fun _ _ _ _ _ => tv_ifs0) (fun s H C1 cl fp => ev_blk C (fun C => ev_callI I_law_draw C (by decide) (av_cons (ev_var (i := 0)) (av_cons (ev_int) (av_nil))) (arN_cons (arN_cons (arN_nil)))))) (av_nil))))
theorem I_law_row (T : Txt P w K mg base C_BadNumber C_LabelError C_BadRow C_BadWindow C_Window) (I_law_draw : FnIs P w K mg base "_law_draw" 1 2 F_law_draw) {qual : Str} {f : Addr} {fd : FuncData} (F : Fun K "_law_row" qual s_law_row f fd) (hx : mg "_law_row" = some (.ref f)) (hB : Binds K fd ["_law_hand_here", "_law_length"] []) : FnIs P w K mg base "_law_row" 2 2 F_law_row := fn_is lv_leave F hx hB sc_law_row fun _ _ _ _ _ _ C => hb_law_row T I_law_draw C
theorem sc_law_same : FnScope ["_law_told", "_law_due", "_law_at"] ["_law_told", "_law_due"] (defScope s_law_same) := ⟨rfl, rfl, rfl, by decide +kernel, rfl, by decide +kernel, by decide +kernel⟩
theorem hb_law_same (T : Txt P w K mg base C_BadNumber C_LabelError C_BadRow C_BadWindow C_Window) {R : Fn} {kr : Nat} (I_law_same : FnIs P w K mg base "_law_same" kr 2 R) {qual : Str} {f : Addr} {cdv : Value} {A : Around} {outer : List Env} {s : Shared} {H : Hp} {E : XK} (C : Ctx (cxOf (L2.CX P w) P w K mg base ["_law_told", "_law_due", "_law_at"] qual (defScope s_law_same) f cdv A outer s H E) (Wish.of fun c d _ H => E c d H) kr) :
    BV (cxOf (L2.CX P w) P w K mg base ["_law_told", "_law_due", "_law_at"] qual (defScope s_law_same) f cdv A outer s H E) (Wish.of fun c d _ H => E c d H) (defBody s_law_same) (B_law_same R) :=
  bv_cons (sv_if (tv_val (ev_callB cr_isi os_isi T.n_isinstance (av_cons (ev_var (i := 1)) (av_cons (ev_tup (av_cons (ev_ty T.n_list) (av_cons (ev_ty T.n_tuple) (av_nil)))) (av_nil))))) (bv_cons (sv_if (tv_w (wv_or (tv_cmp (op_neD C.room.units) os_ne (ev_callB cr_isi os_isi T.n_isinstance (av_cons (ev_var (i := 0)) (av_cons (ev_ty T.n_list) (av_nil)))) (ev_callB cr_isi os_isi T.n_isinstance (av_cons (ev_var (i := 1)) (av_cons (ev_ty T.n_list) (av_nil)))) (nomark _)) (wv_or1 (tv_not (tv_val (ev_callB cr_isi os_isi T.n_isinstance (av_cons (ev_var (i := 0)) (av_cons (ev_tup (av_cons (ev_ty T.n_list) (av_cons (ev_ty T.n_tuple) (av_nil)))) (av_nil))))))))) (bv_one (sv_ret (ev_bl))) (bv_nil)) (bv_cons (sv_if (tv_cmp (op_neD C.room.units) os_ne (ev_callB cr_len os_len T.n_len (av_cons (ev_var (i := 0)) (av_nil))) (ev_callB cr_len os_len T.n_len (av_cons (ev_var (i := 1)) (av_nil))) (nomark _)) (bv_one (sv_ret (ev_bl))) (bv_nil)) (bv_one (sv_ret (ev_cmp (op_eqD C.room.units) os_eq (ev_callB cr_len os_len T.n_len (av_cons (ev_lcG fin_lst (own := [("_law_at", 2)]) C.calm C.nd (iv_rng1 T.n_range (av_cons (ev_callB cr_len os_len T.n_len (av_cons (ev_var (i := 1)) (av_nil))) (av_nil))) (by show blkC ["_law_told", "_law_due", "_law_at"] (defScope s_law_same) _ _ = true; decide +kernel) (by decide) (fun _ h => nomatch h) (fun _ _ _ _ _ => gv_nm (i := 2) C.nd) (fun _ _ _ _ _ => pt_blk C (fun C => tv_ifs1 (tv_not (tv_val (ev_callI I_law_same C (Nat.le_refl _) (av_cons (ev_ix ix_seq os_ix (ev_var (i := 0)) (ev_var (i := 2)) (fun _ _ => rfl)) (av_cons (ev_ix ix_seq os_ix (ev_var (i := 1)) (ev_var (i := 2)) (fun _ _ => rfl)) (av_nil))) (arN_cons (arN_cons (arN_nil)))))))) (fun s H C1 cl fp => ev_blk C (fun C => ev_var (i := 2)))) (av_nil))) (ev_int) (nomark _)))))) (bv_nil)) (bv_cons (sv_if (tv_w (wv_or (tv_val (ev_callB cr_isi os_isi T.n_isinstance (av_cons (ev_var (i := 1)) (av_cons (ev_tup (av_cons (ev_ty T.n_bool) (av_cons (ev_ty T.n_str) (av_nil)))) (av_nil))))) (wv_or1 (tv_cmp or_is os_is (ev_var (i := 1)) (ev_non) (nomark _))))) (bv_one (sv_ret (ev_and (ev_cmp (op_eqD C.room.units) os_eq (ev_callB cr_isi os_isi T.n_isinstance (av_cons (ev_var (i := 0)) (av_cons (ev_ty T.n_bool) (av_nil)))) (ev_callB cr_isi os_isi T.n_isinstance (av_cons (ev_var (i := 1)) (av_cons (ev_ty T.n_bool) (av_nil)))) (nomark _)) (ev_one (ev_cmp (op_eqD C.room.units) os_eq (ev_var (i := 0)) (ev_var (i := 1)) (nomark _)))))) (bv_nil)) (bv_one (sv_ret (ev_and (ev_callB cr_isi os_isi T.n_isinstance (av_cons (ev_var (i := 0)) (av_cons (ev_ty T.n_int) (av_nil)))) (ev_and (ev_not (ev_callB cr_isi os_isi T.n_isinstance (av_cons (ev_var (i := 0)) (av_cons (ev_ty T.n_bool) (av_nil))))) (ev_one (ev_cmp (op_eqD C.room.units) os_eq (ev_var (i := 0)) (ev_var (i := 1)) (nomark _))))))))
theorem I_law_same (T : Txt P w K mg base C_BadNumber C_LabelError C_BadRow C_BadWindow C_Window) {qual : Str} {f : Addr} {fd : FuncData} (F : Fun K "_law_same" qual s_law_same f fd) (hx : mg "_law_same" = some (.ref f)) (hB : Binds K fd ["_law_told", "_law_due"] []) : ∀ d, FnIs P w K mg base "_law_same" (d + 1) 2 (F_law_same d)
  | 0 => fn_is lv_leave F hx hB sc_law_same fun _ _ _ _ _ _ _ => bv_bad
  | d + 1 => fn_is lv_leave F hx hB sc_law_same fun _ _ _ _ _ _ C => hb_law_same T (I_law_same T F hx hB d) C
theorem sc_law_filtered : FnScope ["_law_radius_here", "_law_table_here", "_law_row_here", "_law_span", "_law_at"] ["_law_radius_here", "_law_table_here", "_law_row_here"] (defScope s_law_filtered) := ⟨rfl, rfl, rfl, by decide +kernel, rfl, by decide +kernel, by decide +kernel⟩
theorem hb_law_filtered (T : Txt P w K mg base C_BadNumber C_LabelError C_BadRow C_BadWindow C_Window) (I_law_number : FnIs P w K mg base "_law_number" 1 1 F_law_number) {qual : Str} {f : Addr} {cdv : Value} {A : Around} {outer : List Env} {s : Shared} {H : Hp} {E : XK} (C : Ctx (cxOf (L2.CX P w) P w K mg base ["_law_radius_here", "_law_table_here", "_law_row_here", "_law_span", "_law_at"] qual (defScope s_law_filtered) f cdv A outer s H E) (Wish.of fun c d _ H => E c d H) 1) :
    BV (cxOf (L2.CX P w) P w K mg base ["_law_radius_here", "_law_table_here", "_law_row_here", "_law_span", "_law_at"] qual (defScope s_law_filtered) f cdv A outer s H E) (Wish.of fun c d _ H => E c d H) (defBody s_law_filtered) B_law_filtered :=
  bv_cons (sv_set (i := 3) C.nd (ev_op or_add os_add (ev_op or_mul os_mul (ev_int) (ev_var (i := 0))) (ev_int))) (bv_one (sv_ret (ev_callTy call_tuple_of os_tuple T.n_tuple (av_cons (ev_lcG fin_lst (own := [("_law_at", 4)]) C.calm C.nd (iv_rng1 T.n_range (av_cons (ev_op or_add os_add (ev_op op_sub os_sub (ev_callB cr_len os_len T.n_len (av_cons (ev_var (i := 2)) (av_nil))) (ev_var (i := 3))) (ev_int)) (av_nil))) (by show blkC ["_law_radius_here", "_law_table_here", "_law_row_here", "_law_span", "_law_at"] (defScope s_law_filtered) _ _ = true; decide +kernel) (by decide) (fun _ h => nomatch h) (fun _ _ _ _ _ => gv_nm (i := 4) C.nd) (fun _ _ _ _ _ => tv_ifs0) (fun s H C1 cl fp => ev_blk C (fun C => ev_ix ix_seq os_ix (ev_var (i := 1)) (ev_callI I_law_number C (by decide) (av_cons (ev_sl (ev_var (i := 2)) (ov_yes (ev_var (i := 4))) (ov_yes (ev_op or_add os_add (ev_var (i := 4)) (ev_var (i := 3))))) (av_nil)) (arN_cons (arN_nil))) (fun _ _ => rfl)))) (av_nil)))))
theorem I_law_filtered (T : Txt P w K mg base C_BadNumber C_LabelError C_BadRow C_BadWindow C_Window) (I_law_number : FnIs P w K mg base "_law_number" 1 1 F_law_number) {qual : Str} {f : Addr} {fd : FuncData} (F : Fun K "_law_filtered" qual s_law_filtered f fd) (hx : mg "_law_filtered" = some (.ref f)) (hB : Binds K fd ["_law_radius_here", "_law_table_here", "_law_row_here"] []) : FnIs P w K mg base "_law_filtered" 2 3 F_law_filtered := fn_is lv_leave F hx hB sc_law_filtered fun _ _ _ _ _ _ C => hb_law_filtered T I_law_number C
theorem sc_law_swept : FnScope ["_law_radius_here", "_law_table_here", "_law_row_here", "_law_light", "_law_at"] ["_law_radius_here", "_law_table_here", "_law_row_here"] (defScope s_law_swept) := ⟨rfl, rfl, rfl, by decide +kernel, rfl, by decide +kernel, by decide +kernel⟩
theorem hb_law_swept (T : Txt P w K mg base C_BadNumber C_LabelError C_BadRow C_BadWindow C_Window) (I_law_filtered : FnIs P w K mg base "_law_filtered" 2 3 F_law_filtered) {qual : Str} {f : Addr} {cdv : Value} {A : Around} {outer : List Env} {s : Shared} {H : Hp} {E : XK} (C : Ctx (cxOf (L2.CX P w) P w K mg base ["_law_radius_here", "_law_table_here", "_law_row_here", "_law_light", "_law_at"] qual (defScope s_law_swept) f cdv A outer s H E) (Wish.of fun c d _ H => E c d H) 2) :
    BV (cxOf (L2.CX P w) P w K mg base ["_law_radius_here", "_law_table_here", "_law_row_here", "_law_light", "_law_at"] qual (defScope s_law_swept) f cdv A outer s H E) (Wish.of fun c d _ H => E c d H) (defBody s_law_swept) B_law_swept :=
  bv_cons (sv_set (i := 3) C.nd (ev_callTy call_tuple_of os_tuple T.n_tuple (av_cons (ev_lcG fin_lst (own := [("_law_at", 4)]) C.calm C.nd (iv_rng1 T.n_range (av_cons (ev_var (i := 0)) (av_nil))) (by show blkC ["_law_radius_here", "_law_table_here", "_law_row_here", "_law_light", "_law_at"] (defScope s_law_swept) _ _ = true; decide +kernel) (by decide) (fun _ h => nomatch h) (fun _ _ _ _ _ => gv_nm (i := 4) C.nd) (fun _ _ _ _ _ => tv_ifs0) (fun s H C1 cl fp => ev_blk C (fun C => ev_int))) (av_nil)))) (bv_one (sv_ret (ev_callI I_law_filtered C (by decide) (av_cons (ev_var (i := 0)) (av_cons (ev_var (i := 1)) (av_cons (ev_op or_add os_add (ev_op or_add os_add (ev_var (i := 3)) (ev_var (i := 2))) (ev_var (i := 3))) (av_nil)))) (arN_cons (arN_cons (arN_cons (arN_nil)))))))
theorem I_law_swept (T : Txt P w K mg base C_BadNumber C_LabelError C_BadRow C_BadWindow C_Window) (I_law_filtered : FnIs P w K mg base "_law_filtered" 2 3 F_law_filtered) {qual : Str} {f : Addr} {fd : FuncData} (F : Fun K "_law_swept" qual s_law_swept f fd) (hx : mg "_law_swept" = some (.ref f)) (hB : Binds K fd ["_law_radius_here", "_law_table_here", "_law_row_here"] []) : FnIs P w K mg base "_law_swept" 3 3 F_law_swept := fn_is lv_leave F hx hB sc_law_swept fun _ _ _ _ _ _ C => hb_law_swept T I_law_filtered C
theorem sc_law_table : FnScope ["_law_hand_here", "_law_radius_here", "_law_size", "_law_kind", "_law_table_here", "_law_inner", "_law_at", "_law_row_here"] ["_law_hand_here", "_law_radius_here"] (defScope s_law_table) := ⟨rfl, rfl, rfl, by decide +kernel, rfl, by decide +kernel, by decide +kernel⟩
theorem hb_law_table (T : Txt P w K mg base C_BadNumber C_LabelError C_BadRow C_BadWindow C_Window) (I_law_draw : FnIs P w K mg base "_law_draw" 1 2 F_law_draw) (I_law_rows : FnIs P w K mg base "_law_rows" 1 1 F_law_rows) {qual : Str} {f : Addr} {cdv : Value} {A : Around} {outer : List Env} {s : Shared} {H : Hp} {E : XK} (C : Ctx (cxOf (L2.CX P w) P w K mg base ["_law_hand_here", "_law_radius_here", "_law_size", "_law_kind", "_law_table_here", "_law_inner", "_law_at", "_law_row_here"] qual (defScope s_law_table) f cdv A outer s H E) (Wish.of fun c d _ H => E c d H) 1) :
    BV (cxOf (L2.CX P w) P w K mg base ["_law_hand_here", "_law_radius_here", "_law_size", "_law_kind", "_law_table_here", "_law_inner", "_law_at", "_law_row_here"] qual (defScope s_law_table) f cdv A outer s H E) (Wish.of fun c d _ H => E c d H) (defBody s_law_table) B_law_table :=
  bv_cons (sv_set (i := 2) C.nd (ev_callB cr_len os_len T.n_len (av_cons (ev_callI I_law_rows C (by decide) (av_cons (ev_op or_add os_add (ev_op or_mul os_mul (ev_int) (ev_var (i := 1))) (ev_int)) (av_nil)) (arN_cons (arN_nil))) (av_nil)))) (bv_cons (sv_set (i := 3) C.nd (ev_callI I_law_draw C (by decide) (av_cons (ev_var (i := 0)) (av_cons (ev_int) (av_nil))) (arN_cons (arN_cons (arN_nil))))) (bv_cons (sv_if (tv_cmp (op_eqD C.room.units) os_eq (ev_var (i := 3)) (ev_int) (nomark _)) (bv_one (sv_ret (ev_lcG fin_lst (own := [("_law_row_here", 7)]) C.calm C.nd (iv_seq (ev_callI I_law_rows C (by decide) (av_cons (ev_op or_add os_add (ev_op or_mul os_mul (ev_int) (ev_var (i := 1))) (ev_int)) (av_nil)) (arN_cons (arN_nil)))) (by show blkC ["_law_hand_here", "_law_radius_here", "_law_size", "_law_kind", "_law_table_here", "_law_inner", "_law_at", "_law_row_here"] (defScope s_law_table) _ _ = true; decide +kernel) (by decide) (fun _ h => nomatch h) (fun _ _ _ _ _ => gv_nm (i := 7) C.nd) (fun _ _ _ _ _ => tv_ifs0) (fun s H C1 cl fp => ev_blk C (fun C => ev_callTy call_int1 os_int T.n_int (av_cons (ev_cmp op_gt os_gt (ev_callB (cr_sumX C.calm) os_sumX T.n_sum (av_cons (ev_var (i := 7)) (av_nil))) (ev_var (i := 1)) (nomark _)) (av_nil))))))) (bv_nil)) (bv_cons (sv_if (tv_cmp (op_eqD C.room.units) os_eq (ev_var (i := 3)) (ev_int) (nomark _)) (bv_one (sv_ret (ev_lcG fin_lst (own := [("_law_row_here", 7)]) C.calm C.nd (iv_seq (ev_callI I_law_rows C (by decide) (av_cons (ev_op or_add os_add (ev_op or_mul os_mul (ev_int) (ev_var (i := 1))) (ev_int)) (av_nil)) (arN_cons (arN_nil)))) (by show blkC ["_law_hand_here", "_law_radius_here", "_law_size", "_law_kind", "_law_table_here", "_law_inner", "_law_at", "_law_row_here"] (defScope s_law_table) _ _ = true; decide +kernel) (by decide) (fun _ h => nomatch h) (fun _ _ _ _ _ => gv_nm (i := 7) C.nd) (fun _ _ _ _ _ => tv_ifs0) (fun s H C1 cl fp => ev_blk C (fun C => ev_ix ix_seq os_ix (ev_var (i := 7)) (ev_var (i := 1)) (fun _ _ => rfl)))))) (bv_nil)) (bv_cons (sv_setLcG fin_lst (own := [("_law_at", 6)]) C.calm C.nd (iv_rng1 T.n_range (av_cons (ev_var (i := 2)) (av_nil))) (by show blkC ["_law_hand_here", "_law_radius_here", "_law_size", "_law_kind", "_law_table_here", "_law_inner", "_law_at", "_law_row_here"] (defScope s_law_table) _ _ = true; decide +kernel) (by decide) (fun _ h => nomatch h) (fun _ _ _ _ _ => gv_nm (i := 6) C.nd) (fun _ _ _ _ _ => tv_ifs0) (fun s H C1 cl fp => ev_blk C (fun C => ev_callI I_law_draw C (by decide) (av_cons (ev_var (i := 0)) (av_cons (ev_int) (av_nil))) (arN_cons (arN_cons (arN_nil))))) (sw_true rfl rfl rfl (by decide +kernel))) (bv_cons (sv_if (tv_cmp (op_eqD C.room.units) os_eq (ev_var (i := 3)) (ev_int) (nomark _)) (bv_cons (sv_set (i := 5) C.nd (ev_lcG fin_lst (own := [("_law_at", 6)]) C.calm C.nd (iv_rng1 T.n_range (av_cons (ev_int) (av_nil))) (by show blkC ["_law_hand_here", "_law_radius_here", "_law_size", "_law_kind", "_law_table_here", "_law_inner", "_law_at", "_law_row_here"] (defScope s_law_table) _ _ = true; decide +kernel) (by decide) (fun _ h => nomatch h) (fun _ _ _ _ _ => gv_nm (i := 6) C.nd) (fun _ _ _ _ _ => tv_ifs0) (fun s H C1 cl fp => ev_blk C (fun C => ev_callI I_law_draw C (by decide) (av_cons (ev_var (i := 0)) (av_cons (ev_int) (av_nil))) (arN_cons (arN_cons (arN_nil))))))) (bv_one (sv_ret (ev_lcG fin_lst (own := [("_law_row_here", 7)]) C.calm C.nd (iv_seq (ev_callI I_law_rows C (by decide) (av_cons (ev_op or_add os_add (ev_op or_mul os_mul (ev_int) (ev_var (i := 1))) (ev_int)) (av_nil)) (arN_cons (arN_nil)))) (by show blkC ["_law_hand_here", "_law_radius_here", "_law_size", "_law_kind", "_law_table_here", "_law_inner", "_law_at", "_law_row_here"] (defScope s_law_table) _ _ = true; decide +kernel) (by decide) (fun _ h => nomatch h) (fun _ _ _ _ _ => gv_nm (i := 7) C.nd) (fun _ _ _ _ _ => tv_ifs0) (fun s H C1 cl fp => ev_blk C (fun C => ev_ix ix_seq os_ix (ev_var (i := 5)) (ev_ix ix_seq os_ix (ev_var (i := 7)) (ev_var (i := 1)) (fun _ _ => rfl)) (fun _ _ => rfl))))))) (bv_nil)) (bv_one (sv_ret (ev_var (i := 4)))))))))
theorem I_law_table (T : Txt P w K mg base C_BadNumber C_LabelError C_BadRow C_BadWindow C_Window) (I_law_draw : FnIs P w K mg base "_law_draw" 1 2 F_law_draw) (I_law_rows : FnIs P w K mg base "_law_rows" 1 1 F_law_rows) {qual : Str} {f : Addr} {fd : FuncData} (F : Fun K "_law_table" qual s_law_table f fd) (hx : mg "_law_table" = some (.ref f)) (hB : Binds K fd ["_law_hand_here", "_law_radius_here"] []) : FnIs P w K mg base "_law_table" 2 2 F_law_table := fn_is lv_leave F hx hB sc_law_table fun _ _ _ _ _ _ C => hb_law_table T I_law_draw I_law_rows C
theorem sc_law_till : FnScope ["_law_radius_here", "_law_table_here", "_law_row_here", "_law_most", "_law_number_here", "_law_behind"] ["_law_radius_here", "_law_table_here", "_law_row_here", "_law_most"] (defScope s_law_till) := ⟨rfl, rfl, rfl, by decide +kernel, rfl, by decide +kernel, by decide +kernel⟩
theorem hb_law_till (T : Txt P w K mg base C_BadNumber C_LabelError C_BadRow C_BadWindow C_Window) (I_law_swept : FnIs P w K mg base "_law_swept" 3 3 F_law_swept) {qual : Str} {f : Addr} {cdv : Value} {A : Around} {outer : List Env} {s : Shared} {H : Hp} {E : XK} (C : Ctx (cxOf (L2.CX P w) P w K mg base ["_law_radius_here", "_law_table_here", "_law_row_here", "_law_most", "_law_number_here", "_law_behind"] qual (defScope s_law_till) f cdv A outer s H E) (Wish.of fun c d _ H => E c d H) 3) :
    BV (cxOf (L2.CX P w) P w K mg base ["_law_radius_here", "_law_table_here", "_law_row_here", "_law_most", "_law_number_here", "_law_behind"] qual (defScope s_law_till) f cdv A outer s H E) (Wish.of fun c d _ H => E c d H) (defBody s_law_till) B_law_till :=
  bv_cons (sv_for C (iv_rng1 T.n_range (av_cons (ev_op or_add os_add (ev_var (i := 3)) (ev_int)) (av_nil))) (gv_nm (i := 4) C.nd) (bv_cons (sv_set (i := 5) C.nd (ev_callI I_law_swept C (by decide) (av_cons (ev_var (i := 0)) (av_cons (ev_var (i := 1)) (av_cons (ev_var (i := 2)) (av_nil)))) (arN_cons (arN_cons (arN_cons (arN_nil)))))) (bv_cons (sv_if (tv_cmp (op_eqD C.room.units) os_eq (ev_var (i := 5)) (ev_var (i := 2)) (nomark _)) (bv_one (sv_ret (ev_tup (av_cons (ev_var (i := 4)) (av_cons (ev_var (i := 2)) (av_nil)))))) (bv_nil)) (bv_one (sv_if (tv_cmp or_lt os_lt (ev_var (i := 4)) (ev_var (i := 3)) (nomark _)) (bv_one (sv_set (i := 2) C.nd (ev_var (i := 5)))) (bv_nil)))))) (bv_one (sv_ret (ev_tup (av_cons (ev_un un_neg os_neg (ev_int)) (av_cons (ev_var (i := 2)) (av_nil))))))
theorem I_law_till (T : Txt P w K mg base C_BadNumber C_LabelError C_BadRow C_BadWindow C_Window) (I_law_swept : FnIs P w K mg base "_law_swept" 3 3 F_law_swept) {qual : Str} {f : Addr} {fd : FuncData} (F : Fun K "_law_till" qual s_law_till f fd) (hx : mg "_law_till" = some (.ref f)) (hB : Binds K fd ["_law_radius_here", "_law_table_here", "_law_row_here", "_law_most"] []) : FnIs P w K mg base "_law_till" 4 4 F_law_till := fn_is lv_leave F hx hB sc_law_till fun _ _ _ _ _ _ C => hb_law_till T I_law_swept C
theorem sc_same : FnScope [] [] (defScope s_same) := ⟨rfl, rfl, rfl, by decide +kernel, rfl, by decide +kernel, by decide +kernel⟩
theorem hb_same (T : Txt P w K mg base C_BadNumber C_LabelError C_BadRow C_BadWindow C_Window) (MK_Window : MkIs P w K mg base "Window" 4 2 F_Window___init__) {qual : Str} {f : Addr} {cdv : Value} {A : Around} {outer : List Env} {s : Shared} {H : Hp} {E : XK} (C : Ctx (cxOf (L2.CX P w) P w K mg base [] qual (defScope s_same) f cdv A outer s H E) (Wish.of fun c d _ H => E c d H) 5) :
    BV (cxOf (L2.CX P w) P w K mg base [] qual (defScope s_same) f cdv A outer s H E) (Wish.of fun c d _ H => E c d H) (defBody s_same) B_same :=
  bv_one (sv_ret (ev_makeG lv_leave MK_Window C (by decide) (av_cons (ev_int) (av_cons (ev_tup (av_cons (ev_int) (av_cons (ev_int) (av_nil)))) (av_nil))) (arN_cons (arN_cons (arN_nil)))))
theorem I_same (T : Txt P w K mg base C_BadNumber C_LabelError C_BadRow C_BadWindow C_Window) (MK_Window : MkIs P w K mg base "Window" 4 2 F_Window___init__) {qual : Str} {f : Addr} {fd : FuncData} (F : Fun K "same" qual s_same f fd) (hx : mg "same" = some (.ref f)) (hB : Binds K fd [] []) : FnIs P w K mg base "same" 6 0 F_same := fn_is lv_leave F hx hB sc_same fun _ _ _ _ _ _ C => hb_same T MK_Window C
theorem sc_law : FnScope ["_law_script", "_law_hand_here", "_law_radius_here", "_law_table_here", "_law_window", "_law_row_here", "_law_length", "_law_due", "_law_most", "_law_turn", "_law_odd", "_law_bad", "_law_all_rows", "_law_told", "_law_other"] ["_law_script"] (defScope s_law) := ⟨rfl, rfl, rfl, by decide +kernel, rfl, by decide +kernel, by decide +kernel⟩
theorem hb_law (T : Txt P w K mg base C_BadNumber C_LabelError C_BadRow C_BadWindow C_Window) (MK_Window : MkIs P w K mg base "Window" 4 2 F_Window___init__) (I_law_asked : FnIs P w K mg base "_law_asked" 6 4 F_law_asked) (I_law_count : FnIs P w K mg base "_law_count" 2 3 F_law_count) (I_law_draw : FnIs P w K mg base "_law_draw" 1 2 F_law_draw) (I_law_hand : FnIs P w K mg base "_law_hand" 1 1 F_law_hand) (I_law_is_same : FnIs P w K mg base "_law_is_same" 2 2 F_law_is_same) (I_law_radius : FnIs P w K mg base "_law_radius" 2 1 F_law_radius) (I_law_row : FnIs P w K mg base "_law_row" 2 2 F_law_row) (I_law_rows : FnIs P w K mg base "_law_rows" 1 1 F_law_rows) (I_law_same : FnIs P w K mg base "_law_same" 6 2 (F_law_same 5)) (I_law_swept : FnIs P w K mg base "_law_swept" 3 3 F_law_swept) (I_law_table : FnIs P w K mg base "_law_table" 2 2 F_law_table) (I_law_till : FnIs P w K mg base "_law_till" 4 4 F_law_till) (I_many_rest : FnIs P w K mg base "many_rest" 4 2 F_many_rest) (I_rests : FnIs P w K mg base "rests" 5 2 F_rests) (I_same : FnIs P w K mg base "same" 6 0 F_same) (I_swept_till : FnIs P w K mg base "swept_till" 5 3 F_swept_till) {qual : Str} {f : Addr} {cdv : Value} {A : Around} {outer : List Env} {s : Shared} {H : Hp} {E : XK} (C : Ctx (cxOf (L2.CX P w) P w K mg base ["_law_script", "_law_hand_here", "_law_radius_here", "_law_table_here", "_law_window", "_law_row_here", "_law_length", "_law_due", "_law_most", "_law_turn", "_law_odd", "_law_bad", "_law_all_rows", "_law_told", "_law_other"] qual (defScope s_law) f cdv A outer s H E) (Wish.of fun c d _ H => E c d H) 6) :
    BV (cxOf (L2.CX P w) P w K mg base ["_law_script", "_law_hand_here", "_law_radius_here", "_law_table_here", "_law_window", "_law_row_here", "_law_length", "_law_due", "_law_most", "_law_turn", "_law_odd", "_law_bad", "_law_all_rows", "_law_told", "_law_other"] qual (defScope s_law) f cdv A outer s H E) (Wish.of fun c d _ H => E c d H) (defBody s_law) B_law :=
  bv_cons (sv_set (i := 1) C.nd (ev_callI I_law_hand C (by decide) (av_cons (ev_var (i := 0)) (av_nil)) (arN_cons (arN_nil)))) (bv_cons (sv_set (i := 2) C.nd (ev_callI I_law_radius C (by decide) (av_cons (ev_var (i := 1)) (av_nil)) (arN_cons (arN_nil)))) (bv_cons (sv_set (i := 3) C.nd (ev_callI I_law_table C (by decide) (av_cons (ev_var (i := 1)) (av_cons (ev_var (i := 2)) (av_nil))) (arN_cons (arN_cons (arN_nil))))) (bv_cons (sv_set (i := 4) C.nd (ev_makeG lv_leave MK_Window C (by decide) (av_cons (ev_var (i := 2)) (av_cons (ev_var (i := 3)) (av_nil))) (arN_cons (arN_cons (arN_nil))))) (bv_cons (sv_set (i := 5) C.nd (ev_callI I_law_row C (by decide) (av_cons (ev_var (i := 1)) (av_cons (ev_callI I_law_draw C (by decide) (av_cons (ev_var (i := 1)) (av_cons (ev_int) (av_nil))) (arN_cons (arN_cons (arN_nil)))) (av_nil))) (arN_cons (arN_cons (arN_nil))))) (bv_cons (sv_if (tv_not (tv_val (ev_callI I_law_same C (by decide) (av_cons (ev_callI I_rests C (by decide) (av_cons (ev_var (i := 4)) (av_cons (ev_var (i := 5)) (av_nil))) (arN_cons (arN_cons (arN_nil)))) (av_cons (ev_cmp (op_eqD C.room.units) os_eq (ev_callI I_law_swept C (by decide) (av_cons (ev_var (i := 2)) (av_cons (ev_var (i := 3)) (av_cons (ev_var (i := 5)) (av_nil)))) (arN_cons (arN_cons (arN_cons (arN_nil))))) (ev_var (i := 5)) (nomark _)) (av_nil))) (arN_cons (arN_cons (arN_nil)))))) (bv_one (sv_ret (ev_bl))) (bv_nil)) (bv_cons (sv_set (i := 6) C.nd (ev_callI I_law_draw C (by decide) (av_cons (ev_var (i := 1)) (av_cons (ev_int) (av_nil))) (arN_cons (arN_cons (arN_nil))))) (bv_cons (sv_set (i := 7) C.nd (ev_callB cr_len os_len T.n_len (av_cons (ev_lcG fin_lst (own := [("_law_other", 14)]) C.calm C.nd (iv_seq (ev_callI I_law_rows C (by decide) (av_cons (ev_var (i := 6)) (av_nil)) (arN_cons (arN_nil)))) (by show blkC ["_law_script", "_law_hand_here", "_law_radius_here", "_law_table_here", "_law_window", "_law_row_here", "_law_length", "_law_due", "_law_most", "_law_turn", "_law_odd", "_law_bad", "_law_all_rows", "_law_told", "_law_other"] (defScope s_law) _ _ = true; decide +kernel) (by decide) (fun _ h => nomatch h) (fun _ _ _ _ _ => gv_nm (i := 14) C.nd) (fun _ _ _ _ _ => pt_blk C (fun C => tv_ifs1 (tv_cmp (op_eqD C.room.units) os_eq (ev_callI I_law_swept C (by decide) (av_cons (ev_var (i := 2)) (av_cons (ev_var (i := 3)) (av_cons (ev_var (i := 14)) (av_nil)))) (arN_cons (arN_cons (arN_cons (arN_nil))))) (ev_var (i := 14)) (nomark _)))) (fun s H C1 cl fp => ev_blk C (fun C => ev_var (i := 14)))) (av_nil)))) (bv_cons (sv_if (tv_not (tv_val (ev_callI I_law_same C (by decide) (av_cons (ev_callI I_many_rest C (by decide) (av_cons (ev_var (i := 4)) (av_cons (ev_var (i := 6)) (av_nil))) (arN_cons (arN_cons (arN_nil)))) (av_cons (ev_var (i := 7)) (av_nil))) (arN_cons (arN_cons (arN_nil)))))) (bv_one (sv_ret (ev_bl))) (bv_nil)) (bv_cons (sv_set (i := 6) C.nd (ev_op or_add os_add (ev_int) (ev_callI I_law_draw C (by decide) (av_cons (ev_var (i := 1)) (av_cons (ev_int) (av_nil))) (arN_cons (arN_cons (arN_nil)))))) (bv_cons (sv_if (tv_not (tv_val (ev_callI I_law_same C (by decide) (av_cons (ev_callI I_many_rest C (by decide) (av_cons (ev_var (i := 4)) (av_cons (ev_var (i := 6)) (av_nil))) (arN_cons (arN_cons (arN_nil)))) (av_cons (ev_callI I_law_count C (by decide) (av_cons (ev_var (i := 2)) (av_cons (ev_var (i := 3)) (av_cons (ev_var (i := 6)) (av_nil)))) (arN_cons (arN_cons (arN_cons (arN_nil))))) (av_nil))) (arN_cons (arN_cons (arN_nil)))))) (bv_one (sv_ret (ev_bl))) (bv_nil)) (bv_cons (sv_set (i := 8) C.nd (ev_callI I_law_draw C (by decide) (av_cons (ev_var (i := 1)) (av_cons (ev_int) (av_nil))) (arN_cons (arN_cons (arN_nil))))) (bv_cons (sv_if (tv_cmp (op_eqD C.room.units) os_eq (ev_callI I_law_draw C (by decide) (av_cons (ev_var (i := 1)) (av_cons (ev_int) (av_nil))) (arN_cons (arN_cons (arN_nil)))) (ev_int) (nomark _)) (bv_cons (sv_set (i := 8) C.nd (ev_int)) (bv_cons (sv_set (i := 12) C.nd (ev_int)) (bv_cons (sv_for C (iv_rng1 T.n_range (av_cons (ev_int) (av_nil))) (gv_nm (i := 9) C.nd) (bv_one (sv_set (i := 12) C.nd (ev_op or_mul os_mul (ev_var (i := 12)) (ev_int))))) (bv_cons (sv_if (tv_cmp (op_neD C.room.units) os_ne (ev_callI I_many_rest C (by decide) (av_cons (ev_call0 I_same C (by decide)) (av_cons (ev_int) (av_nil))) (arN_cons (arN_cons (arN_nil)))) (ev_var (i := 12)) (nomark _)) (bv_one (sv_ret (ev_bl))) (bv_nil)) (bv_cons (sv_set (i := 13) C.nd (ev_callI I_many_rest C (by decide) (av_cons (ev_var (i := 4)) (av_cons (ev_int) (av_nil))) (arN_cons (arN_cons (arN_nil))))) (bv_one (sv_if (tv_w (wv_or (tv_cmp or_lt os_lt (ev_var (i := 13)) (ev_int) (nomark _)) (wv_or (tv_cmp op_gt os_gt (ev_var (i := 13)) (ev_var (i := 12)) (nomark _)) (wv_or1 (tv_cmp (op_neD C.room.units) os_ne (ev_cmp (op_eqD C.room.units) os_eq (ev_var (i := 13)) (ev_var (i := 12)) (nomark _)) (ev_callI I_law_is_same C (by decide) (av_cons (ev_var (i := 3)) (av_cons (ev_var (i := 2)) (av_nil))) (arN_cons (arN_cons (arN_nil)))) (nomark _)))))) (bv_one (sv_ret (ev_bl))) (bv_nil)))))))) (bv_nil)) (bv_cons (sv_for C (iv_rng1 T.n_range (av_cons (ev_int) (av_nil))) (gv_nm (i := 9) C.nd) (bv_one (sv_if (tv_not (tv_val (ev_callI I_law_same C (by decide) (av_cons (ev_callI I_swept_till C (by decide) (av_cons (ev_var (i := 4)) (av_cons (ev_var (i := 5)) (av_cons (ev_var (i := 8)) (av_nil)))) (arN_cons (arN_cons (arN_cons (arN_nil))))) (av_cons (ev_callI I_law_till C (by decide) (av_cons (ev_var (i := 2)) (av_cons (ev_var (i := 3)) (av_cons (ev_var (i := 5)) (av_cons (ev_var (i := 8)) (av_nil))))) (arN_cons (arN_cons (arN_cons (arN_cons (arN_nil)))))) (av_nil))) (arN_cons (arN_cons (arN_nil)))))) (bv_one (sv_ret (ev_bl))) (bv_nil)))) (bv_cons (sv_set (i := 10) C.nd (ev_ix ix_seq os_ix (ev_lst (av_cons (ev_non) (av_cons (ev_int) (av_cons (ev_op or_add os_add (ev_callTy call_list_of os_list T.n_list (av_cons (ev_var (i := 5)) (av_nil))) (ev_lst (av_cons (ev_int) (av_nil)))) (av_cons (ev_str) (av_cons (ev_tup (av_cons (ev_int) (av_nil))) (av_cons (ev_tup (av_cons (ev_bl) (av_nil))) (av_cons (ev_dict0) (av_nil))))))))) (ev_callI I_law_draw C (by decide) (av_cons (ev_var (i := 1)) (av_cons (ev_int) (av_nil))) (arN_cons (arN_cons (arN_nil)))) (fun _ _ => rfl))) (bv_cons (sv_set (i := 11) C.nd (ev_ix ix_seq os_ix (ev_lst (av_cons (ev_un un_neg os_neg (ev_int)) (av_cons (ev_int) (av_cons (ev_non) (av_cons (ev_bl) (av_cons (ev_str) (av_cons (ev_lst (av_cons (ev_int) (av_nil))) (av_cons (ev_dict0) (av_cons (ev_op op_pow os_pow (ev_int) (ev_int)) (av_nil)))))))))) (ev_callI I_law_draw C (by decide) (av_cons (ev_var (i := 1)) (av_cons (ev_int) (av_nil))) (arN_cons (arN_cons (arN_nil)))) (fun _ _ => rfl))) (bv_cons (sv_if (tv_w (wv_or (tv_cmp (op_neD C.room.units) os_ne (ev_callI I_law_asked C (by decide) (av_cons (ev_int) (av_cons (ev_var (i := 4)) (av_cons (ev_var (i := 10)) (av_cons (ev_int) (av_nil))))) (arN_cons (arN_cons (arN_cons (arN_cons (arN_nil)))))) (ev_lst (av_cons (ev_str) (av_cons (ev_str) (av_nil)))) (nomark _)) (wv_or1 (tv_cmp (op_neD C.room.units) os_ne (ev_callI I_law_asked C (by decide) (av_cons (ev_int) (av_cons (ev_var (i := 4)) (av_cons (ev_var (i := 10)) (av_cons (ev_var (i := 11)) (av_nil))))) (arN_cons (arN_cons (arN_cons (arN_cons (arN_nil)))))) (ev_lst (av_cons (ev_str) (av_cons (ev_str) (av_nil)))) (nomark _))))) (bv_one (sv_ret (ev_bl))) (bv_nil)) (bv_one (sv_ret (ev_and (ev_cmp (op_eqD C.room.units) os_eq (ev_callI I_law_asked C (by decide) (av_cons (ev_int) (av_cons (ev_var (i := 4)) (av_cons (ev_var (i := 5)) (av_cons (ev_var (i := 11)) (av_nil))))) (arN_cons (arN_cons (arN_cons (arN_cons (arN_nil)))))) (ev_lst (av_cons (ev_str) (av_cons (ev_str) (av_nil)))) (nomark _)) (ev_one (ev_cmp (op_eqD C.room.units) os_eq (ev_callI I_law_asked C (by decide) (av_cons (ev_int) (av_cons (ev_var (i := 4)) (av_cons (ev_var (i := 5)) (av_cons (ev_var (i := 11)) (av_nil))))) (arN_cons (arN_cons (arN_cons (arN_cons (arN_nil)))))) (ev_lst (av_cons (ev_str) (av_cons (ev_str) (av_nil)))) (nomark _))))))))))))))))))))))
theorem ok_law (T : Txt P w K mg base C_BadNumber C_LabelError C_BadRow C_BadWindow C_Window) (MK_Window : MkIs P w K mg base "Window" 4 2 F_Window___init__) (I_law_asked : FnIs P w K mg base "_law_asked" 6 4 F_law_asked) (I_law_count : FnIs P w K mg base "_law_count" 2 3 F_law_count) (I_law_draw : FnIs P w K mg base "_law_draw" 1 2 F_law_draw) (I_law_hand : FnIs P w K mg base "_law_hand" 1 1 F_law_hand) (I_law_is_same : FnIs P w K mg base "_law_is_same" 2 2 F_law_is_same) (I_law_radius : FnIs P w K mg base "_law_radius" 2 1 F_law_radius) (I_law_row : FnIs P w K mg base "_law_row" 2 2 F_law_row) (I_law_rows : FnIs P w K mg base "_law_rows" 1 1 F_law_rows) (I_law_same : FnIs P w K mg base "_law_same" 6 2 (F_law_same 5)) (I_law_swept : FnIs P w K mg base "_law_swept" 3 3 F_law_swept) (I_law_table : FnIs P w K mg base "_law_table" 2 2 F_law_table) (I_law_till : FnIs P w K mg base "_law_till" 4 4 F_law_till) (I_many_rest : FnIs P w K mg base "many_rest" 4 2 F_many_rest) (I_rests : FnIs P w K mg base "rests" 5 2 F_rests) (I_same : FnIs P w K mg base "same" 6 0 F_same) (I_swept_till : FnIs P w K mg base "swept_till" 5 3 F_swept_till) {f : Addr} {fd : FuncData} (F : Fun K "law" "law" s_law f fd) : FnOk P w K mg base (L2.CX P w) 7 f fd ["_law_script"] (spF K mg 1 F_law) := fn_okG lv_leave F sc_law rfl rfl fun _ _ _ _ _ _ C => hb_law T MK_Window I_law_asked I_law_count I_law_draw I_law_hand I_law_is_same I_law_radius I_law_row I_law_rows I_law_same I_law_swept I_law_table I_law_till I_many_rest I_rests I_same I_swept_till C
end
end SL

namespace SL
open PySem PySem.Spec PyProof.Rows L2
/-! ## the drawn numbers -/
def plW (ns : List Int) (p b n s : Int) : Cel := .lst [.lst (ns.map W.int), .int p, .int b, .int n, .int s]
section
variable {ns : List Int} {p b n s v : Int} {r : Sto}
@[simp] theorem pl0 : oIx (.cell 0) (.int 0) (plW ns p b n s :: r) = .ok (.lst (ns.map W.int)) (plW ns p b n s :: r) := rfl
@[simp] theorem pl1 : oIx (.cell 0) (.int 1) (plW ns p b n s :: r) = .ok (.int p) (plW ns p b n s :: r) := rfl
@[simp] theorem pl2 : oIx (.cell 0) (.int 2) (plW ns p b n s :: r) = .ok (.int b) (plW ns p b n s :: r) := rfl
@[simp] theorem pl3 : oIx (.cell 0) (.int 3) (plW ns p b n s :: r) = .ok (.int n) (plW ns p b n s :: r) := rfl
@[simp] theorem pl4 : oIx (.cell 0) (.int 4) (plW ns p b n s :: r) = .ok (.int s) (plW ns p b n s :: r) := rfl
@[simp] theorem ps1 : uLst (.cell 0) (.int 1) (.int v) (plW ns p b n s :: r) = some (plW ns v b n s :: r) := rfl
@[simp] theorem ps2 : uLst (.cell 0) (.int 2) (.int v) (plW ns p b n s :: r) = some (plW ns p v n s :: r) := rfl
@[simp] theorem ps3 : uLst (.cell 0) (.int 3) (.int v) (plW ns p b n s :: r) = some (plW ns p b v s :: r) := rfl
@[simp] theorem ps4 : uLst (.cell 0) (.int 4) (.int v) (plW ns p b n s :: r) = some (plW ns p b n v :: r) := rfl
end
def Pool (c : Cel) : Prop := ∃ ns p b n s, c = plW ns p b n s ∧ 0 ≤ p
/-- what is left of it once the number is ready -/
theorem sub_to {e o i : Sem} {t : SSem} {fr : Fr} {st st1 st2 st3 st4 : Sto} {w ov iv : W} {z : SOut} (h : e fr st = .ok w st1) (h1 : o fr st1 = .ok ov st2) (h2 : i fr st2 = .ok iv st3) (h3 : uLst ov iv w st3 = some st4) (hz : t fr st4 = z) : sSeq (sSub uLst e o i) t fr st = z := by
  unfold sSeq sSub; rw [h]; simp only [Out.stm_ok, h1, h2, h3]; exact hz
theorem draw_ok {c : Cel} {m : Int} (hp : Pool c) (h : 0 < m) (h2 : m.natAbs.log2 < 9000) : ∃ r c', Pool c' ∧ 0 ≤ r ∧ r < m ∧ ∀ rest, F_law_draw [.cell 0, .int m] (c :: rest) = .ok (.int r) (c' :: rest) := by
  obtain ⟨ns, p, b, n, s, rfl, hp⟩ := hp
  have e1 := fun i (h : 0 < i) => Int.emod_nonneg i (Int.ne_of_gt h)
  -- the last part, from a pool on
  have last : ∀ (p b n s : Int) (fr3 : Option W), 0 ≤ p → ∃ q c', Pool c' ∧ 0 ≤ q ∧ q < m ∧ ∀ rest, (sSeq (sIf (bOf (e2 oGt (e2 oIx (eVar 0) (eC (.int 2))) (eC (.int 0)))) (sSeq (sAsg (e2 oMod (eN oInt (aCons (e2 oIx (eVar 0) (eC (.int 2))) (aNil))) (eVar 1)) (gNm 4)) (sSeq (sSub uLst (e2 oDiv (e2 oIx (eVar 0) (eC (.int 2))) (eVar 1)) (eVar 0) (eC (.int 2))) (sRet (eVar 4)))) (sNil)) (sSeq (sAsg (e2 oMod (eN oInt (aCons (e2 oAdd (e2 oAdd (e2 oIx (eVar 0) (eC (.int 4))) (e2 oMul (e2 oIx (eVar 0) (eC (.int 3))) (eC (.int 104693)))) (eC (.int 11))) (aNil))) (eC (.int 2147483647))) (gNm 2)) (sSeq (sAsg (e2 oMod (eN oInt (aCons (e2 oMul (eVar 2) (e2 oAdd (e2 oDiv (eVar 2) (eC (.int 1031))) (eC (.int 69631)))) (aNil))) (eC (.int 2147483647))) (gNm 2)) (sSeq (sAsg (e2 oMod (eN oInt (aCons (e2 oMul (eVar 2) (e2 oAdd (e2 oDiv (eVar 2) (eC (.int 2039))) (eC (.int 40709)))) (aNil))) (eC (.int 2147483399))) (gNm 2)) (sRet (e2 oMod (eN oInt (aCons (e2 oDiv (eVar 2) (eC (.int 16))) (aNil))) (eVar 1))))))) [some (.cell 0), some (.int m), none, fr3, none] (plW ns p b n s :: rest) = .rt (.int q) (c' :: rest) := by
    intro p b n s fr3 hp
    by_cases hb : 0 < b
    · refine ⟨b % m, plW ns p (b / m) n s, ⟨_, _, _, _, _, rfl, hp⟩, Int.emod_nonneg _ (by omega), Int.emod_lt_of_pos _ h, fun rest => ?_⟩
      simp [hb, x_mod h, x_div h h2, ps2]
    · generalize hx : (s + n * 104693 + 11) % 2147483647 = x
      generalize hy : (x * (x / 1031 + 69631)) % 2147483647 = y
      generalize hw : (y * (y / 2039 + 40709)) % 2147483399 = z
      have x1 : -(2 ^ 64) < x ∧ x < 2 ^ 64 := by omega
      have y1 : -(2 ^ 64) < y ∧ y < 2 ^ 64 := by
        have := Int.emod_nonneg (x * (x / 1031 + 69631)) (b := 2147483647) (by omega)
        have := Int.emod_lt_of_pos (x * (x / 1031 + 69631)) (b := 2147483647) (by omega)
        omega
      refine ⟨(z / 16) % m, plW ns p b n s, ⟨_, _, _, _, _, rfl, hp⟩, Int.emod_nonneg _ (by omega), Int.emod_lt_of_pos _ h, fun rest => ?_⟩
      simp [hb, x_mod h, hx, x_mulL x1, hy, x_mulL y1, hw]
  by_cases hc : b = 0 ∧ p < ns.length
  · obtain ⟨hb, hpl⟩ := hc
    obtain ⟨v, hv⟩ : ∃ v, ns[p.toNat]? = some v := ⟨ns[p.toNat]'(by omega), by simp⟩
    have hv' : (ns.map W.int)[p.toNat]? = some (.int v) := by rw [List.getElem?_map, hv]; rfl
    by_cases hg : 1000000000000000000 ≤ v
    · obtain ⟨q, c', k1, k2, k3, k4⟩ := last (p + 1) v (n + 1) s (some (.int v)) (by omega)
      refine ⟨q, c', k1, k2, k3, fun rest => mk_rt (st1 := c' :: rest) ?_ (by simp)⟩
      rw [← k4]
      unfold B_law_draw
      refine sub_to (st4 := plW ns p b (n + 1) s :: rest) rfl rfl rfl ps3 ?_
      refine seq_to (fr1 := [some (.cell 0), some (.int m), none, some (.int v), none]) (st1 := plW ns (p + 1) v (n + 1) s :: rest) ?_ rfl
      simp [hb, hpl, x_ixL hp hv', ps1, ps2, x_pow, hg]
    · obtain ⟨q, c', k1, k2, k3, k4⟩ := last (p + 1) b (n + 1) ((s * 59 + v * 7877 + (n + 1)) % 2147483629) (some (.int v)) (by omega)
      refine ⟨q, c', k1, k2, k3, fun rest => mk_rt (st1 := c' :: rest) ?_ (by simp)⟩
      rw [← k4]
      unfold B_law_draw
      refine sub_to (st4 := plW ns p b (n + 1) s :: rest) rfl rfl rfl ps3 ?_
      refine seq_to (fr1 := [some (.cell 0), some (.int m), none, some (.int v), none]) (st1 := plW ns (p + 1) b (n + 1) ((s * 59 + v * 7877 + (n + 1)) % 2147483629) :: rest) ?_ rfl
      simp [hb, hpl, x_ixL hp hv', hg]
  · obtain ⟨q, c', k1, k2, k3, k4⟩ := last p b (n + 1) s none hp
    refine ⟨q, c', k1, k2, k3, fun rest => mk_rt (st1 := c' :: rest) ?_ (by simp)⟩
    rw [← k4]
    unfold B_law_draw
    refine sub_to (st4 := plW ns p b (n + 1) s :: rest) rfl rfl rfl ps3 ?_
    refine seq_to (fr1 := [some (.cell 0), some (.int m), none, none, none]) (st1 := plW ns p b (n + 1) s :: rest) ?_ rfl
    by_cases hb : b = 0
    · have : ¬ p < (ns.length : Int) := fun z => hc ⟨hb, z⟩
      simp [hb, this]
    · simp [hb]
theorem pool_ok (ns : List Int) : ∃ c, Pool c ∧ F_law_hand [.ro (ns.map W.int)] [] = .ok (.cell 0) [c] := by
  have hc : ∃ ms : List Int, cutW (ns.map W.int) none (some 63) = ms.map W.int := ⟨(ns.drop (HT.sIx (ns.map W.int).length 0 none)).take (HT.sIx (ns.map W.int).length (ns.map W.int).length (some 63) - HT.sIx (ns.map W.int).length 0 none), by
    unfold cutW; rw [List.map_take, List.map_drop]⟩
  obtain ⟨ms, hm⟩ := hc
  have hs : ∀ fr st, fr[0]? = some (some (.ro (ns.map W.int))) → eSl (eVar 0) pNo (pYes (eC (.int 63))) fr st = .ok (.lst (ms.map W.int)) st := fun fr st h => by
    simp [h]
    simp [oSl, hm]
  obtain ⟨fr', st', e1, w, s, rfl, rfl⟩ := x_for (f := iSeq (eSl (eVar 0) (pNo) (pYes (eC (.int 63))))) (g := gNm 2) (b := sAsg (e2 oMod (eN oInt (aCons (e2 oAdd (e2 oAdd (e2 oMul (eVar 1) (eC (.int 53))) (eVar 2)) (eC (.int 13))) (aNil))) (eC (.int 2147483629))) (gNm 1)) (fr := [some (.ro (ns.map W.int)), some (.int 31), none]) (st := []) (st1 := []) (x := .lst (ms.map W.int)) (all := ms.map W.int)
    (by unfold iSeq; rw [hs _ _ rfl]; rfl) (fun _ fr st => ∃ (w : Option W) (s : Int), fr = [some (.ro (ns.map W.int)), some (.int s), w] ∧ st = []) ⟨none, 31, rfl, rfl⟩ (fun _ _ _ _ => trivial) (by
      rintro k fr st w ⟨u, s, rfl, rfl⟩ hw
      rw [List.getElem?_map] at hw
      obtain ⟨z, _, rfl⟩ := Option.map_eq_some_iff.mp hw
      refine ⟨_, _, _, rfl, .inl ?_, some (.int z), (s * 53 + z + 13) % 2147483629, rfl, rfl⟩
      simp)
  refine ⟨plW ms 0 0 0 s, ⟨_, _, _, _, _, rfl, Int.le_refl _⟩, ?_⟩
  have hb : B_law_hand [some (.ro (ns.map W.int)), none, none] [] = .rt (.cell 0) [plW ms 0 0 0 s] := by
    unfold B_law_hand
    refine asg_to (w := .int 31) rfl (seq_to e1 ?_)
    have z := hs [some (.ro (ns.map W.int)), some (.int s), w] [] rfl
    simp only [x_ret, x_N, x_aCons, z, x_aNil, Out.bind_ok, x_list_lst, x_c, x_var]
    rfl
  unfold F_law_hand mkFnC mkFnG
  show (match B_law_hand [some (.ro (ns.map W.int)), none, none] [] with
    | .nx _ st1 => leave 0 .non st1 | .rt w st1 => leaveC 0 w st1 | .er x _ st1 => leaveX 0 x st1 | _ => .bad) = _
  rw [hb]
  show leaveC 0 (.cell 0) [plW ms 0 0 0 s] = _
  have ho : oldW 0 (plW ms 0 0 0 s) = true := by
    have z : ∀ l : List Int, fz0s 0 (fun _ => none) (l.map W.int) = some (l.map W.int) := fun l => by
      induction l with
      | nil => rfl
      | cons a l ih => rw [List.map_cons, fz0s, ih]; rfl
    unfold plW oldW
    simp only [fz0s, fz0, z]; rfl
  unfold leaveC
  simp [ho]
  rfl
/-! ## _law_same of what is the same -/
def okD : Nat → W → Bool
  | 0, _ => false
  | d + 1, w => match w with
    | .non | .bl _ | .int _ => true
    | .str x => PyData.strOk x
    | .tup ws | .lst ws => decide (ws.length ≤ 1000000) && ws.all (okD d)
    | _ => false
theorem nil_all {ys : List W} {p : W → Bool} (h : ∀ w ∈ ys, p w = false) : (ys.filter p).map id = [] := by
  rw [List.filter_eq_nil_iff.mpr fun w hw => by rw [h w hw]; simp]; rfl
/-! ## _law_same by what stands behind -/
def scal : W → Bool
  | .non | .bl _ | .int _ => true
  | .str x => PyData.strOk x
  | _ => false
def SameR (st : Sto) : Nat → W → W → Prop
  | 0, _, _ => False
  | d + 1, x, y => (x = y ∧ scal x = true) ∨ ∃ (t : String) (us ws : List W), (t = "list" ∨ t = "tuple") ∧ tyW st x = some t ∧ tyW st y = some t ∧ seqW st x = some us ∧ seqW st y = some ws ∧ ws.length ≤ 1000000 ∧ Both (SameR st d) us ws
theorem Both.len {α β : Type} {R : α → β → Prop} {l : List α} {m : List β} (h : Both R l m) : l.length = m.length := by
  induction h with
  | nil => rfl
  | cons _ _ ih => simp [ih]
theorem Both.get {α β : Type} {R : α → β → Prop} {l : List α} {m : List β} (h : Both R l m) : ∀ {k : Nat} {a : α} {b : β}, l[k]? = some a → m[k]? = some b → R a b := by
  induction h with
  | nil => intro k a b e; simp at e
  | cons h _ ih =>
    intro k a b e1 e2
    cases k with
    | zero => simp at e1 e2; rw [← e1, ← e2]; exact h
    | succ k => simp at e1 e2; exact ih e1 e2
theorem Both.map {α β γ : Type} {R : β → γ → Prop} (f : α → β) (g : α → γ) : ∀ l : List α, (∀ a ∈ l, R (f a) (g a)) → Both R (l.map f) (l.map g)
  | [], _ => .nil
  | a :: l, h => .cons (h a List.mem_cons_self) (Both.map f g l fun b hb => h b (List.mem_cons_of_mem _ hb))
theorem Both.refl {α : Type} {R : α → α → Prop} : ∀ l : List α, (∀ a ∈ l, R a a) → Both R l l
  | [], _ => .nil
  | a :: l, h => .cons (h a List.mem_cons_self) (Both.refl l fun b hb => h b (List.mem_cons_of_mem _ hb))
theorem isi2_of {x : W} {t a b : String} {st : Sto} (h : tyW st x = some t) (h1 : tyN t = true) (h2 : tyN a = true) (h3 : tyN b = true) : oIsi [x, .tup [.ty a, .ty b]] st = .ok (.bl (subT t a || subT t b)) st := by
  show (match tyW st x, tyNames [.ty a, .ty b] with
    | some t, some ns => if tyN t && ns.all tyN then Out.ok (W.bl (ns.any (subT t))) st else .bad
    | _, _ => .bad) = _
  rw [h]; simp [tyNames, h1, h2, h3]
theorem not_str {x : W} {t : String} {st : Sto} (h : tyW st x = some t) (ht : t = "list" ∨ t = "tuple") : ∀ z, x ≠ .str z := by
  rintro z rfl
  have e : tyW st (.str z) = some "str" := rfl
  rw [e] at h
  rcases ht with rfl | rfl <;> exact absurd h (by decide)
theorem not_non {x : W} {t : String} {st : Sto} (h : tyW st x = some t) (ht : t = "list" ∨ t = "tuple") : isNon x = false := by
  cases x with
  | non =>
    have e : tyW st .non = some "NoneType" := rfl
    rw [e] at h
    rcases ht with rfl | rfl <;> exact absurd h (by decide)
  | _ => rfl
theorem eq_non_ {st : Sto} : oEq .non .non st = .ok (.bl true) st := rfl
theorem same_of : ∀ (d : Nat) (x y : W) (st : Sto), SameR st d x y → F_law_same d [x, y] st = .ok (.bl true) st
  | 0, _, _, _, h => h.elim
  | d + 1, x, y, st, h => by
    rcases h with ⟨rfl, hs⟩ | ⟨t, us, ws, ht, hx, hy, sx, sy, hn, hb⟩
    · cases x with
      | non => exact mk_rt (st1 := st) (by simp [B_law_same, isNon, x_tup, eq_non_]) rfl
      | bl b => exact mk_rt (st1 := st) (by simp [B_law_same, isNon, x_tup]) rfl
      | int i => exact mk_rt (st1 := st) (by simp [B_law_same, isNon, x_tup]) rfl
      | str z => exact mk_rt (st1 := st) (by simp [B_law_same, isNon, x_tup, eq_str hs]) rfl
      | _ => cases hs
    · have hl : us.length = ws.length := hb.len
      have lx := x_len (st := st) sx (not_str hx ht)
      have ly := x_len (st := st) sy (not_str hy ht)
      have tn : tyN t = true := by rcases ht with rfl | rfl <;> decide +kernel
      have z : eLc (iRng rg1 (aCons (eN oLen (aCons (eVar 1) (aNil))) (aNil))) (gNm 2) [2] (bNot (bOf (eCall ((F_law_same d)) (aCons (e2 oIx (eVar 0) (eVar 2)) (aCons (e2 oIx (eVar 1) (eVar 2)) (aNil)))))) (eVar 2) [some x, some y, none] st = .ok (.lst []) st := by
        refine x_lc (st1 := st) (all := rngW 0 1 ws.length) (x := .non) (x_rng1 (j := ws.length) (by simp [ly]) (by omega) (by omega)) ?_
        rw [lc_filter (x := .non) (p := fun _ => false) (f := id) trivial]
        · rw [nil_all fun _ _ => rfl]
        · intro w hw
          obtain ⟨k, hk, rfl⟩ := rng_mem hw
          have hk2 : k < us.length := by omega
          have e1 : us[k]? = some us[k] := by simp [hk2]
          have e2 : ws[k]? = some ws[k] := by simp [hk]
          have i1 := x_ix (st := st) sx (not_str hx ht) (ixN_nat hk2) e1
          have i2 := x_ix (st := st) sy (not_str hy ht) (ixN_nat hk) e2
          refine ⟨_, rfl, ?_, fun z => by cases z⟩
          have q := same_of d _ _ st (hb.get e1 e2)
          simp [wipeF, i1, i2, q]
      refine mk_rt (st1 := st) ?_ rfl
      show B_law_same (F_law_same d) [some x, some y, none] st = _
      unfold B_law_same
      have a5 := oIsi_eq (n := "list") hx tn (by decide +kernel)
      have a6 := oIsi_eq (n := "list") hy tn (by decide +kernel)
      have a7 := isi2_of (a := "list") (b := "tuple") hx tn (by decide +kernel) (by decide +kernel)
      have a8 := isi2_of (a := "list") (b := "tuple") hy tn (by decide +kernel) (by decide +kernel)
      rcases ht with rfl | rfl <;> simp [a5, a6, a7, a8, x_tup, lx, ly, hl, z]
theorem sameR_refl : ∀ (d : Nat) (w : W) (st : Sto), okD d w = true → SameR st d w w
  | 0, _, _, h => by cases h
  | d + 1, w, st, h => by
    cases w with
    | tup ws =>
      have h' : (decide (ws.length ≤ 1000000) && ws.all (okD d)) = true := h
      rw [Bool.and_eq_true] at h'
      exact .inr ⟨"tuple", ws, ws, .inr rfl, rfl, rfl, rfl, rfl, of_decide_eq_true h'.1, Both.refl ws fun a ha => sameR_refl d a st (List.all_eq_true.mp h'.2 a ha)⟩
    | lst ws =>
      have h' : (decide (ws.length ≤ 1000000) && ws.all (okD d)) = true := h
      rw [Bool.and_eq_true] at h'
      exact .inr ⟨"list", ws, ws, .inl rfl, rfl, rfl, rfl, rfl, of_decide_eq_true h'.1, Both.refl ws fun a ha => sameR_refl d a st (List.all_eq_true.mp h'.2 a ha)⟩
    | non => exact .inl ⟨rfl, rfl⟩
    | bl b => exact .inl ⟨rfl, rfl⟩
    | int b => exact .inl ⟨rfl, rfl⟩
    | str z => exact .inl ⟨rfl, h⟩
    | _ => cases h

end SL
namespace SL
open PySem PySem.Spec PyProof.Rows L2
/-! ## rows -/
def plainW : W → Bool
  | .non | .bl _ | .int _ | .str _ | .tup _ | .lst _ => true
  | .dct [] _ => true
  | .dct (.str _ :: _) _ => true
  | _ => false
@[simp] theorem plain_int {i : Int} : plainW (.int i) = true := by simp only [plainW]
@[simp] theorem plain_non : plainW .non = true := by simp only [plainW]
@[simp] theorem plain_bl {i : Bool} : plainW (.bl i) = true := by simp only [plainW]
@[simp] theorem plain_str {i : Str} : plainW (.str i) = true := by simp only [plainW]
@[simp] theorem plain_tup {i : List W} : plainW (.tup i) = true := by simp only [plainW]
@[simp] theorem plain_lst {i : List W} : plainW (.lst i) = true := by simp only [plainW]
def isI : W → Bool
  | .int _ => true
  | _ => false
def betw (lo hi : Int) : W → Bool
  | .int i => decide (lo ≤ i) && decide (i ≤ hi)
  | _ => false
@[simp] theorem betw_int {lo hi i : Int} : betw lo hi (.int i) = (decide (lo ≤ i) && decide (i ≤ hi)) := rfl
def itemsW : W → List W
  | .tup ws => ws
  | _ => []
def rowW : W → Bool
  | .tup ws => ws.all (betw 0 1)
  | _ => false
@[simp] theorem isint_ok {w : W} {st : Sto} (h : plainW w = true) : F_is_integer [w] st = .ok (.bl (isI w)) st := by
  cases w with
  | dct ks ws =>
    cases ks with
    | nil => exact mk_rt (st1 := st) (by simp [B_is_integer, isI]) rfl
    | cons k ks =>
      cases k with
      | str x => exact mk_rt (st1 := st) (by simp [B_is_integer, isI]) rfl
      | _ => cases h
  | _ => first | (cases h; done) | exact mk_rt (st1 := st) (by simp [B_is_integer, isI]) rfl
@[simp] theorem betw_ok {w : W} {lo hi : Int} {st : Sto} (h : plainW w = true) : F_is_between [w, .int lo, .int hi] st = .ok (.bl (betw lo hi w)) st := by
  refine mk_rt (st1 := st) ?_ rfl
  unfold B_is_between
  cases w with
  | int i =>
    simp [h, isI, betw]
    by_cases z : lo ≤ i <;> simp [z]
  | _ => first | (cases h; done) | simp [h, isI, betw]
theorem bls_map : ∀ (ws : List W) (p : W → Bool), blsW (ws.map fun w => .bl (p w)) = some (ws.map p)
  | [], p => rfl
  | w :: ws, p => by rw [List.map_cons, blsW, bls_map ws p]; rfl
theorem all_id (ws : List W) (p : W → Bool) : (ws.map p).all id = ws.all p := by
  induction ws with
  | nil => rfl
  | cons a l ih => simp [ih]
def okRow (w : W) : Bool := plainW w && (itemsW w).all plainW
@[simp] theorem is_row_ok {w : W} {st : Sto} (h : okRow w = true) : F_is_row [w] st = .ok (.bl (rowW w)) st := by
  unfold okRow at h
  rw [Bool.and_eq_true] at h
  refine mk_rt (st1 := st) ?_ rfl
  unfold B_is_row
  cases w with
  | tup ws =>
    have hz := h.2
    have z : eLc (iSeq (eVar 0)) (gNm 1) [1] (tTrue) (eCall F_is_between (aCons (eVar 1) (aCons (eC (.int 0)) (aCons (eC (.int 1)) (aNil))))) [some (.tup ws), none] st = .ok (.lst (ws.map fun w => .bl (betw 0 1 w))) st := by
      refine x_lc (st1 := st) (x := .tup ws) (all := ws) (by simp) ?_
      refine lc_map (x := .tup ws) trivial ws fun w hw => ⟨_, rfl, rfl, ?_⟩
      have hp := List.all_eq_true.mp hz w hw
      simp [wipeF, hp]
    simp [z]
    simp [oAll, oBls, bls_map, all_id, rowW]
  | dct ks ws =>
    cases ks with
    | nil => simp [rowW]
    | cons k ks =>
      cases k with
      | str x => simp [rowW]
      | _ => exact Bool.noConfusion h.1
  | _ => first | (cases h.1; done) | simp [rowW]
def rowEr (p : Str) : Exc := ⟨"BadRow", ["part"], [.str p]⟩
theorem check_ok {w : W} {p : Str} {st : Sto} (h : okRow w = true) (h2 : rowW w = true) : F_check_row [w, .str p] st = .ok .non st := by
  refine mk_nx (st1 := st) (fr := [some w, some (.str p)]) ?_ rfl
  unfold B_check_row
  simp [h, h2]
theorem check_er {w : W} {p : Str} {st : Sto} (h : okRow w = true) (h2 : rowW w = false) : F_check_row [w, .str p] st = .err (rowEr p) st := by
  refine mk_er (st1 := st) (fr := [some w, some (.str p)]) ?_ rfl
  unfold B_check_row
  simp [h, h2, sRaise]
  rfl
def bits (ns : List Int) : W := .tup (ns.map W.int)
def Bits (ns : List Int) : Prop := ∀ n ∈ ns, n = 0 ∨ n = 1
theorem bits_ok (ns : List Int) : okRow (bits ns) = true := by
  simp [okRow, bits, plainW, itemsW]
theorem bits_row {ns : List Int} (h : Bits ns) : rowW (bits ns) = true := by
  show (ns.map W.int).all (betw 0 1) = true
  rw [List.all_map, List.all_eq_true]
  intro n hn
  rcases h n hn with rfl | rfl <;> rfl
@[simp] theorem get_new {st : Sto} {c : Cel} : (st ++ [c])[st.length]? = some c := by simp
@[simp] theorem set_new {st : Sto} {c d : Cel} : (st ++ [c]).set st.length d = st ++ [d] := by simp
def num (ns : List Int) : Int := ns.foldl (fun a c => 2 * a + c) 0
theorem take_next {α : Type} {l : List α} {k : Nat} {w : α} (h : l[k]? = some w) : l.take (k + 1) = l.take k ++ [w] := by
  have hk : k < l.length := by
    rcases Nat.lt_or_ge k l.length with q | q
    · exact q
    · rw [List.getElem?_eq_none q] at h; cases h
  rw [List.take_succ, h]; rfl
theorem ints_at {ns : List Int} {k : Nat} {w : W} (h : (ns.map W.int)[k]? = some w) : ∃ z, ns[k]? = some z ∧ w = .int z := by
  rw [List.getElem?_map] at h
  obtain ⟨z, h1, h2⟩ := Option.map_eq_some_iff.mp h
  exact ⟨z, h1, h2.symm⟩
@[simp] theorem cell_number_ok {ns : List Int} {st : Sto} : F_cell_number [bits ns] st = .ok (.int (num ns)) st := by
  refine mk_rt (st1 := st) ?_ rfl
  show B_cell_number [some (bits ns), none, none] st = _
  unfold B_cell_number
  obtain ⟨fr', st', e1, w, rfl, rfl⟩ := x_for (f := iSeq (eVar 0)) (g := gNm 2) (b := sAsg (e2 oAdd (e2 oMul (eC (.int 2)) (eVar 1)) (eVar 2)) (gNm 1)) (fr := [some (bits ns), some (.int 0), none]) (st := st) (st1 := st) (x := bits ns) (all := ns.map W.int)
    (by simp [bits]) (fun k fr s => ∃ w : Option W, fr = [some (bits ns), some (.int (num (ns.take k))), w] ∧ s = st) ⟨none, rfl, rfl⟩ (fun _ _ _ _ => trivial) (by
      rintro k fr s w ⟨u, rfl, rfl⟩ hw
      obtain ⟨z, hz, rfl⟩ := ints_at hw
      refine ⟨_, _, _, rfl, .inl ?_, some (.int z), rfl, rfl⟩
      rw [take_next hz]
      simp [num, List.foldl_append])
  refine asg_to rfl (seq_to e1 ?_)
  simp
@[simp] theorem rngW_len {lo c : Int} {n : Nat} : (rngW lo c n).length = n := by simp [rngW]
theorem fz_ints (n : Nat) (f : Nat → Option W) : ∀ ns : List Int, fz0s n f (ns.map W.int) = some (ns.map W.int)
  | [] => rfl
  | a :: l => by rw [List.map_cons, fz0s, fz_ints n f l]; rfl
theorem fz_bits (n : Nat) (f : Nat → Option W) (ns : List Int) : fz0 n f (bits ns) = some (bits ns) := by
  unfold bits fz0; rw [fz_ints]; rfl
theorem pool_old {c : Cel} (h : Pool c) (n : Nat) : oldW n c = true := by
  obtain ⟨ns, p, b, m, s, rfl, _⟩ := h
  unfold plW oldW
  simp only [fz0s, fz0, fz_ints]; rfl
theorem pool_all {c : Cel} (h : Pool c) : List.all [c] (oldW (List.length [c])) = true := by
  rw [List.all_cons, pool_old h]; rfl
theorem ix_mem {ws : List W} {i : Int} (h : 0 ≤ i) (h2 : i < ws.length) : ∃ w, w ∈ ws ∧ ∀ st, oIx (.lst ws) (.int i) st = .ok w st := by
  have hk : i.toNat < ws.length := by omega
  exact ⟨ws[i.toNat], List.getElem_mem hk, fun st => x_ixL h (by simp)⟩
theorem ne_two {a b : Str} {st : Sto} (h : PyData.strOk a = true) (h2 : PyData.strOk b = true) : oNe (.lst [.str a, .str b]) (.lst [.str a, .str b]) st = .ok (.bl false) st := by
  have e : eqW st (.lst [.str a, .str b]) (.lst [.str a, .str b]) = some true := by
    unfold eqW
    have p : pdT st (.lst [.str a, .str b]) = some (.list [.str a, .str b]) := rfl
    rw [p]
    have s : SeqAt.shaped (.list [.str a, .str b]) = true := by
      unfold SeqAt.shaped
      have c : PyData.canLay0 (.list [.str a, .str b]) = true := by simp only [PyData.canLay0, PyData.canLayAll0, h, h2]; rfl
      rw [c]; rfl
    have q : PyData.eqv (.list [.str a, .str b]) (.list [.str a, .str b]) = true := by
      show ((a == a) && ((b == b) && true)) = true
      simp
    simp only [s, q]; rfl
  unfold oNe; rw [e]; rfl
theorem ok_ints (d : Nat) (ns : List Int) : (ns.map W.int).all (okD (d + 1)) = true := by
  rw [List.all_map, List.all_eq_true]; intro n _; rfl
theorem ok_bits (d : Nat) {ns : List Int} (h : ns.length ≤ 1000000) : okD (d + 2) (bits ns) = true := by
  show (decide ((ns.map W.int).length ≤ 1000000) && (ns.map W.int).all (okD (d + 1))) = true
  rw [ok_ints, List.length_map, decide_eq_true h]; rfl
theorem ok_int (d : Nat) (i : Int) : okD (d + 1) (.int i) = true := rfl
theorem ok_told (d : Nat) {s : Str} {w : W} (h : PyData.strOk s = true) (hw : okD (d + 1) w = true) : okD (d + 2) (.lst [.str s, w]) = true := by
  show (decide (2 ≤ 1000000) && (PyData.strOk s && (okD (d + 1) w && true))) = true
  rw [h, hw]; rfl
theorem both_bits : ∀ {ws ys : List W}, Both (fun (_ : W) y => ∃ b : Int, y = .int b ∧ (b = 0 ∨ b = 1)) ws ys → ∃ ns, Bits ns ∧ ns.length = ws.length ∧ ys = ns.map W.int
  | _, _, .nil => ⟨[], fun _ h => (nomatch h), rfl, rfl⟩
  | _, _, .cons ⟨b, e, hb⟩ r => by
    obtain ⟨ns, h1, h2, h3⟩ := both_bits r
    refine ⟨b :: ns, fun n hn => ?_, by simp [h2], by rw [e, h3]; rfl⟩
    rcases List.mem_cons.mp hn with rfl | hn
    · exact hb
    · exact h1 n hn
theorem bits_app {x y : List Int} {st : Sto} (h : x.length + y.length ≤ 1000000) : oAdd (bits x) (bits y) st = .ok (bits (x ++ y)) st := by
  show (if (x.map W.int).length + (y.map W.int).length ≤ LINE then Out.ok (W.tup (x.map W.int ++ y.map W.int)) st else .bad) = _
  rw [if_pos (by simp [LINE]; omega), ← List.map_append]; rfl
theorem row_drawn {c : Cel} {n : Int} (h : Pool c) (h0 : 0 ≤ n) (h1 : n ≤ 1000) : ∃ ns c', Bits ns ∧ ns.length = n.toNat ∧ Pool c' ∧ F_law_row [.cell 0, .int n] [c] = .ok (bits ns) [c'] := by
  obtain ⟨ys, st', e1, ⟨c', rfl, hp⟩, e2⟩ := lc_inv (x := .non) (all := rngW 0 1 n.toNat) (g := gNm 2) (t := tTrue) (e := eCall F_law_draw (aCons (eVar 0) (aCons (eC (.int 2)) (aNil)))) (fr := [some (.cell 0), some (.int n), none]) (fun st => ∃ c, st = [c] ∧ Pool c) (fun (_ : W) y => ∃ b : Int, y = .int b ∧ (b = 0 ∨ b = 1)) (fun _ _ => trivial) (rngW 0 1 n.toNat) [c] ⟨c, rfl, h⟩ (by
      rintro w _ st ⟨c, rfl, hc⟩
      obtain ⟨r, c1, p1, r0, r1, e⟩ := draw_ok (m := 2) hc (by decide) (log_small (by decide) (by decide))
      exact ⟨_, .int r, [c1], rfl, rfl, by simp [e], ⟨c1, rfl, p1⟩, r, rfl, by omega⟩)
  obtain ⟨ns, b1, b2, rfl⟩ := both_bits e2
  refine ⟨ns, c', b1, by simpa using b2, hp, mk_rt (st1 := [c']) ?_ rfl⟩
  show B_law_row [some (.cell 0), some (.int n), none] [c] = _
  unfold B_law_row
  have z := x_lc (own := [2]) (fr := [some (.cell 0), some (.int n), none]) (st := [c]) (st1 := [c]) (x_rng1 (l := aCons (eVar 1) aNil) (j := n) (by simp) (by omega) (by omega)) e1
  simp [z]
  rfl

end SL
namespace SL
open PySem PySem.Spec PyProof.Rows L2
/-! ## windows -/
def wnd (r : Int) (t : List Int) : W := .ins "Window" ["radius", "table"] [.int r, bits t]
theorem fld_r {r : Int} {t : List Int} {i : Nat} {fr : Fr} {st : Sto} (h : fr[i]? = some (some (wnd r t))) : eFld ["Window"] "radius" (eVar i) fr st = .ok (.int r) st := by
  unfold eFld
  simp only [x_var, h, Out.bind_ok]
  rfl
theorem fld_t {r : Int} {t : List Int} {i : Nat} {fr : Fr} {st : Sto} (h : fr[i]? = some (some (wnd r t))) : eFld ["Window"] "table" (eVar i) fr st = .ok (bits t) st := by
  unfold eFld
  simp only [x_var, h, Out.bind_ok]
  rfl
theorem count_ok {w : Int} {st : Sto} (h : 0 ≤ w) (h2 : w ≤ 1000) : F_count_rows [.int w] st = .ok (.int (2 ^ w.toNat)) st := by
  refine mk_rt (st1 := st) ?_ rfl
  show B_count_rows [some (.int w), none, none] st = _
  unfold B_count_rows
  obtain ⟨fr', st', e1, u, rfl, rfl⟩ := x_for (f := iRng rg1 (aCons (eVar 0) (aNil))) (g := gNm 2) (b := sAsg (e2 oMul (eC (.int 2)) (eVar 1)) (gNm 1)) (fr := [some (.int w), some (.int 1), none]) (st := st) (st1 := st) (x := .non) (all := rngW 0 1 w.toNat)
    (x_rng1 (by simp) (by omega) (by omega)) (fun k fr s => ∃ u : Option W, fr = [some (.int w), some (.int (2 ^ k)), u] ∧ s = st) ⟨none, rfl, rfl⟩ (fun _ _ _ _ => trivial) (by
      rintro k fr s z ⟨u, rfl, rfl⟩ hw
      refine ⟨_, _, _, rfl, .inl ?_, some z, rfl, rfl⟩
      simp [Int.pow_succ, Int.mul_comm])
  refine asg_to rfl (seq_to e1 ?_)
  simp
@[simp] theorem span_ok {r : Int} {st : Sto} : F_span_of [.int r] st = .ok (.int (2 * r + 1)) st := mk_rt (st1 := st) (by simp [B_span_of]) rfl
/-- a list or a tuple of plain values, as a table -/
def tabW (st : Sto) (r : Int) (w : W) : Bool := match tyW st w, seqW st w with
  | some t, some ws => (t == "list" || t == "tuple") && (decide ((ws.length : Int) = 2 ^ (2 * r + 1).toNat) && ws.all (betw 0 1))
  | _, _ => false
theorem items_no {w : W} {t : String} {st : Sto} (h : tyW st w = some t) (h2 : tyN t = true) (h3 : (t == "list" || t == "tuple") = false) : F_is_items [w] st = .ok (.bl false) st := by
  refine mk_rt (st1 := st) ?_ rfl
  show B_is_items [some w] st = _
  unfold B_is_items
  have a := isi2_of (a := "tuple") (b := "list") h h2 (by decide +kernel) (by decide +kernel)
  have z : (subT t "tuple" || subT t "list") = false := by
    simp only [tyN, Bool.or_eq_true, beq_iff_eq] at h2
    rcases h2 with (((((rfl | rfl) | rfl) | rfl) | rfl) | rfl) | rfl <;> first | (simp at h3; done) | (simp; done)
  rw [z] at a
  simp [x_tup, a]
theorem items_yes {w : W} {t : String} {st : Sto} (h : tyW st w = some t) (h3 : t = "list" ∨ t = "tuple") : F_is_items [w] st = .ok (.bl true) st := by
  refine mk_rt (st1 := st) ?_ rfl
  show B_is_items [some w] st = _
  unfold B_is_items
  have a := isi2_of (a := "tuple") (b := "list") h (by rcases h3 with rfl | rfl <;> decide +kernel) (by decide +kernel) (by decide +kernel)
  rcases h3 with rfl | rfl <;> simp [x_tup, a]
theorem table_no {w : W} {t : String} {r : Int} {st : Sto} (h : tyW st w = some t) (h2 : tyN t = true) (h3 : (t == "list" || t == "tuple") = false) : F_is_table [w, .int r] st = .ok (.bl false) st := by
  refine mk_rt (st1 := st) ?_ rfl
  show B_is_table [some w, some (.int r), none] st = _
  unfold B_is_table
  simp [items_no h h2 h3]
theorem table_seq {w : W} {t : String} {r : Int} {ws : List W} {st : Sto} (h : tyW st w = some t) (h3 : t = "list" ∨ t = "tuple") (hs : seqW st w = some ws) (hi : itW st w = some ws) (hsrc : srcOk w ws st) (h0 : 0 ≤ r) (h1 : r ≤ 3) (hp : ws.all plainW = true) : F_is_table [w, .int r] st = .ok (.bl (decide ((ws.length : Int) = 2 ^ (2 * r + 1).toNat) && ws.all (betw 0 1))) st := by
  refine mk_rt (st1 := st) ?_ rfl
  show B_is_table [some w, some (.int r), none] st = _
  unfold B_is_table
  have hl := x_len (st := st) hs (not_str h h3)
  have hc := count_ok (w := 2 * r + 1) (st := st) (by omega) (by omega)
  have z : eLc (iSeq (eVar 0)) (gNm 2) [2] (tTrue) (eCall F_is_between (aCons (eVar 2) (aCons (eC (.int 0)) (aCons (eC (.int 1)) (aNil))))) [some w, some (.int r), none] st = .ok (.lst (ws.map fun w => .bl (betw 0 1 w))) st := by
    refine x_lc (st1 := st) (x := w) (all := ws) (by simp [hi]) ?_
    refine lc_map hsrc ws fun u hu => ⟨_, rfl, rfl, ?_⟩
    have hp' := List.all_eq_true.mp hp u hu
    simp [wipeF, hp']
  by_cases q : (ws.length : Int) = 2 ^ (2 * r + 1).toNat
  · simp [items_yes h h3, hl, hc, q, z]
    simp [oAll, oBls, bls_map, all_id]
  · simp [items_yes h h3, hl, hc, q]
def winEr (p : Str) : Exc := ⟨"BadWindow", ["part"], [.str p]⟩

end SL
namespace SL
open PySem PySem.Spec PyProof.Rows L2
theorem leave_ins {c : Str} {ns : List Str} {ws : List W} {st : Sto} (ho : st.all (oldW st.length) = true) (hw : ∀ f, fz0s st.length f ws = some ws) : leave st.length (.cell st.length) (st ++ [.ins c ns ws]) = .ok (.ins c ns ws) st := by
  unfold leave
  rw [if_neg (by simp)]
  have e : fz0 st.length (fzc st.length (st ++ [Cel.ins c ns ws]) ((st ++ [Cel.ins c ns ws]).length + 1)) (.cell st.length) = some (.ins c ns ws) := by
    rw [fz0, if_neg (Nat.lt_irrefl _)]
    rw [fzc]
    simp [hw]
  rw [e]
  simp only [List.take_left, ho, if_true]
def preW : Cel := .ins "Window" [] []
def setR (r : Int) : Cel := .ins "Window" ["radius"] [.int r]
def doneW (r : Int) (t : List Int) : Cel := .ins "Window" ["radius", "table"] [.int r, bits t]
theorem init_ok {r : Int} {t : List Int} {tw : W} {st : Sto} (h0 : 0 ≤ r) (h1 : r ≤ 3) (ht : F_is_table [tw, .int r] (st ++ [preW]) = .ok (.bl true) (st ++ [preW])) (hu : oTuple [tw] (st ++ [setR r]) = .ok (bits t) (st ++ [setR r])) :
    F_Window___init__ [.cell st.length, .int r, tw] (st ++ [preW]) = .ok .non (st ++ [doneW r t]) := by
  refine mk_nx (st1 := st ++ [doneW r t]) (fr := [some (.cell st.length), some (.int r), some tw]) ?_ (by simp)
  show B_Window___init__ [some (.cell st.length), some (.int r), some tw] (st ++ [preW]) = _
  unfold B_Window___init__
  refine if_no (st1 := st ++ [preW]) (st2 := st ++ [preW]) (by simp [h0, h1]) rfl ?_
  refine if_no (st1 := st ++ [preW]) (st2 := st ++ [preW]) (by simp [ht]) rfl ?_
  refine seq_to (fr1 := [some (.cell st.length), some (.int r), some tw]) (st1 := st ++ [setR r]) ?_ ?_
  · unfold sFldS
    simp
    simp [preW, setR, putNs, putL]
  · unfold sFldS
    simp [hu]
    have e1 : ¬ (("radius" : Str) = "table") := by decide
    simp [setR, doneW, putNs, putL, e1]
theorem init_radius {rw_ tw : W} {st : Sto} (hp : plainW rw_ = true) (h : betw 0 3 rw_ = false) : F_Window___init__ [.cell st.length, rw_, tw] (st ++ [preW]) = .err (winEr "radius") (st ++ [preW]) := by
  refine mk_er (st1 := st ++ [preW]) (fr := [some (.cell st.length), some rw_, some tw]) ?_ rfl
  show B_Window___init__ [some (.cell st.length), some rw_, some tw] (st ++ [preW]) = _
  unfold B_Window___init__
  simp [hp, h, sRaise]
  rfl
theorem init_table {r : Int} {tw : W} {st : Sto} (h0 : 0 ≤ r) (h1 : r ≤ 3) (ht : F_is_table [tw, .int r] (st ++ [preW]) = .ok (.bl false) (st ++ [preW])) : F_Window___init__ [.cell st.length, .int r, tw] (st ++ [preW]) = .err (winEr "table") (st ++ [preW]) := by
  refine mk_er (st1 := st ++ [preW]) (fr := [some (.cell st.length), some (.int r), some tw]) ?_ rfl
  show B_Window___init__ [some (.cell st.length), some (.int r), some tw] (st ++ [preW]) = _
  unfold B_Window___init__
  simp [h0, h1, ht, sRaise]
  rfl
theorem make_ok {r : Int} {t : List Int} {tw : W} {st : Sto} {fr : Fr} {f : SemL} (ho : st.all (oldW st.length) = true) (hf : f fr st = .ok [.int r, tw] st) (hi : F_Window___init__ [.cell st.length, .int r, tw] (st ++ [preW]) = .ok .non (st ++ [doneW r t])) : eMake "Window" F_Window___init__ f fr st = .ok (wnd r t) st := by
  unfold eMake eMakeG
  rw [hf, Out.bind_ok]
  have hi' : F_Window___init__ (.cell st.length :: [.int r, tw]) (st ++ [.ins "Window" [] []]) = .ok .non (st ++ [doneW r t]) := hi
  rw [hi']
  exact leave_ins ho fun f => by
    show fz0s st.length f [.int r, bits t] = some _
    unfold fz0s fz0
    simp only [fz0s, fz_bits]
theorem make_er {a tw : W} {st : Sto} {fr : Fr} {f : SemL} {p : Str} (ho : st.all (oldW st.length) = true) (hf : f fr st = .ok [a, tw] st) (hi : F_Window___init__ [.cell st.length, a, tw] (st ++ [preW]) = .err (winEr p) (st ++ [preW])) : eMake "Window" F_Window___init__ f fr st = .err (winEr p) st := by
  unfold eMake eMakeG
  rw [hf, Out.bind_ok]
  have hi' : F_Window___init__ (.cell st.length :: [a, tw]) (st ++ [.ins "Window" [] []]) = .err (winEr p) (st ++ [preW]) := hi
  rw [hi']
  show leaveX st.length (winEr p) (st ++ [preW]) = _
  unfold leaveX
  rw [if_neg (by simp)]
  have e : fz0s st.length (fzc st.length (st ++ [preW]) ((st ++ [preW]).length + 1)) (winEr p).vs = some (winEr p).vs := rfl
  rw [e]
  simp only [List.take_left, ho, if_true]

end SL
namespace SL
open PySem PySem.Spec PyProof.Rows L2
theorem eqv_ints : ∀ a b : List Int, PyData.eqvAll (a.map .int) (b.map .int) = decide (a = b)
  | [], [] => rfl
  | [], _ :: _ => rfl
  | _ :: _, [] => rfl
  | x :: a, y :: b => by
    show ((x == y) && PyData.eqvAll (a.map .int) (b.map .int)) = _
    rw [eqv_ints a b]
    by_cases h : x = y <;> by_cases h2 : a = b <;> simp [h, h2]
theorem pd_ints : ∀ a : List Int, pdWs (a.map W.int) = some (a.map .int)
  | [] => rfl
  | x :: a => by rw [List.map_cons, pdWs, pd_ints a]; rfl
theorem lay_ints : ∀ a : List Int, PyData.canLayAll0 (a.map .int) = true
  | [] => rfl
  | x :: a => by
    show (PyData.canLay0 (.int x) && PyData.canLayAll0 (a.map .int)) = true
    rw [lay_ints a]; rfl
theorem num_bd : ∀ {x : List Int}, Bits x → 0 ≤ num x ∧ num x < 2 ^ x.length := by
  have q : ∀ (l : List Int) (z : Int), Bits l → 0 ≤ z → 0 ≤ l.foldl (fun a c => 2 * a + c) z ∧ l.foldl (fun a c => 2 * a + c) z < (z + 1) * 2 ^ l.length := by
    intro l
    induction l with
    | nil => intro z _ h; simp; omega
    | cons c l ih =>
      intro z hb hz
      have hc := hb c List.mem_cons_self
      have hl : Bits l := fun n hn => hb n (List.mem_cons_of_mem _ hn)
      obtain ⟨h1, h2⟩ := ih (2 * z + c) hl (by rcases hc with rfl | rfl <;> omega)
      rw [List.foldl_cons, List.length_cons, Int.pow_succ]
      refine ⟨h1, Int.lt_of_lt_of_le h2 ?_⟩
      have hp : (0 : Int) ≤ 2 ^ l.length := Int.le_of_lt (Int.pow_pos (by decide))
      have e : (z + 1) * (2 ^ l.length * 2) = (2 * z + 2) * 2 ^ l.length := by
        rw [Int.mul_comm (2 ^ l.length) 2, ← Int.mul_assoc]
        congr 1
        omega
      rw [e]
      exact Int.mul_le_mul_of_nonneg_right (by rcases hc with rfl | rfl <;> omega) hp
  intro x hb
  have z := q x 0 hb (Int.le_refl _)
  refine ⟨z.1, ?_⟩
  have := z.2
  simpa [num] using this
def cutB (x : List Int) (k w : Nat) : List Int := (x.drop k).take w
theorem sl_cut {x : List Int} {k w : Nat} {a b : Int} {st : Sto} (h : k + w ≤ x.length) (ha : a = k) (hb : b = (k : Int) + w) : oSl (bits x) (some a) (some b) st = .ok (bits (cutB x k w)) st := by
  have eb : b = ((k + w : Nat) : Int) := by rw [hb]; simp
  show Out.ok (W.tup (cutW (x.map W.int) (some a) (some b))) st = _
  unfold cutW
  rw [ha, eb, HT.sIx_nat, HT.sIx_nat, List.length_map, Nat.min_eq_left (show k ≤ x.length by omega), Nat.min_eq_left h, ← List.map_drop, ← List.map_take]
  have : k + w - k = w := by omega
  rw [this]; rfl
theorem cut_len {x : List Int} {k w : Nat} (h : k + w ≤ x.length) : (cutB x k w).length = w := by
  unfold cutB; rw [List.length_take, List.length_drop]; omega
theorem cut_bits {x : List Int} {k w : Nat} (h : Bits x) : Bits (cutB x k w) := fun n hn => h n (List.mem_of_mem_drop (List.mem_of_mem_take hn))
/-- what a window makes of the cells -/
def filt (s : Nat) (t x : List Int) (m : Nat) : List Int := (List.range m).map fun k => t.getD (num (cutB x k s)).toNat 0
theorem filt_next (s : Nat) (t x : List Int) (m : Nat) : filt s t x (m + 1) = filt s t x m ++ [t.getD (num (cutB x m s)).toNat 0] := by
  unfold filt; rw [List.range_succ, List.map_append]; rfl
theorem at_num {x t : List Int} {k s : Nat} (hb : Bits x) (hk : k + s ≤ x.length) (ht : t.length = 2 ^ s) : 0 ≤ num (cutB x k s) ∧ t[(num (cutB x k s)).toNat]? = some (t.getD (num (cutB x k s)).toNat 0) := by
  obtain ⟨h1, h2⟩ := num_bd (cut_bits (k := k) (w := s) hb)
  rw [cut_len hk] at h2
  have h3 : (num (cutB x k s)).toNat < t.length := by
    have : ((2 ^ s : Nat) : Int) = 2 ^ s := by simp
    omega
  refine ⟨h1, ?_⟩
  rw [List.getElem?_eq_getElem h3]
  simp [List.getD, List.getElem?_eq_getElem h3]
theorem len_bits {x : List Int} {st : Sto} : oLen [bits x] st = .ok (.int x.length) st := by unfold bits; simp
theorem filtered_ok {r : Nat} {t x : List Int} {m : Nat} {st : Sto} (hr : r ≤ 3) (hb : Bits x) (ht : t.length = 2 ^ (2 * r + 1)) (hx : x.length = m + 2 * r) (hm : m ≤ 1000) (ho : st.all (oldW st.length) = true) : F_filtered [wnd r t, bits x] st = .ok (bits (filt (2 * r + 1) t x m)) st := by
  refine mk_rt2 (ex := [.lst ((filt (2 * r + 1) t x m).map W.int)]) ?_ (fun _ _ => fz_bits _ _ _) ho
  show B_filtered [some (wnd r t), some (bits x), none, none, none] st = _
  unfold B_filtered
  have f1 : ∀ st : Sto, eFld ["Window"] "radius" (eVar 0) [some (wnd r t), some (bits x), none, none, none] st = .ok (.int r) st := fun st => fld_r rfl
  refine asg_to (w := .int (2 * r + 1)) (st1 := st) (by simp [f1]) ?_
  simp only [fs2]
  refine asg_to (st1 := st ++ [.lst []]) (w := .cell st.length) (by simp [x_cell]) ?_
  simp only [fs3]
  have hcnt : ((x.length : Int) - (2 * (r : Int) + 1) + 1) = m := by omega
  obtain ⟨fr', st', e1, u, rfl, rfl⟩ := x_for (f := iRng rg1 (aCons (e2 oAdd (e2 oSub (eN oLen (aCons (eVar 1) (aNil))) (eVar 2)) (eC (.int 1))) (aNil))) (g := gNm 4) (b := sExp (eM isLst mAppend (eVar 3) (aCons (e2 oIx (eFld ["Window"] "table" (eVar 0)) (eCall F_cell_number (aCons (eSl (eVar 1) (pYes (eVar 4)) (pYes (e2 oAdd (eVar 4) (eVar 2)))) (aNil)))) (aNil))))
    (fr := [some (wnd r t), some (bits x), some (.int (2 * r + 1)), some (.cell st.length), none]) (st := st ++ [.lst []]) (st1 := st ++ [.lst []]) (x := .non) (all := rngW 0 1 m)
    (x_rng1 (j := m) (by simp [len_bits, hcnt]) (by omega) (by omega)) (fun k fr s => ∃ u : Option W, fr = [some (wnd r t), some (bits x), some (.int (2 * r + 1)), some (.cell st.length), u] ∧ s = st ++ [.lst ((filt (2 * r + 1) t x k).map W.int)]) ⟨none, rfl, rfl⟩ (fun _ _ _ _ => trivial) (by
      rintro k fr s z ⟨u, rfl, rfl⟩ hw
      obtain ⟨hk, rfl⟩ := rngW_at hw
      have hle : k + (2 * r + 1) ≤ x.length := by omega
      obtain ⟨n1, n2⟩ := at_num hb hle ht
      refine ⟨_, [some (wnd r t), some (bits x), some (.int (2 * r + 1)), some (.cell st.length), some (.int k)], _, rfl, .inl ?_, some (.int k), rfl, rfl⟩
      have f2 : ∀ S : Sto, eFld ["Window"] "table" (eVar 0) [some (wnd r t), some (bits x), some (.int (2 * r + 1)), some (.cell st.length), some (.int k)] S = .ok (bits t) S := fun S => fld_t rfl
      have q := fun S : Sto => sl_cut (st := S) (a := k) (b := (k : Int) + (2 * r + 1)) hle rfl (by simp)
      have ix := fun S : Sto => x_ixT (st := S) (ws := t.map W.int) (i := num (cutB x k (2 * r + 1))) (u := .int (t.getD (num (cutB x k (2 * r + 1))).toNat 0)) n1 (by rw [List.getElem?_map, n2]; rfl)
      have hl : (filt (2 * r + 1) t x k).length < LINE := by simp [filt, LINE]; omega
      have z : ((0 : Int) + (k : Int) * 1) = k := by omega
      rw [z]
      simp only [gNm, fs4]
      have ix' : ∀ S : Sto, oIx (bits t) (.int (num (cutB x k (2 * r + 1)))) S = .ok (.int (t.getD (num (cutB x k (2 * r + 1))).toNat 0)) S := ix
      simp [f2, q, ix', isLst, lstW, mAppend, hl, filt_next])
  rw [rngW_len] at e1
  refine seq_to e1 ?_
  simp [oTuple, seqW, lstW]
  rfl

end SL
namespace SL
open PySem PySem.Spec PyProof.Rows L2
theorem depth_ints : ∀ a : List Int, PyData.depthAll (a.map .int) = 0
  | [] => rfl
  | x :: a => by
    show max (PyData.depth (.int x)) (PyData.depthAll (a.map .int)) = 0
    rw [depth_ints a]; rfl
theorem eq_bits {a b : List Int} {st : Sto} : oEq (bits a) (bits b) st = .ok (.bl (decide (a = b))) st := by
  have p : ∀ c : List Int, pdT st (bits c) = some (.tuple (c.map .int)) := fun c => by
    show (pdWs (c.map W.int)).map PyData.tuple = _
    rw [pd_ints]; rfl
  have s : ∀ c : List Int, SeqAt.shaped (.tuple (c.map .int)) = true := fun c => by
    unfold SeqAt.shaped
    have e1 : PyData.canLay0 (.tuple (c.map .int)) = true := by
      simp only [PyData.canLay0]; exact lay_ints c
    have e2 : PyData.depth (.tuple (c.map .int)) = 1 := by
      simp only [PyData.depth, depth_ints]
    rw [e1, e2]; rfl
  have q : PyData.eqv (.tuple (a.map .int)) (.tuple (b.map .int)) = decide (a = b) := eqv_ints a b
  unfold oEq eqW
  rw [p, p]
  simp only [s, q]
  rfl
theorem ins_wnd {r : Int} {t : List Int} {st : Sto} : insW st (wnd r t) = some (("Window" : Str), ([("radius" : Str), ("table" : Str)] : List Str), [W.int r, bits t]) := rfl
def zeros (r : Nat) : List Int := List.replicate r 0
theorem zeros_bits (r : Nat) : Bits (zeros r) := fun n hn => .inl (List.eq_of_mem_replicate hn)
theorem rep_zeros : ∀ r : Nat, (List.replicate r [W.int 0]).flatten = (zeros r).map W.int
  | 0 => rfl
  | r + 1 => by
    rw [List.replicate_succ, List.flatten_cons, rep_zeros r]; rfl
theorem bits_join {x y : List Int} (h : Bits x) (h2 : Bits y) : Bits (x ++ y) := fun n hn => by
  rcases List.mem_append.mp hn with q | q
  · exact h n q
  · exact h2 n q
def wide (r : Nat) (x : List Int) : List Int := zeros r ++ x ++ zeros r
theorem wide_bits {r : Nat} {x : List Int} (h : Bits x) : Bits (wide r x) := bits_join (bits_join (zeros_bits r) h) (zeros_bits r)
theorem wide_len (r : Nat) (x : List Int) : (wide r x).length = x.length + 2 * r := by simp [wide, zeros]; omega
theorem law_number_ok {ns : List Int} {st : Sto} : F_law_number [bits ns] st = .ok (.int (num ns)) st := cell_number_ok
theorem law_swept_ok {r : Nat} {t x : List Int} {st : Sto} (hr : r ≤ 3) (hb : Bits x) (ht : t.length = 2 ^ (2 * r + 1)) (hx : x.length ≤ 1000) : F_law_swept [.int r, .lst (t.map W.int), bits x] st = .ok (bits (filt (2 * r + 1) t (wide r x) x.length)) st := by
  refine mk_rt (st1 := st) ?_ rfl
  show B_law_swept [some (.int r), some (.lst (t.map W.int)), some (bits x), none, none] st = _
  unfold B_law_swept
  have lf : F_law_filtered [.int r, .lst (t.map W.int), bits (wide r x)] st = .ok (bits (filt (2 * r + 1) t (wide r x) x.length)) st := by
    refine mk_rt (st1 := st) ?_ rfl
    show B_law_filtered [some (.int r), some (.lst (t.map W.int)), some (bits (wide r x)), none, none] st = _
    unfold B_law_filtered
    refine asg_to (w := .int (2 * r + 1)) (st1 := st) (by simp) ?_
    simp only [fs3]
    have hcnt : (((wide r x).length : Int) - (2 * (r : Int) + 1) + 1) = x.length := by rw [wide_len]; simp; omega
    have z : eLc (iRng rg1 (aCons (e2 oAdd (e2 oSub (eN oLen (aCons (eVar 2) (aNil))) (eVar 3)) (eC (.int 1))) (aNil))) (gNm 4) [4] (tTrue) (e2 oIx (eVar 1) (eCall F_law_number (aCons (eSl (eVar 2) (pYes (eVar 4)) (pYes (e2 oAdd (eVar 4) (eVar 3)))) (aNil)))) [some (.int r), some (.lst (t.map W.int)), some (bits (wide r x)), some (.int (2 * r + 1)), none] st = .ok (.lst ((filt (2 * r + 1) t (wide r x) x.length).map W.int)) st := by
      refine x_lc (st1 := st) (x := .non) (all := rngW 0 1 x.length) (x_rng1 (j := x.length) (by simp [len_bits, hcnt]) (by omega) (by omega)) ?_
      have e : (filt (2 * r + 1) t (wide r x) x.length).map W.int = (rngW 0 1 x.length).map fun w => match w with
          | .int k => .int (t.getD (num (cutB (wide r x) k.toNat (2 * r + 1))).toNat 0)
          | w => w := by
        unfold filt rngW
        rw [List.map_map, List.map_map]
        apply List.map_congr_left
        intro k _
        have z : ((0 : Int) + (k : Int) * 1).toNat = k := by omega
        simp [Function.comp]
      rw [e]
      refine lc_map (x := .non) trivial _ fun w hw => ?_
      obtain ⟨k, hk, rfl⟩ := rng_mem hw
      refine ⟨_, rfl, rfl, ?_⟩
      have hle : k + (2 * r + 1) ≤ (wide r x).length := by rw [wide_len]; omega
      obtain ⟨n1, n2⟩ := at_num (wide_bits (r := r) hb) hle ht
      have z : ((0 : Int) + (k : Int) * 1) = k := by omega
      rw [z]
      have q := sl_cut (st := st) (x := wide r x) (a := k) (b := (k : Int) + (2 * r + 1)) hle rfl (by simp)
      have ix := x_ixL (st := st) (ws := t.map W.int) (i := num (cutB (wide r x) k (2 * r + 1))) (u := .int (t.getD (num (cutB (wide r x) k (2 * r + 1))).toNat 0)) n1 (by rw [List.getElem?_map, n2]; rfl)
      simp [wipeF, q, law_number_ok, ix]
    simp [z]
    rfl
  have lz : eLc (iRng rg1 (aCons (eVar 0) (aNil))) (gNm 4) [4] (tTrue) (eC (.int 0)) [some (.int r), some (.lst (t.map W.int)), some (bits x), none, none] st = .ok (.lst ((zeros r).map W.int)) st := by
    refine x_lc (st1 := st) (x := .non) (all := rngW 0 1 r) (x_rng1 (j := r) (by simp) (by omega) (by omega)) ?_
    have e : (zeros r).map W.int = (rngW 0 1 r).map fun _ => W.int 0 := by
      apply List.ext_getElem
      · simp [zeros]
      · intro i _ _; simp [zeros]
    rw [e]
    exact lc_map (x := .non) trivial _ fun w _ => ⟨_, rfl, rfl, rfl⟩
  refine asg_to (w := bits (zeros r)) (st1 := st) (by simp [lz]; rfl) ?_
  simp only [fs3]
  have j1 := bits_app (x := zeros r) (y := x) (st := st) (by simp [zeros]; omega)
  have j2 := bits_app (x := zeros r ++ x) (y := zeros r) (st := st) (by simp [zeros]; omega)
  unfold wide at lf ⊢
  simp [j1, j2, lf, -List.append_assoc]

end SL
namespace SL
open PySem PySem.Spec PyProof.Rows L2
def rowsL : Nat → List (List Int)
  | 0 => [[]]
  | n + 1 => (rowsL n).map (fun l => l ++ [0]) ++ (rowsL n).map (fun l => l ++ [1])
theorem rowsL_len : ∀ n, (rowsL n).length = 2 ^ n
  | 0 => rfl
  | n + 1 => by
    rw [rowsL, List.length_append, List.length_map, List.length_map, rowsL_len n, Nat.pow_succ]; omega
theorem rowsL_ok : ∀ n, ∀ l ∈ rowsL n, l.length = n ∧ Bits l
  | 0, l, h => by
    rw [rowsL, List.mem_singleton] at h
    subst h
    exact ⟨rfl, fun _ h => (nomatch h)⟩
  | n + 1, l, h => by
    rw [rowsL, List.mem_append] at h
    rcases h with h | h <;> obtain ⟨k, hk, rfl⟩ := List.mem_map.mp h <;> obtain ⟨h1, h2⟩ := rowsL_ok n k hk
    · exact ⟨by simp [h1], bits_join h2 fun z hz => .inl (List.mem_singleton.mp hz)⟩
    · exact ⟨by simp [h1], bits_join h2 fun z hz => .inr (List.mem_singleton.mp hz)⟩
theorem intsW_map : ∀ l : List Int, intsW (l.map W.int) = some l
  | [] => rfl
  | a :: l => by rw [List.map_cons, intsW, intsW_map l]; rfl
theorem tupsI_map : ∀ L : List (List Int), tupsI (L.map bits) = some L
  | [] => rfl
  | a :: L => by
    rw [List.map_cons]
    show (match intsW (a.map W.int), tupsI (L.map bits) with
      | some n, some l => some (n :: l)
      | _, _ => none) = _
    rw [intsW_map, tupsI_map L]
def addW (b : Int) : W → W
  | .tup ws => .tup (ws ++ [.int b])
  | w => w
theorem add_rows (b : Int) (L : List (List Int)) : (L.map bits).map (addW b) = (L.map fun l => l ++ [b]).map bits := by
  rw [List.map_map, List.map_map]
  apply List.map_congr_left
  intro l _
  show W.tup (l.map W.int ++ [.int b]) = bits (l ++ [b])
  unfold bits
  rw [List.map_append]; rfl
theorem rows_sorted {n : Nat} {st : Sto} (h1 : n ≤ 8) : F_law_rows [.int n] st = .ok (.lst ((sortT (rowsL n)).map bits)) st := by
  refine mk_rt (st1 := st) ?_ rfl
  show B_law_rows [some (.int n), none, none, none] st = _
  unfold B_law_rows
  obtain ⟨fr', st', e1, u, rfl, rfl⟩ := x_for (f := iRng rg1 (aCons (eVar 0) (aNil))) (g := gNm 2) (b := sAsg (e2 oAdd (eLc (iSeq (eVar 1)) (gNm 3) [3] (tTrue) (e2 oAdd (eVar 3) (eN oTup (aCons (eC (.int 0)) (aNil))))) (eLc (iSeq (eVar 1)) (gNm 3) [3] (tTrue) (e2 oAdd (eVar 3) (eN oTup (aCons (eC (.int 1)) (aNil)))))) (gNm 1))
    (fr := [some (.int n), some (.lst ((rowsL 0).map bits)), none, none]) (st := st) (st1 := st) (x := .non) (all := rngW 0 1 n)
    (x_rng1 (j := n) (by simp) (by omega) (by omega)) (fun k fr s => ∃ u : Option W, fr = [some (.int n), some (.lst ((rowsL k).map bits)), u, none] ∧ s = st) ⟨none, rfl, rfl⟩ (fun _ _ _ _ => trivial) (by
      rintro k fr s z ⟨u, rfl, rfl⟩ hw
      obtain ⟨hk, rfl⟩ := rngW_at hw
      refine ⟨_, [some (.int n), some (.lst ((rowsL (k + 1)).map bits)), some (.int (0 + (k : Int) * 1)), none], _, rfl, .inl ?_, some (.int (0 + (k : Int) * 1)), rfl, rfl⟩
      have lc : ∀ b : Int, eLc (iSeq (eVar 1)) (gNm 3) [3] (tTrue) (e2 oAdd (eVar 3) (eN oTup (aCons (eC (.int b)) (aNil)))) [some (.int n), some (.lst ((rowsL k).map bits)), some (.int (0 + (k : Int) * 1)), none] s = .ok (.lst (((rowsL k).map fun l => l ++ [b]).map bits)) s := fun b => by
        refine x_lc (st1 := s) (x := .lst ((rowsL k).map bits)) (all := (rowsL k).map bits) (by simp) ?_
        rw [← add_rows]
        refine lc_map (x := .lst ((rowsL k).map bits)) trivial _ fun w hw => ?_
        obtain ⟨l, hl, rfl⟩ := List.mem_map.mp hw
        refine ⟨_, rfl, rfl, ?_⟩
        have t : W.tup [.int b] = bits [b] := rfl
        have j := bits_app (x := l) (y := [b]) (st := s) (by have := (rowsL_ok k l hl).1; simp; omega)
        have a : addW b (bits l) = bits (l ++ [b]) := by
          show W.tup (l.map W.int ++ [.int b]) = bits (l ++ [b])
          unfold bits
          rw [List.map_append]; rfl
        simp [wipeF, x_tup, t, j, a]
      have hp : (2 : Nat) ^ k ≤ 2 ^ 7 := Nat.pow_le_pow_right (by decide) (by omega)
      have ad : oAdd (.lst (((rowsL k).map fun l => l ++ [0]).map bits)) (.lst (((rowsL k).map fun l => l ++ [1]).map bits)) s = .ok (.lst ((rowsL (k + 1)).map bits)) s := by
        show (if (((rowsL k).map fun l => l ++ [0]).map bits).length + (((rowsL k).map fun l => l ++ [1]).map bits).length ≤ LINE then Out.ok (W.lst (((rowsL k).map fun l => l ++ [0]).map bits ++ ((rowsL k).map fun l => l ++ [1]).map bits)) s else .bad) = _
        rw [if_pos (by simp [rowsL_len, LINE]; omega), ← List.map_append]; rfl
      simp only [gNm, fs2, x_asgN, x_2, lc 0, lc 1, Out.bind_ok, ad, Out.stm_ok, fs1])
  rw [rngW_len] at e1
  refine asg_to (w := .lst ((rowsL 0).map bits)) (st1 := st') (by simp [x_tup, x_lst]; rfl) ?_
  simp only [fs1]
  refine seq_to e1 ?_
  have so : oSort1 [.lst ((rowsL n).map bits)] st' = .ok (.lst ((sortT (rowsL n)).map bits)) st' := by
    cases n with
    | zero =>
      have e : sortT (rowsL 0) = [[]] := by
        show [([] : List Int)].mergeSort _ = _
        rw [List.mergeSort_singleton]
      rw [e]
      show (if ([W.tup []] : List W).length ≤ 1 then Out.ok (W.lst [W.tup []]) st' else oSortT [.lst [W.tup []]] st') = _
      rw [if_pos (by show 1 ≤ 1; omega)]; rfl
    | succ n =>
      have l2 : ¬ ((rowsL (n + 1)).map bits).length ≤ 1 := by
        rw [List.length_map, rowsL_len]
        have := Nat.pow_le_pow_right (show 1 ≤ 2 by decide) (show 1 ≤ n + 1 by omega)
        omega
      refine (if_neg l2).trans ?_
      show (match (some ((rowsL (n + 1)).map bits)).bind tupsI with
        | some L => if dec (∃ (d : Nat) (B : Int), 1 ≤ d ∧ ∀ l ∈ (L : List (List Int)), l.length = d ∧ TS.Bd B l) = true then Out.ok (W.lst ((sortT L).map fun (l : List Int) => W.tup (l.map W.int))) st' else .bad
        | none => .bad) = _
      rw [Option.bind_some, tupsI_map]
      have g : ∃ (d : Nat) (B : Int), 1 ≤ d ∧ ∀ l ∈ rowsL (n + 1), l.length = d ∧ TS.Bd B l := ⟨n + 1, 2, by omega, fun l hl => ⟨(rowsL_ok (n + 1) l hl).1, fun m hm => by
        rcases (rowsL_ok (n + 1) l hl).2 m hm with rfl | rfl <;> decide⟩⟩
      show (if dec _ = true then _ else _) = _
      rw [if_pos (dec_mk g)]
      rfl
  simp [so]
theorem sort_mem {L : List (List Int)} {l : List Int} (h : l ∈ sortT L) : l ∈ L := (List.mergeSort_perm L _).mem_iff.mp h
theorem sort_len (L : List (List Int)) : (sortT L).length = L.length := (List.mergeSort_perm L _).length_eq
theorem ints_tab {ys : List W} {ws : List W} (h : Both (fun (_ : W) y => ∃ b : Int, y = .int b ∧ (b = 0 ∨ b = 1)) ws ys) : ∃ t, Bits t ∧ t.length = ws.length ∧ ys = t.map W.int := both_bits h

end SL
namespace SL
open PySem PySem.Spec PyProof.Rows L2
theorem if_rt {b : SemB} {s u t : SSem} {fr : Fr} {st st1 st2 : Sto} {w : W} (h : b fr st = .ok true st1) (h2 : s fr st1 = .rt w st2) : sSeq (sIf b s u) t fr st = .rt w st2 := by
  unfold sSeq sIf; rw [h]; simp [h2]
theorem bits_at {x : List Int} {k : Nat} {st : Sto} (h : k < x.length) : oIx (bits x) (.int (k : Int)) st = .ok (.int x[k]) st := x_ixT (by omega) (by simp [h])
theorem lst_at {x : List Int} {i : Int} (hb : Bits x) (h0 : 0 ≤ i) (h : i < x.length) : ∃ b : Int, (b = 0 ∨ b = 1) ∧ x[i.toNat]? = some b ∧ ∀ st, oIx (.lst (x.map W.int)) (.int i) st = .ok (.int b) st := by
  have hk : i.toNat < x.length := by omega
  exact ⟨x[i.toNat], hb _ (List.getElem_mem hk), by simp [hk], fun st => x_ixL h0 (by simp [hk])⟩
/-- drawn cells, in a list -/
theorem drawn_list {c : Cel} {m : Nat} {fr : Fr} {l : SemL} (h : Pool c) (hm : m ≤ 1000) (h0 : (fr.set 6 none)[0]? = some (some (.cell 0))) (h1 : ∀ u : W, ((fr.set 6 none).set 6 (some u))[0]? = some (some (.cell 0))) (hl : l fr [c] = .ok [.int m] [c]) : ∃ t c', Bits t ∧ t.length = m ∧ Pool c' ∧ eLc (iRng rg1 l) (gNm 6) [6] (tTrue) (eCall F_law_draw (aCons (eVar 0) (aCons (eC (.int 2)) (aNil)))) fr [c] = .ok (.lst (t.map W.int)) [c'] := by
  obtain ⟨ys, st', g1, ⟨c', rfl, hp⟩, g2⟩ := lc_inv (x := .non) (all := rngW 0 1 m) (g := gNm 6) (t := tTrue) (e := eCall F_law_draw (aCons (eVar 0) (aCons (eC (.int 2)) (aNil)))) (fr := wipeF fr [6]) (fun st => ∃ c, st = [c] ∧ Pool c) (fun (_ : W) y => ∃ b : Int, y = .int b ∧ (b = 0 ∨ b = 1)) (fun _ _ => trivial) (rngW 0 1 m) [c] ⟨c, rfl, h⟩ (by
      rintro w _ st ⟨c, rfl, hc⟩
      obtain ⟨r, c1, p1, r0, r1, e⟩ := draw_ok (m := 2) hc (by decide) (log_small (by decide) (by decide))
      refine ⟨_, .int r, [c1], rfl, rfl, ?_, ⟨c1, rfl, p1⟩, r, rfl, by omega⟩
      have z := h1 w
      simp [wipeF] at z ⊢
      simp [z, e])
  obtain ⟨t, t1, t2, rfl⟩ := ints_tab g2
  exact ⟨t, c', t1, by simpa using t2, hp, x_lc (st1 := [c]) (x_rng1 (j := m) hl (by omega) (by omega)) g1⟩
theorem table_drawn {c : Cel} {r : Nat} (h : Pool c) (hr : r ≤ 3) : ∃ t c', Bits t ∧ t.length = 2 ^ (2 * r + 1) ∧ Pool c' ∧ F_law_table [.cell 0, .int r] [c] = .ok (.lst (t.map W.int)) [c'] := by
  have rows : ∀ st, F_law_rows [.int (2 * (r : Int) + 1)] st = .ok (.lst ((sortT (rowsL (2 * r + 1))).map bits)) st := fun st => by
    have z := rows_sorted (n := 2 * r + 1) (st := st) (by omega)
    simpa using z
  have rl : ((sortT (rowsL (2 * r + 1))).map bits).length = 2 ^ (2 * r + 1) := by rw [List.length_map, sort_len, rowsL_len]
  have h128 : 2 ^ (2 * r + 1) ≤ 128 := by
    have : (2 : Nat) ^ (2 * r + 1) ≤ 2 ^ 7 := Nat.pow_le_pow_right (by decide) (by omega)
    omega
  have mem : ∀ w ∈ (sortT (rowsL (2 * r + 1))).map bits, ∃ l, w = bits l ∧ l.length = 2 * r + 1 ∧ Bits l := fun w hw => by
    obtain ⟨l, hl, rfl⟩ := List.mem_map.mp hw
    exact ⟨l, rfl, rowsL_ok _ l (sort_mem hl)⟩
  obtain ⟨k, c1, p1, k0, k1, dr1⟩ := draw_ok (m := 5) h (by decide) (log_small (by decide) (by decide))
  have hsz : ((((sortT (rowsL (2 * r + 1))).map bits).length : Nat) : Int) = ((2 ^ (2 * r + 1) : Nat) : Int) := by rw [rl]
  -- the first two lines
  have start : ∀ (u : SSem) (o : SOut), u [some (.cell 0), some (.int r), some (.int ((2 ^ (2 * r + 1) : Nat) : Int)), some (.int k), none, none, none, none] [c1] = o →
      sSeq (sAsg (eN oLen (aCons (eCall F_law_rows (aCons (e2 oAdd (e2 oMul (eC (.int 2)) (eVar 1)) (eC (.int 1))) (aNil))) (aNil))) (gNm 2)) (sSeq (sAsg (eCall F_law_draw (aCons (eVar 0) (aCons (eC (.int 5)) (aNil)))) (gNm 3)) u) [some (.cell 0), some (.int r), none, none, none, none, none, none] [c] = o := fun u o hu => by
    refine asg_to (w := .int ((2 ^ (2 * r + 1) : Nat) : Int)) (st1 := [c]) ?_ ?_
    · rw [← hsz]; simp [rows]
    · simp only [fs2]
      refine asg_to (w := .int k) (st1 := [c1]) (by simp [dr1]) ?_
      simp only [fs3]
      exact hu
  -- a table from the rows, by an item of each
  have fromRows : ∀ (e : Sem) (fr : Fr) (c2 : Cel), fr.length = 8 → fr[1]? = some (some (.int r)) → (∀ l, l.length = 2 * r + 1 → Bits l → ∃ b : Int, e ((fr.set 7 none).set 7 (some (bits l))) [c2] = .ok (.int b) [c2] ∧ (b = 0 ∨ b = 1)) →
      ∃ t, Bits t ∧ t.length = 2 ^ (2 * r + 1) ∧ eLc (iSeq (eCall F_law_rows (aCons (e2 oAdd (e2 oMul (eC (.int 2)) (eVar 1)) (eC (.int 1))) (aNil)))) (gNm 7) [7] (tTrue) e fr [c2] = .ok (.lst (t.map W.int)) [c2] := fun e fr c2 hl h1 he => by
    obtain ⟨ys, st', g1, rfl, g2⟩ := lc_inv (x := .lst ((sortT (rowsL (2 * r + 1))).map bits)) (all := (sortT (rowsL (2 * r + 1))).map bits) (g := gNm 7) (t := tTrue) (e := e) (fr := wipeF fr [7]) (fun st => st = [c2]) (fun (_ : W) y => ∃ b : Int, y = .int b ∧ (b = 0 ∨ b = 1)) (fun _ _ => trivial) ((sortT (rowsL (2 * r + 1))).map bits) [c2] rfl (by
      rintro w hw st rfl
      obtain ⟨l, rfl, l1, l2⟩ := mem w hw
      obtain ⟨b, b1, b2⟩ := he l l1 l2
      exact ⟨_, .int b, [c2], rfl, rfl, b1, rfl, b, rfl, b2⟩)
    obtain ⟨t, t1, t2, rfl⟩ := ints_tab g2
    refine ⟨t, t1, by rw [t2, rl], x_lc (st1 := [c2]) ?_ g1⟩
    simp [h1, rows]
  by_cases q0 : k = 0
  · obtain ⟨t, t1, t2, t3⟩ := fromRows (eN oInt (aCons (e2 oGt (eN oSumX (aCons (eVar 7) (aNil))) (eVar 1)) (aNil))) [some (.cell 0), some (.int r), some (.int ((2 ^ (2 * r + 1) : Nat) : Int)), some (.int k), none, none, none, none] c1 rfl rfl (fun l l1 l2 => by
      refine ⟨if (r : Int) < l.sum then 1 else 0, ?_, by split <;> simp⟩
      have s : oSumX [bits l] [c1] = .ok (.int l.sum) [c1] := by
        show (match (some (l.map W.int)).bind intsW with | some bs => Out.ok (W.int bs.sum) [c1] | none => .bad) = _
        rw [Option.bind_some, intsW_map]
      simp [s])
    refine ⟨t, c1, t1, t2, p1, mk_rt (st1 := [c1]) ?_ rfl⟩
    show B_law_table [some (.cell 0), some (.int r), none, none, none, none, none, none] [c] = _
    unfold B_law_table
    refine start _ _ ?_
    subst q0
    simp only [x_seq, x_if, x_bOf, x_2, x_var, x_c, fg3, Out.bind_ok, x_eqI, decide_true, Out.stm_ok, if_true, x_ret, t3]
  · by_cases q1 : k = 1
    · obtain ⟨t, t1, t2, t3⟩ := fromRows (e2 oIx (eVar 7) (eVar 1)) [some (.cell 0), some (.int r), some (.int ((2 ^ (2 * r + 1) : Nat) : Int)), some (.int k), none, none, none, none] c1 rfl rfl (fun l l1 l2 => by
        have hk : r < l.length := by omega
        refine ⟨l[r], ?_, l2 _ (List.getElem_mem hk)⟩
        have i := bits_at (x := l) (k := r) (st := [c1]) hk
        simp [i])
      refine ⟨t, c1, t1, t2, p1, mk_rt (st1 := [c1]) ?_ rfl⟩
      show B_law_table [some (.cell 0), some (.int r), none, none, none, none, none, none] [c] = _
      unfold B_law_table
      refine start _ _ ?_
      refine if_no (st1 := [c1]) (st2 := [c1]) (by simp [q0]) rfl ?_
      exact if_rt (st1 := [c1]) (by simp [q1]) (by simp only [x_ret, t3, Out.stm_ok])
    · obtain ⟨t, c2, t1, t2, p2, t3⟩ := drawn_list (m := 2 ^ (2 * r + 1)) (l := aCons (eVar 2) aNil) (fr := [some (.cell 0), some (.int r), some (.int ((2 ^ (2 * r + 1) : Nat) : Int)), some (.int k), none, none, none, none]) p1 (by omega) rfl (fun _ => rfl) (by simp)
      by_cases q2 : k = 2
      · obtain ⟨v, c3, v1, v2, p3, v3⟩ := drawn_list (m := 2) (l := aCons (eC (.int 2)) aNil) (fr := [some (.cell 0), some (.int r), some (.int ((2 ^ (2 * r + 1) : Nat) : Int)), some (.int k), some (.lst (t.map W.int)), none, none, none]) p2 (by omega) rfl (fun _ => rfl) (by simp)
        obtain ⟨u, u1, u2, u3⟩ := fromRows (e2 oIx (eVar 5) (e2 oIx (eVar 7) (eVar 1))) [some (.cell 0), some (.int r), some (.int ((2 ^ (2 * r + 1) : Nat) : Int)), some (.int k), some (.lst (t.map W.int)), some (.lst (v.map W.int)), none, none] c3 rfl rfl (fun l l1 l2 => by
          have hk : r < l.length := by omega
          have i := bits_at (x := l) (k := r) (st := [c3]) hk
          have b := l2 _ (List.getElem_mem hk)
          have w0 : 0 ≤ l[r] ∧ l[r] < v.length := by rw [v2]; rcases b with b | b <;> rw [b] <;> decide
          obtain ⟨bb, b1, _, b2⟩ := lst_at v1 w0.1 w0.2
          refine ⟨bb, ?_, b1⟩
          simp [i, b2])
        refine ⟨u, c3, u1, u2, p3, mk_rt (st1 := [c3]) ?_ rfl⟩
        show B_law_table [some (.cell 0), some (.int r), none, none, none, none, none, none] [c] = _
        unfold B_law_table
        refine start _ _ ?_
        refine if_no (st1 := [c1]) (st2 := [c1]) (by simp [q0]) rfl ?_
        refine if_no (st1 := [c1]) (st2 := [c1]) (by simp [q1]) rfl ?_
        refine asg_to t3 ?_
        simp only [fs4]
        refine if_rt (st1 := [c2]) (by simp [q2]) ?_
        refine asg_to v3 ?_
        simp only [fs5]
        simp only [x_ret, u3, Out.stm_ok]
      · refine ⟨t, c2, t1, t2, p2, mk_rt (st1 := [c2]) ?_ rfl⟩
        show B_law_table [some (.cell 0), some (.int r), none, none, none, none, none, none] [c] = _
        unfold B_law_table
        refine start _ _ ?_
        refine if_no (st1 := [c1]) (st2 := [c1]) (by simp [q0]) rfl ?_
        refine if_no (st1 := [c1]) (st2 := [c1]) (by simp [q1]) rfl ?_
        refine asg_to t3 ?_
        simp only [fs4]
        refine if_no (st1 := [c2]) (st2 := [c2]) (by simp [q2]) rfl ?_
        simp

end SL
namespace SL
open PySem PySem.Spec PyProof.Rows L2
theorem radius_drawn {c : Cel} (h : Pool c) : ∃ (r : Nat) (c' : Cel), r ≤ 3 ∧ Pool c' ∧ F_law_radius [.cell 0] [c] = .ok (.int r) [c'] := by
  obtain ⟨k, c1, p1, k0, k1, e⟩ := draw_ok (m := 6) h (by decide) (log_small (by decide) (by decide))
  obtain ⟨w, hw, hx⟩ := ix_mem (ws := [.int 0, .int 1, .int 1, .int 1, .int 2, .int 3]) k0 (by simpa using k1)
  have : ∃ r : Nat, r ≤ 3 ∧ w = .int r := by
    simp only [List.mem_cons, List.not_mem_nil, or_false] at hw
    rcases hw with rfl | rfl | rfl | rfl | rfl | rfl
    · exact ⟨0, by decide, rfl⟩
    · exact ⟨1, by decide, rfl⟩
    · exact ⟨1, by decide, rfl⟩
    · exact ⟨1, by decide, rfl⟩
    · exact ⟨2, by decide, rfl⟩
    · exact ⟨3, by decide, rfl⟩
  obtain ⟨r, hr, rfl⟩ := this
  refine ⟨r, c1, hr, p1, mk_rt (st1 := [c1]) ?_ rfl⟩
  show B_law_radius [some (.cell 0)] [c] = _
  unfold B_law_radius
  simp [x_lst, e, hx]
theorem all_plain (t : List Int) : (t.map W.int).all plainW = true := by
  rw [List.all_map, List.all_eq_true]; intro n _; exact plain_int
theorem all_betw {t : List Int} (h : Bits t) : (t.map W.int).all (betw 0 1) = true := by
  rw [List.all_map, List.all_eq_true]
  intro n hn
  rcases h n hn with rfl | rfl <;> rfl
theorem pow_cast (r : Nat) : ((2 ^ (2 * r + 1) : Nat) : Int) = 2 ^ (2 * (r : Int) + 1).toNat := by
  have : (2 * (r : Int) + 1).toNat = 2 * r + 1 := by omega
  rw [this]; simp
/-- a good table, as a list, a tuple or a cell -/
theorem good_tab {r : Nat} {t : List Int} {w : W} {s : String} {st : Sto} (hr : r ≤ 3) (hb : Bits t) (ht : t.length = 2 ^ (2 * r + 1)) (h : tyW st w = some s) (h3 : s = "list" ∨ s = "tuple") (hs : seqW st w = some (t.map W.int)) (hi : itW st w = some (t.map W.int)) (hsrc : srcOk w (t.map W.int) st) : F_is_table [w, .int r] st = .ok (.bl true) st := by
  have z := table_seq h h3 hs hi hsrc (by omega : (0 : Int) ≤ r) (by omega) (all_plain t)
  have e : decide (((t.map W.int).length : Int) = 2 ^ (2 * (r : Int) + 1).toNat) = true := decide_eq_true (by rw [List.length_map, ht]; exact pow_cast r)
  rw [e, all_betw hb] at z
  exact z
theorem init_good {r : Nat} {t : List Int} {w : W} {st : Sto} (hr : r ≤ 3) (hb : Bits t) (ht : t.length = 2 ^ (2 * r + 1)) (hw : w = .lst (t.map W.int) ∨ w = bits t ∨ ∃ k, k < st.length ∧ w = .cell k ∧ st[k]? = some (.lst (t.map W.int))) :
    F_Window___init__ [.cell st.length, .int r, w] (st ++ [preW]) = .ok .non (st ++ [doneW r t]) := by
  rcases hw with rfl | rfl | ⟨k, hk, rfl, hc⟩
  · exact init_ok (by omega) (by omega) (good_tab hr hb ht rfl (.inl rfl) rfl rfl trivial) rfl
  · exact init_ok (by omega) (by omega) (good_tab hr hb ht rfl (.inr rfl) rfl rfl trivial) rfl
  · have g : ∀ c : Cel, (st ++ [c])[k]? = some (.lst (t.map W.int)) := fun c => by rw [List.getElem?_append_left hk]; exact hc
    refine init_ok (by omega) (by omega) (good_tab (s := "list") hr hb ht ?_ (.inl rfl) ?_ ?_ ?_) ?_
    · simp [tyW, g]
    · simp [seqW, lstW, g]
    · simp [itW, lstW, g]
    · show lstW _ _ = _
      simp [lstW, g]
    · simp [oTuple, seqW, lstW, g]; rfl
/-- what is no table of r -/
theorem bad_seq {r : Nat} {ws : List W} {w : W} {st : Sto} (hr : r ≤ 3) (hw : w = .lst ws ∨ w = .tup ws) (hp : ws.all plainW = true) (h : ws.length ≠ 2 ^ (2 * r + 1) ∨ ws.all (betw 0 1) = false) : F_is_table [w, .int r] st = .ok (.bl false) st := by
  have z : F_is_table [w, .int r] st = .ok (.bl (decide ((ws.length : Int) = 2 ^ (2 * (r : Int) + 1).toNat) && ws.all (betw 0 1))) st := by
    rcases hw with rfl | rfl
    · exact table_seq (t := "list") rfl (.inl rfl) rfl rfl trivial (by omega) (by omega) hp
    · exact table_seq (t := "tuple") rfl (.inr rfl) rfl rfl trivial (by omega) (by omega) hp
  rw [z]
  rcases h with h | h
  · rw [decide_eq_false (fun q => h (by rw [← pow_cast] at q; exact Int.ofNat.inj q))]; rfl
  · rw [h, Bool.and_false]
theorem ne_str {a : Str} {st : Sto} (h : PyData.strOk a = true) : oNe (.str a) (.str a) st = .ok (.bl false) st := by
  have e := eq_str (st := st) h
  unfold oEq at e
  unfold oNe
  cases z : eqW st (.str a) (.str a) with
  | none => rw [z] at e; cases e
  | some t =>
    rw [z] at e
    cases t with
    | true => rfl
    | false => cases e

end SL
namespace SL
open PySem PySem.Spec PyProof.Rows L2
theorem row_drawnR {c : Cel} {n : Int} (rest : Sto) (h : Pool c) (h0 : 0 ≤ n) (h1 : n ≤ 1000) : ∃ ns c', Bits ns ∧ ns.length = n.toNat ∧ Pool c' ∧ F_law_row [.cell 0, .int n] (c :: rest) = .ok (bits ns) (c' :: rest) := by
  obtain ⟨ys, st', e1, ⟨c', rfl, hp⟩, e2⟩ := lc_inv (x := .non) (all := rngW 0 1 n.toNat) (g := gNm 2) (t := tTrue) (e := eCall F_law_draw (aCons (eVar 0) (aCons (eC (.int 2)) (aNil)))) (fr := [some (.cell 0), some (.int n), none]) (fun st => ∃ c, st = c :: rest ∧ Pool c) (fun (_ : W) y => ∃ b : Int, y = .int b ∧ (b = 0 ∨ b = 1)) (fun _ _ => trivial) (rngW 0 1 n.toNat) (c :: rest) ⟨c, rfl, h⟩ (by
      rintro w _ st ⟨c, rfl, hc⟩
      obtain ⟨r, c1, p1, r0, r1, e⟩ := draw_ok (m := 2) hc (by decide) (log_small (by decide) (by decide))
      exact ⟨_, .int r, c1 :: rest, rfl, rfl, by simp [e], ⟨c1, rfl, p1⟩, r, rfl, by omega⟩)
  obtain ⟨ns, b1, b2, rfl⟩ := both_bits e2
  refine ⟨ns, c', b1, by simpa using b2, hp, mk_rt (st1 := c' :: rest) ?_ rfl⟩
  show B_law_row [some (.cell 0), some (.int n), none] (c :: rest) = _
  unfold B_law_row
  have z := x_lc (own := [2]) (fr := [some (.cell 0), some (.int n), none]) (st := c :: rest) (st1 := c :: rest) (x_rng1 (l := aCons (eVar 1) aNil) (j := n) (by simp) (by omega) (by omega)) e1
  simp [z]
  rfl
theorem cut_to {T : List W} {a : Nat} (h : a ≤ T.length) : cutW T none (some (a : Int)) = T.take a := by
  unfold cutW
  rw [HT.sIx_nat, HT.sIx_none, Nat.min_eq_left h]; simp
theorem cut_from {T : List W} {a : Nat} (h : a ≤ T.length) : cutW T (some (a : Int)) none = T.drop a := by
  unfold cutW
  rw [HT.sIx_nat, HT.sIx_none, Nat.min_eq_left h, List.take_of_length_le (by simp)]
theorem cut_last {T : List W} : cutW T none (some (-1)) = T.take (T.length - 1) := by
  unfold cutW
  have e : HT.sIx T.length T.length (some (-1)) = T.length - 1 := by
    show (if (-1 : Int) < 0 then ((-1 : Int) + (T.length : Int)).toNat else min (-1 : Int).toNat T.length) = _
    rw [if_pos (by decide)]; omega
  rw [e, HT.sIx_none]; simp
theorem x_isNB {a b : Bool} {st : Sto} : oIsN (.bl a) (.bl b) st = .ok (.bl (!decide (a = b))) st := rfl
theorem old_ints (n : Nat) (l : List Int) : oldW n (.lst (l.map W.int)) = true := by
  show (fz0s n (fun _ => none) (l.map W.int)).isSome = true
  rw [fz_ints]; rfl

end SL
namespace SL
open PySem PySem.Spec PyProof.Rows L2
/-! ## dicts of rows -/
abbrev Tc := List (List Int × Int)
def ksT (d : Tc) : List W := d.map fun p => bits p.1
def vsT (d : Tc) : List W := d.map fun p => .int p.2
def keyI (l : List Int) : KeyL := l.map Sum.inl
def kkT (d : Tc) : List KeyL := d.map fun p => keyI p.1
def tC (d : Tc) : Cel := .dct (.ty "T" :: ksT d) (vsT d)
def tLk (d : Tc) : Cel := .dct (.ty "TL" :: ksT d) (vsT d)
def tget (d : Tc) (k : List Int) : Option Int := (d.find? fun p => decide (p.1 = k)).map (·.2)
def tput (d : Tc) (k : List Int) (v : Int) : Tc := if (d.any fun p => decide (p.1 = k)) = true then d.map (fun p => if p.1 = k then (p.1, v) else p) else d ++ [(k, v)]
theorem keysW_bits : ∀ l : List Int, keysW (l.map W.int) = some (keyI l)
  | [] => rfl
  | a :: l => by
    rw [List.map_cons]
    unfold keysW
    rw [keysW_bits l]; rfl
theorem keyT_bits (l : List Int) : keyT (bits l) = some (keyI l) := keysW_bits l
theorem mapO_ksT : ∀ d : Tc, mapO keyT (ksT d) = some (kkT d)
  | [] => rfl
  | p :: d => by
    have e : ksT (p :: d) = bits p.1 :: ksT d := rfl
    rw [e, mapO, mapO_ksT d, keyT_bits]; rfl
theorem keyI_eq : ∀ {a b : List Int}, keyI a = keyI b ↔ a = b
  | [], [] => ⟨fun _ => rfl, fun _ => rfl⟩
  | [], b :: l => ⟨(fun h => by cases h), (fun h => by cases h)⟩
  | a :: l, [] => ⟨(fun h => by cases h), (fun h => by cases h)⟩
  | a :: l, b :: m => by
    constructor
    · intro h
      have h' : (Sum.inl a : Key) :: keyI l = Sum.inl b :: keyI m := h
      injection h' with h1 h2
      rw [Sum.inl.inj h1, keyI_eq.mp h2]
    · intro h; rw [h]
theorem val_T (k : List Int) : ∀ d : Tc, valT ((kkT d).zip (vsT d)) (keyI k) = (tget d k).map W.int
  | [] => rfl
  | p :: d => by
    have ih := val_T k d
    show (((keyI p.1, W.int p.2) :: (kkT d).zip (vsT d)).find? _).map _ = _
    unfold valT at ih
    unfold tget at ih ⊢
    by_cases e : p.1 = k
    · rw [List.find?_cons_of_pos (by simp [e]), List.find?_cons_of_pos (by simp [e])]; rfl
    · rw [List.find?_cons_of_neg (by simpa using fun z => e (keyI_eq.mp z)), List.find?_cons_of_neg (by simpa using e)]; exact ih
theorem dctT_cell {st : Sto} {n : Nat} : dctT st (.cell n) = match st[n]? with
    | some (.dct ks ws) => (match kindW ks with
      | some (_, .inr kk) => some (kk, ws)
      | _ => none)
    | _ => none := rfl
theorem tct_at {st : Sto} {n : Nat} {d : Tc} (h : st[n]? = some (tC d) ∨ st[n]? = some (tLk d)) : dctT st (.cell n) = some (kkT d, vsT d) := by
  rw [dctT_cell]
  rcases h with h | h
  · rw [h]
    show (match kindW (.ty "T" :: ksT d) with | some (_, .inr kk) => some (kk, vsT d) | _ => none) = _
    rw [kind_T1 (mapO_ksT d)]
  · rw [h]
    show (match kindW (.ty "TL" :: ksT d) with | some (_, .inr kk) => some (kk, vsT d) | _ => none) = _
    rw [kind_TL (mapO_ksT d)]
theorem tget_ok {st : Sto} {n : Nat} {d : Tc} {k : List Int} {v : Int} (h : st[n]? = some (tC d) ∨ st[n]? = some (tLk d)) (hv : tget d k = some v) : oTGet (.cell n) (bits k) st = .ok (.int v) st := by
  unfold oTGet
  rw [tct_at h, keyT_bits]
  show (match valT ((kkT d).zip (vsT d)) (keyI k) with | some w => Out.ok w st | none => .bad) = _
  rw [val_T, hv]; rfl
theorem tget2_ok {st : Sto} {n : Nat} {d : Tc} {k : List Int} {z : Int} {f g h : Sem} {fr : Fr} (hd : st[n]? = some (tC d) ∨ st[n]? = some (tLk d)) (h1 : f fr st = .ok (.cell n) st) (h2 : g fr st = .ok (bits k) st) (h3 : h fr st = .ok (.int z) st) : eTGet2 f g h fr st = .ok (.int ((tget d k).getD z)) st := by
  unfold eTGet2
  rw [h1, Out.bind_ok, tct_at hd]
  simp only [Option.isSome_some, if_true, h2, h3, Out.bind_ok, tct_at hd, keyT_bits]
  show Out.ok ((valT ((kkT d).zip (vsT d)) (keyI k)).getD (.int z)) st = _
  rw [val_T]
  cases tget d k <;> rfl
theorem any_kkT (k : List Int) : ∀ d : Tc, ((kkT d).any fun i => decide (i = keyI k)) = d.any fun p => decide (p.1 = k)
  | [] => rfl
  | p :: d => by
    show (decide (keyI p.1 = keyI k) || (kkT d).any _) = _
    rw [any_kkT k d, List.any_cons, decide_eq_decide.mpr keyI_eq]
theorem put_vsT (k : List Int) (v : Int) : ∀ d : Tc, putT (kkT d) (vsT d) (keyI k) (.int v) = vsT (d.map fun p => if p.1 = k then (p.1, v) else p)
  | [] => rfl
  | p :: d => by
    have ih := put_vsT k v d
    unfold putT at ih ⊢
    show (((keyI p.1, W.int p.2) :: (kkT d).zip (vsT d)).map _) = _
    rw [List.map_cons, ih, List.map_cons]
    show _ = W.int _ :: vsT _
    by_cases e : p.1 = k
    · simp [e]
    · have e' : ¬ (keyI p.1 = keyI k) := fun z => e (keyI_eq.mp z)
      simp [e, e']
theorem put_ksT (k : List Int) (v : Int) (d : Tc) : ksT (d.map fun p => if p.1 = k then (p.1, v) else p) = ksT d := by
  unfold ksT
  rw [List.map_map]
  apply List.map_congr_left
  intro p _
  by_cases e : p.1 = k <;> simp [e]
theorem tput_ok {st : Sto} {n : Nat} {d : Tc} {k : List Int} {v : Int} (h : st[n]? = some (tC d)) (hl : d.length < LINE) : uDctT (.cell n) (bits k) (.int v) st = some (st.set n (tC (tput d k v))) := by
  have hl' : (ksT d).length < LINE := by unfold ksT; rw [List.length_map]; exact hl
  have e0 : uDctT (.cell n) (bits k) (.int v) st = (match mapO keyT (ksT d), keyT (bits k) with
      | some kk, some j => if (ksT d).length < LINE then (if (kk.any fun i => decide (i = j)) = true then some (st.set n (.dct (.ty "T" :: ksT d) (putT kk (vsT d) j (.int v)))) else some (st.set n (.dct (.ty "T" :: (ksT d ++ [bits k])) (vsT d ++ [.int v])))) else none
      | _, _ => none) := by
    show (match st[n]? with
      | some (Cel.dct (W.ty t :: ks) ws) => if t = "T" then (match mapO keyT ks, keyT (bits k) with
        | some kk, some j => if ks.length < LINE then (if (kk.any fun i => decide (i = j)) = true then some (st.set n (Cel.dct (W.ty "T" :: ks) (putT kk ws j (W.int v)))) else some (st.set n (Cel.dct (W.ty "T" :: (ks ++ [bits k])) (ws ++ [W.int v])))) else none
        | _, _ => none) else none
      | _ => none) = _
    rw [h]
    exact if_pos rfl
  rw [e0, mapO_ksT, keyT_bits]
  show (if (ksT d).length < LINE then (if ((kkT d).any fun i => decide (i = keyI k)) = true then some (st.set n (.dct (.ty "T" :: ksT d) (putT (kkT d) (vsT d) (keyI k) (.int v)))) else some (st.set n (.dct (.ty "T" :: (ksT d ++ [bits k])) (vsT d ++ [.int v])))) else none) = _
  rw [if_pos hl', any_kkT, put_vsT]
  unfold tput
  by_cases e : (d.any fun p => decide (p.1 = k)) = true
  · rw [if_pos e, if_pos e]
    unfold tC
    rw [put_ksT]
  · rw [if_neg e, if_neg e]
    unfold tC ksT vsT
    rw [List.map_append, List.map_append]; rfl
theorem fz_map {α : Type} {wf : α → W} {n : Nat} {f : Nat → Option W} (h : ∀ a, fz0 n f (wf a) = some (wf a)) : ∀ l : List α, fz0s n f (l.map wf) = some (l.map wf)
  | [] => rfl
  | a :: l => by rw [List.map_cons, fz0s, h a, fz_map h l]
theorem old_tc (n : Nat) (d : Tc) : oldW n (tC d) = true := by
  show (fz0s n (fun _ => none) (vsT d)).isSome = true
  unfold vsT
  rw [fz_map (wf := fun p : List Int × Int => W.int p.2) (fun _ => rfl)]; rfl
theorem old_tl (n : Nat) (d : Tc) : oldW n (tLk d) = true := old_tc n d
/-! ### what is found, what is put -/
theorem tget_map (k : List Int) (v : Int) (j : List Int) : ∀ d : Tc, tget (d.map fun p => if p.1 = k then (p.1, v) else p) j = if j = k then (tget d k).map (fun _ => v) else tget d j
  | [] => by by_cases e : j = k <;> simp [tget, e]
  | p :: d => by
    have ih := tget_map k v j d
    unfold tget at ih ⊢
    rw [List.map_cons]
    by_cases h1 : p.1 = k
    · rw [if_pos h1]
      by_cases h2 : j = k
      · rw [if_pos h2, List.find?_cons_of_pos (by simp [h1, h2]), List.find?_cons_of_pos (by simp [h1])]; rfl
      · rw [if_neg h2, List.find?_cons_of_neg (by simp [h1]; exact fun z => h2 z.symm), List.find?_cons_of_neg (by simp [h1]; exact fun z => h2 z.symm)]
        rw [if_neg h2] at ih; exact ih
    · rw [if_neg h1]
      by_cases h2 : j = k
      · rw [if_pos h2, List.find?_cons_of_neg (by simp [h2, h1]), List.find?_cons_of_neg (by simp [h1])]
        rw [if_pos h2] at ih; exact ih
      · rw [if_neg h2]
        rw [if_neg h2] at ih
        by_cases h3 : p.1 = j
        · rw [List.find?_cons_of_pos (by simp [h3]), List.find?_cons_of_pos (by simp [h3])]
        · rw [List.find?_cons_of_neg (by simp [h3]), List.find?_cons_of_neg (by simp [h3])]; exact ih
theorem tget_none {d : Tc} {k : List Int} (h : ¬ (d.any fun p => decide (p.1 = k)) = true) : tget d k = none := by
  unfold tget
  rw [Option.map_eq_none_iff, List.find?_eq_none]
  intro p hp z
  exact h (List.any_eq_true.mpr ⟨p, hp, z⟩)
theorem mem_tget {d : Tc} (nd : (d.map (·.1)).Nodup) : ∀ p ∈ d, tget d p.1 = some p.2 := by
  induction d with
  | nil => intro p hp; cases hp
  | cons q d ih =>
    rw [List.map_cons, List.nodup_cons] at nd
    intro p hp
    unfold tget
    rcases List.mem_cons.mp hp with rfl | hp
    · rw [List.find?_cons_of_pos (by simp)]; rfl
    · have ne : q.1 ≠ p.1 := fun e => nd.1 (e ▸ List.mem_map.mpr ⟨p, hp, rfl⟩)
      rw [List.find?_cons_of_neg (by simpa using ne)]
      exact ih nd.2 p hp
theorem tput_keys (d : Tc) (k : List Int) (v : Int) : (tput d k v).map (·.1) = if (d.any fun p => decide (p.1 = k)) = true then d.map (·.1) else d.map (·.1) ++ [k] := by
  unfold tput
  by_cases e : (d.any fun p => decide (p.1 = k)) = true
  · rw [if_pos e, if_pos e, List.map_map]
    apply List.map_congr_left
    intro p _
    by_cases z : p.1 = k <;> simp [z]
  · rw [if_neg e, if_neg e, List.map_append]; rfl
/-- the keys: rows of m cells, each once -/
structure TOk (m : Nat) (d : Tc) : Prop where
  nd : (d.map (·.1)).Nodup
  bd : ∀ p ∈ d, p.1.length = m ∧ Bits p.1
theorem TOk.nil (m : Nat) : TOk m [] := ⟨List.nodup_nil, fun _ h => nomatch h⟩
theorem TOk.put {m : Nat} {d : Tc} {k : List Int} {v : Int} (h : TOk m d) (h1 : k.length = m) (h2 : Bits k) : TOk m (tput d k v) := by
  have kk := tput_keys d k v
  refine ⟨?_, fun p hp => ?_⟩
  · rw [kk]
    by_cases e : (d.any fun p => decide (p.1 = k)) = true
    · rw [if_pos e]; exact h.nd
    · rw [if_neg e, List.nodup_append]
      refine ⟨h.nd, by simp, fun a ha b hb z => ?_⟩
      rw [List.mem_singleton] at hb
      subst hb; subst z
      obtain ⟨p, hp, e2'⟩ := List.mem_map.mp ha
      exact e (List.any_eq_true.mpr ⟨p, hp, by simp [e2']⟩)
  · have hm : p.1 ∈ (tput d k v).map (·.1) := List.mem_map.mpr ⟨p, hp, rfl⟩
    rw [kk] at hm
    have old : p.1 ∈ d.map (·.1) → p.1.length = m ∧ Bits p.1 := fun z => by
      obtain ⟨q, hq, e⟩ := List.mem_map.mp z
      rw [← e]; exact h.bd q hq
    by_cases e : (d.any fun p => decide (p.1 = k)) = true
    · rw [if_pos e] at hm; exact old hm
    · rw [if_neg e] at hm
      rcases List.mem_append.mp hm with hm | hm
      · exact old hm
      · rw [List.mem_singleton.mp hm]; exact ⟨h1, h2⟩
theorem mem_rowsL : ∀ {n : Nat} {l : List Int}, l.length = n → Bits l → l ∈ rowsL n
  | 0, l, h, _ => by rw [List.eq_nil_of_length_eq_zero h]; exact List.mem_singleton.mpr rfl
  | n + 1, l, h, b => by
    have ne : l ≠ [] := fun e => by rw [e] at h; cases h
    have e := List.dropLast_concat_getLast ne
    have ih := mem_rowsL (n := n) (l := l.dropLast) (by rw [List.length_dropLast]; omega) (fun z hz => b z (List.dropLast_subset l hz))
    unfold rowsL
    rw [← e]
    rcases b _ (List.getLast_mem ne) with z | z <;> rw [z]
    · exact List.mem_append_left _ (List.mem_map.mpr ⟨_, ih, rfl⟩)
    · exact List.mem_append_right _ (List.mem_map.mpr ⟨_, ih, rfl⟩)
theorem TOk.len {m : Nat} {d : Tc} (h : TOk m d) : d.length ≤ 2 ^ m := by
  have z := List.Nodup.length_le_of_subset (l₂ := rowsL m) h.nd fun k hk => by
    obtain ⟨p, hp, rfl⟩ := List.mem_map.mp hk
    obtain ⟨h1, h2⟩ := h.bd p hp
    exact mem_rowsL h1 h2
  rw [List.length_map, rowsL_len] at z
  exact z
/-- the sum of the values, each times what g gives its key -/
def wsum (d : Tc) (g : List Int → Int) : Int := (d.map fun p => p.2 * g p.1).sum
theorem wsum_put {d : Tc} {k : List Int} {v : Int} (g : List Int → Int) (nd : (d.map (·.1)).Nodup) : wsum (tput d k ((tget d k).getD 0 + v)) g = wsum d g + v * g k := by
  unfold tput
  by_cases e : (d.any fun p => decide (p.1 = k)) = true
  · rw [if_pos e]
    have go : ∀ (d : Tc), (d.map (·.1)).Nodup → ∀ u : Int, (d.any fun p => decide (p.1 = k)) = true → tget d k = some u → wsum (d.map fun p => if p.1 = k then (p.1, u + v) else p) g = wsum d g + v * g k := by
      intro d
      induction d with
      | nil => intro _ u h; cases h
      | cons q d ih =>
        intro nd u h hu
        rw [List.map_cons, List.nodup_cons] at nd
        unfold wsum
        rw [List.map_cons, List.map_cons, List.map_cons, List.sum_cons, List.sum_cons]
        by_cases z : q.1 = k
        · have same : (d.map fun p => if p.1 = k then (p.1, u + v) else p) = d := by
            rw [List.map_congr_left (g := id), List.map_id]
            intro p hp
            have : p.1 ≠ k := fun y => nd.1 (by rw [z, ← y]; exact List.mem_map.mpr ⟨p, hp, rfl⟩)
            rw [if_neg this]; rfl
          rw [same, if_pos z]
          have hu' : q.2 = u := by
            unfold tget at hu
            rw [List.find?_cons_of_pos (by simp [z])] at hu
            exact Option.some.inj hu
          show (u + v) * g q.1 + _ = _
          rw [z, hu', Int.add_mul]; omega
        · rw [if_neg z]
          have h' : (d.any fun p => decide (p.1 = k)) = true := by
            rw [List.any_cons] at h; simpa [z] using h
          have hu' : tget d k = some u := by
            unfold tget at hu ⊢
            rw [List.find?_cons_of_neg (by simpa using z)] at hu; exact hu
          have i := ih nd.2 u h' hu'
          unfold wsum at i
          rw [i]; omega
    cases hu : tget d k with
    | none =>
      exfalso
      obtain ⟨p, hp, q⟩ := List.any_eq_true.mp e
      have := mem_tget nd p hp
      rw [of_decide_eq_true q, hu] at this; cases this
    | some u => exact go d nd u e hu
  · rw [if_neg e, tget_none e]
    unfold wsum
    rw [List.map_append, List.sum_append]
    show _ + ([(0 + v) * g k].sum) = _
    simp
/-! ### the step -/
/-- the looks of one key -/
def tlook (cond : List Int → Bool) (cs : List Int) (q : List Int × Int) (acc : Tc) : Tc := cs.foldl (fun acc c => if cond (q.1 ++ [c]) = true then tput acc ((q.1 ++ [c]).drop 1) ((tget acc ((q.1 ++ [c]).drop 1)).getD 0 + q.2) else acc) acc
def tstep (cond : List Int → Bool) (cs : List Int) (d : Tc) : Tc := d.foldl (fun acc q => tlook cond cs q acc) []
def CellsOk (cs : List Int) : Prop := ∀ c ∈ cs, c = 0 ∨ c = 1
theorem key_ok {m : Nat} {k : List Int} {c : Int} (h : k.length = m ∧ Bits k) (hc : c = 0 ∨ c = 1) : ((k ++ [c]).drop 1).length = m ∧ Bits ((k ++ [c]).drop 1) := by
  refine ⟨by rw [List.length_drop, List.length_append, h.1]; rfl, fun n hn => ?_⟩
  rcases List.mem_append.mp (List.mem_of_mem_drop hn) with z | z
  · exact h.2 n z
  · rw [List.mem_singleton.mp z]; exact hc
theorem TOk.look {m : Nat} {cond : List Int → Bool} {q : List Int × Int} (hq : q.1.length = m ∧ Bits q.1) : ∀ (cs : List Int) {acc : Tc}, CellsOk cs → TOk m acc → TOk m (tlook cond cs q acc)
  | [], acc, _, h => h
  | c :: cs, acc, hc, h => by
    unfold tlook
    rw [List.foldl_cons]
    refine TOk.look hq cs (fun x hx => hc x (List.mem_cons_of_mem _ hx)) ?_
    by_cases e : cond (q.1 ++ [c]) = true
    · rw [if_pos e]
      obtain ⟨a, b⟩ := key_ok hq (hc c List.mem_cons_self)
      exact h.put a b
    · rw [if_neg e]; exact h
theorem wsum_look {m : Nat} {cond : List Int → Bool} {q : List Int × Int} (hq : q.1.length = m ∧ Bits q.1) (g : List Int → Int) : ∀ (cs : List Int) {acc : Tc}, CellsOk cs → TOk m acc → wsum (tlook cond cs q acc) g = wsum acc g + ((cs.filter fun c => cond (q.1 ++ [c])).map fun c => q.2 * g ((q.1 ++ [c]).drop 1)).sum
  | [], acc, _, h => by show wsum acc g = _; simp
  | c :: cs, acc, hc, h => by
    have hc' : CellsOk cs := fun x hx => hc x (List.mem_cons_of_mem _ hx)
    unfold tlook
    rw [List.foldl_cons]
    by_cases e : cond (q.1 ++ [c]) = true
    · rw [if_pos e, List.filter_cons_of_pos (p := fun c => cond (q.1 ++ [c])) e, List.map_cons, List.sum_cons]
      obtain ⟨a, b⟩ := key_ok hq (hc c List.mem_cons_self)
      have ih := wsum_look (cond := cond) hq g cs (acc := tput acc ((q.1 ++ [c]).drop 1) ((tget acc ((q.1 ++ [c]).drop 1)).getD 0 + q.2)) hc' (h.put a b)
      unfold tlook at ih
      rw [ih, wsum_put g h.nd]; omega
    · rw [if_neg e, List.filter_cons_of_neg (p := fun c => cond (q.1 ++ [c])) e]
      have ih := wsum_look hq g cs (cond := cond) hc' h
      unfold tlook at ih
      exact ih
theorem TOk.fold {m : Nat} {cond : List Int → Bool} {cs : List Int} (hc : CellsOk cs) : ∀ (d : Tc) {acc : Tc}, (∀ p ∈ d, p.1.length = m ∧ Bits p.1) → TOk m acc → TOk m (d.foldl (fun acc q => tlook cond cs q acc) acc)
  | [], acc, _, h => h
  | q :: d, acc, hd, h => by
    rw [List.foldl_cons]
    exact TOk.fold hc d (fun p hp => hd p (List.mem_cons_of_mem _ hp)) (TOk.look (hd q List.mem_cons_self) cs hc h)
theorem wsum_fold {m : Nat} {cond : List Int → Bool} {cs : List Int} (hc : CellsOk cs) (g : List Int → Int) : ∀ (d : Tc) {acc : Tc}, (∀ p ∈ d, p.1.length = m ∧ Bits p.1) → TOk m acc → wsum (d.foldl (fun acc q => tlook cond cs q acc) acc) g = wsum acc g + wsum d (fun k => ((cs.filter fun c => cond (k ++ [c])).map fun c => g ((k ++ [c]).drop 1)).sum)
  | [], acc, _, h => by show wsum acc g = _ + 0; omega
  | q :: d, acc, hd, h => by
    rw [List.foldl_cons, wsum_fold hc g d (fun p hp => hd p (List.mem_cons_of_mem _ hp)) (TOk.look (hd q List.mem_cons_self) cs hc h), wsum_look (hd q List.mem_cons_self) g cs hc h]
    have e : ((cs.filter fun c => cond (q.1 ++ [c])).map fun c => q.2 * g ((q.1 ++ [c]).drop 1)).sum = q.2 * ((cs.filter fun c => cond (q.1 ++ [c])).map fun c => g ((q.1 ++ [c]).drop 1)).sum := by
      generalize cs.filter (fun c => cond (q.1 ++ [c])) = l
      induction l with
      | nil => simp
      | cons a l ih => rw [List.map_cons, List.map_cons, List.sum_cons, List.sum_cons, ih, Int.mul_add]
    rw [e]
    unfold wsum
    rw [List.map_cons, List.sum_cons]; exact Int.add_assoc _ _ _
theorem TOk.step {m : Nat} {cond : List Int → Bool} {cs : List Int} {d : Tc} (hc : CellsOk cs) (h : TOk m d) : TOk m (tstep cond cs d) := TOk.fold hc d h.bd (TOk.nil m)
theorem wsum_step {m : Nat} {cond : List Int → Bool} {cs : List Int} {d : Tc} (hc : CellsOk cs) (h : TOk m d) (g : List Int → Int) : wsum (tstep cond cs d) g = wsum d (fun k => ((cs.filter fun c => cond (k ++ [c])).map fun c => g ((k ++ [c]).drop 1)).sum) := by
  unfold tstep
  rw [wsum_fold hc g d h.bd (TOk.nil m)]
  show 0 + _ = _
  omega

end SL
namespace SL
open PySem PySem.Spec PyProof.Rows L2
/-! ## rows that rest, counted by their last cells -/
/-- the look at place j of a row, light cells ahead of it -/
def lookAt (r : Nat) (z : List Int) (j : Nat) : List Int := (zeros (2 * r) ++ z).drop j |>.take (2 * r + 1)
def good (r : Nat) (t z : List Int) (j : Nat) : Bool := decide (j < r) || decide (t.getD (num (lookAt r z j)).toNat 0 = z.getD (j - r) 0)
def okp (r : Nat) (t z : List Int) : Bool := (List.range z.length).all (good r t z)
/-- the last cells -/
def tl (r : Nat) (z : List Int) : List Int := (zeros (2 * r) ++ z).drop z.length
theorem tl_len (r : Nat) (z : List Int) : (tl r z).length = 2 * r := by
  unfold tl zeros
  rw [List.length_drop, List.length_append, List.length_replicate]; omega
theorem tl_bits {r : Nat} {z : List Int} (h : Bits z) : Bits (tl r z) := fun n hn => bits_join (zeros_bits _) h n (List.mem_of_mem_drop hn)
theorem look_snoc (r : Nat) (z : List Int) (c : Int) : tl r z ++ [c] = lookAt r (z ++ [c]) z.length := by
  unfold tl lookAt
  rw [← List.append_assoc, List.drop_append_of_le_length (l₁ := zeros (2 * r) ++ z) (l₂ := [c]) (by rw [List.length_append]; omega)]
  rw [List.take_of_length_le]
  rw [List.length_append, List.length_drop, List.length_append]
  simp only [zeros, List.length_replicate, List.length_singleton]
  omega
theorem tl_snoc (r : Nat) (z : List Int) (c : Int) : (tl r z ++ [c]).drop 1 = tl r (z ++ [c]) := by
  unfold tl
  rw [List.length_append, List.length_singleton, ← List.append_assoc, ← List.drop_drop, List.drop_append_of_le_length (l₁ := zeros (2 * r) ++ z) (by simp [zeros])]
theorem look_old {r : Nat} {z : List Int} {c : Int} {j : Nat} (h : j < z.length) : lookAt r (z ++ [c]) j = lookAt r z j := by
  unfold lookAt
  rw [← List.append_assoc, List.drop_append_of_le_length (by simp [zeros]; omega), List.take_append_of_le_length (by simp [zeros]; omega)]
theorem good_old {r : Nat} {t z : List Int} {c : Int} {j : Nat} (h : j < z.length) : good r t (z ++ [c]) j = good r t z j := by
  unfold good
  rw [look_old h]
  by_cases q : j < r
  · simp [q]
  · have e : (z ++ [c]).getD (j - r) 0 = z.getD (j - r) 0 := by
      rw [List.getD_eq_getElem?_getD, List.getD_eq_getElem?_getD, List.getElem?_append_left (by omega)]
    rw [e]
theorem okp_snoc (r : Nat) (t z : List Int) (c : Int) : okp r t (z ++ [c]) = (okp r t z && good r t (z ++ [c]) z.length) := by
  unfold okp
  rw [List.length_append, List.length_singleton, List.range_succ, List.all_append]
  congr 1
  · apply Bool.eq_iff_iff.mpr
    rw [List.all_eq_true, List.all_eq_true]
    constructor
    · intro h j hj; rw [← good_old (c := c) (List.mem_range.mp hj)]; exact h j hj
    · intro h j hj; rw [good_old (c := c) (List.mem_range.mp hj)]; exact h j hj
  · simp
/-- what is asked of a look at the place a -/
def cond (r : Nat) (t : List Int) (a : Nat) (look : List Int) : Bool := decide (a < r) || decide (t.getD (num look).toNat 0 = look.getD r 0)
theorem getD_drop {l : List Int} {a b : Nat} : (l.drop a).getD b 0 = l.getD (a + b) 0 := by
  rw [List.getD_eq_getElem?_getD, List.getD_eq_getElem?_getD, List.getElem?_drop]
theorem cond_good (r : Nat) (t z : List Int) (c : Int) : cond r t z.length (tl r z ++ [c]) = good r t (z ++ [c]) z.length := by
  unfold cond good
  rw [look_snoc]
  by_cases q : z.length < r
  · simp [q]
  · have e : (lookAt r (z ++ [c]) z.length).getD r 0 = (z ++ [c]).getD (z.length - r) 0 := by
      rw [← look_snoc]
      unfold tl
      rw [List.getD_eq_getElem?_getD]
      by_cases r0 : r = 0
      · subst r0
        rw [List.getElem?_append_right (by simp [zeros])]
        simp [zeros]
      · rw [List.getElem?_append_left (by simp [zeros]; omega), List.getElem?_drop, List.getElem?_append_right (by simp [zeros]; omega)]
        rw [List.getD_eq_getElem?_getD, List.getElem?_append_left (by omega)]
        simp only [zeros, List.length_replicate]
        congr 2; omega
    rw [e]
def cellsAt (n a : Nat) : List Int := if a < n then [0, 1] else [0]
theorem cells_ok (n a : Nat) : CellsOk (cellsAt n a) := fun c hc => by
  unfold cellsAt at hc
  split at hc
  · simpa using hc
  · rw [List.mem_singleton.mp hc]; exact .inl rfl
/-- all rows of a cells, from the n-th on light -/
def allR (n : Nat) : Nat → List (List Int)
  | 0 => [[]]
  | a + 1 => (cellsAt n a).flatMap fun c => (allR n a).map fun z => z ++ [c]
theorem allR_len (n : Nat) : ∀ a, ∀ z ∈ allR n a, z.length = a ∧ Bits z
  | 0, z, h => by rw [allR, List.mem_singleton] at h; subst h; exact ⟨rfl, fun _ h => nomatch h⟩
  | a + 1, z, h => by
    rw [allR, List.mem_flatMap] at h
    obtain ⟨c, hc, h⟩ := h
    obtain ⟨y, hy, rfl⟩ := List.mem_map.mp h
    obtain ⟨h1, h2⟩ := allR_len n a y hy
    exact ⟨by rw [List.length_append, h1]; rfl, bits_join h2 fun w hw => by rw [List.mem_singleton.mp hw]; exact cells_ok n a c hc⟩
theorem allR_rows (n : Nat) : ∀ a, a ≤ n → allR n a = rowsL a
  | 0, _ => rfl
  | a + 1, h => by
    rw [allR, rowsL, allR_rows n a (by omega)]
    unfold cellsAt
    rw [if_pos (by omega)]
    simp
theorem allR_end (n : Nat) : ∀ i, allR n (n + i) = (rowsL n).map fun x => x ++ zeros i
  | 0 => by
    rw [Nat.add_zero, allR_rows n n (Nat.le_refl _)]
    simp [zeros]
  | i + 1 => by
    rw [← Nat.add_assoc, allR, allR_end n i]
    unfold cellsAt
    rw [if_neg (by omega)]
    simp only [List.flatMap_cons, List.flatMap_nil, List.append_nil, List.map_map]
    apply List.map_congr_left
    intro x _
    show x ++ zeros i ++ [0] = x ++ zeros (i + 1)
    unfold zeros
    rw [List.append_assoc, List.replicate_succ']
/-- the sum over the rows that are well so far -/
def psum (r : Nat) (t : List Int) (n a : Nat) (g : List Int → Int) : Int := (((allR n a).filter (okp r t)).map fun z => g (tl r z)).sum
theorem sum_flat {α : Type} (f : α → List Int) : ∀ l : List α, (l.flatMap f).sum = (l.map fun a => (f a).sum).sum
  | [] => rfl
  | a :: l => by rw [List.flatMap_cons, List.sum_append, sum_flat f l, List.map_cons, List.sum_cons]
theorem sum_add {α : Type} (f g : α → Int) : ∀ l : List α, (l.map fun a => f a + g a).sum = (l.map f).sum + (l.map g).sum
  | [] => rfl
  | a :: l => by rw [List.map_cons, List.sum_cons, sum_add f g l, List.map_cons, List.map_cons, List.sum_cons, List.sum_cons]; omega
theorem sum_swap {α β : Type} (f : α → β → Int) : ∀ (l : List α) (m : List β), (l.map fun a => (m.map fun b => f a b).sum).sum = (m.map fun b => (l.map fun a => f a b).sum).sum
  | [], m => by induction m with
    | nil => rfl
    | cons b m ih => rw [List.map_cons, List.sum_cons, ← ih]; rfl
  | a :: l, m => by
    rw [List.map_cons, List.sum_cons, sum_swap f l m, ← sum_add]
    rfl
theorem sum_filter {α : Type} (p : α → Bool) (f : α → Int) : ∀ l : List α, ((l.filter p).map f).sum = (l.map fun a => if p a = true then f a else 0).sum
  | [] => rfl
  | a :: l => by
    by_cases h : p a = true
    · rw [List.filter_cons_of_pos h, List.map_cons, List.map_cons, List.sum_cons, List.sum_cons, sum_filter p f l, if_pos h]
    · rw [List.filter_cons_of_neg h, List.map_cons, List.sum_cons, sum_filter p f l, if_neg h]; omega
theorem psum_step (r : Nat) (t : List Int) (n a : Nat) (g : List Int → Int) : psum r t n (a + 1) g = psum r t n a fun k => (((cellsAt n a).filter fun c => cond r t a (k ++ [c])).map fun c => g ((k ++ [c]).drop 1)).sum := by
  unfold psum
  rw [sum_filter, sum_filter, allR, List.map_flatMap, sum_flat]
  have e1' : ∀ c : Int, (((allR n a).map fun z => z ++ [c]).map fun z => if okp r t z = true then g (tl r z) else 0).sum = ((allR n a).map fun z => if okp r t (z ++ [c]) = true then g (tl r (z ++ [c])) else 0).sum := fun c => by rw [List.map_map]; rfl
  simp only [e1']
  rw [sum_swap (fun c z => if okp r t (z ++ [c]) = true then g (tl r (z ++ [c])) else 0)]
  congr 1
  apply List.map_congr_left
  intro z hz
  have hl := (allR_len n a z hz).1
  rw [sum_filter]
  by_cases ok : okp r t z = true
  · rw [if_pos ok]
    congr 1
    apply List.map_congr_left
    intro c _
    rw [okp_snoc, ok, ← cond_good, hl, tl_snoc]
    rfl
  · rw [if_neg ok]
    have e2' : ∀ c : Int, (if okp r t (z ++ [c]) = true then g (tl r (z ++ [c])) else 0) = 0 := fun c => by
      rw [okp_snoc]
      simp [ok]
    simp only [e2']
    induction cellsAt n a with
    | nil => rfl
    | cons c l ih => rw [List.map_cons, List.sum_cons, ih]; rfl
/-- the dict behind a cells -/
def dcts (r : Nat) (t : List Int) (n : Nat) : Nat → Tc
  | 0 => [(zeros (2 * r), 1)]
  | a + 1 => tstep (cond r t a) (cellsAt n a) (dcts r t n a)
theorem dcts_ok (r : Nat) (t : List Int) (n : Nat) : ∀ a, TOk (2 * r) (dcts r t n a)
  | 0 => ⟨by simp [dcts], fun p hp => by rw [dcts, List.mem_singleton] at hp; subst hp; exact ⟨by simp [zeros], zeros_bits _⟩⟩
  | a + 1 => TOk.step (cells_ok n a) (dcts_ok r t n a)
theorem dcts_sum (r : Nat) (t : List Int) (n : Nat) : ∀ a g, wsum (dcts r t n a) g = psum r t n a g
  | 0, g => by
    have e : ((allR n 0).filter (okp r t)) = [[]] := rfl
    unfold psum
    rw [e]
    show (1 * g (zeros (2 * r)) + 0 : Int) = g (((zeros (2 * r)) ++ []).drop 0) + 0
    rw [List.append_nil, Int.one_mul]; rfl
  | a + 1, g => by
    rw [dcts, wsum_step (cells_ok n a) (dcts_ok r t n a), dcts_sum r t n a, psum_step]
/-- the row is swept to itself -/
def rest (r : Nat) (t x : List Int) : Bool := decide (filt (2 * r + 1) t (wide r x) x.length = x)
theorem rest_okp {r : Nat} {t x : List Int} : okp r t (x ++ zeros r) = rest r t x := by
  have look : ∀ k, k < x.length → lookAt r (x ++ zeros r) (k + r) = cutB (wide r x) k (2 * r + 1) := fun k hk => by
    unfold lookAt cutB wide
    have e : zeros (2 * r) = zeros r ++ zeros r := by unfold zeros; rw [List.replicate_append_replicate]; congr 1; omega
    rw [e, List.append_assoc, ← List.append_assoc (zeros r) x, Nat.add_comm k r, ← List.drop_drop]
    congr 2
    rw [List.drop_append_of_le_length (by simp [zeros])]
    simp [zeros]
  have val : ∀ k, k < x.length → (x ++ zeros r).getD (k + r - r) 0 = x.getD k 0 := fun k hk => by
    rw [Nat.add_sub_cancel, List.getD_eq_getElem?_getD, List.getD_eq_getElem?_getD, List.getElem?_append_left hk]
  apply Bool.eq_iff_iff.mpr
  unfold okp rest
  rw [List.all_eq_true, decide_eq_true_iff]
  have len : (x ++ zeros r).length = x.length + r := by simp [zeros]
  rw [len]
  constructor
  · intro h
    apply List.ext_getElem?
    intro k
    by_cases hk : k < x.length
    · have z := h (k + r) (List.mem_range.mpr (by omega))
      unfold good at z
      rw [look k hk, val k hk] at z
      have z' : t.getD (num (cutB (wide r x) k (2 * r + 1))).toNat 0 = x.getD k 0 := by
        rcases Bool.or_eq_true_iff.mp z with q | q
        · exact absurd (of_decide_eq_true q) (by omega)
        · exact of_decide_eq_true q
      unfold filt
      rw [List.getElem?_map, List.getElem?_range hk, Option.map_some, z', List.getD_eq_getElem?_getD, List.getElem?_eq_getElem hk]; rfl
    · rw [List.getElem?_eq_none (by unfold filt; simp; omega), List.getElem?_eq_none (by omega)]
  · intro h j hj
    have hj := List.mem_range.mp hj
    unfold good
    by_cases q : j < r
    · simp [q]
    · obtain ⟨k, rfl⟩ : ∃ k, j = k + r := ⟨j - r, by omega⟩
      have hk : k < x.length := by omega
      rw [look k hk, val k hk]
      have z := congrArg (fun l : List Int => l.getD k 0) h
      have z : (filt (2 * r + 1) t (wide r x) x.length).getD k 0 = x.getD k 0 := z
      rw [Bool.or_eq_true_iff]
      refine .inr (decide_eq_true ?_)
      rw [← z]
      unfold filt
      rw [List.getD_eq_getElem?_getD (l := List.map _ _), List.getElem?_map, List.getElem?_range hk]; rfl
def count (r : Nat) (t : List Int) (n : Nat) : Nat := ((rowsL n).filter (rest r t)).length
theorem sum_ones {α : Type} : ∀ l : List α, (l.map fun _ => (1 : Int)).sum = l.length
  | [] => rfl
  | a :: l => by rw [List.map_cons, List.sum_cons, sum_ones l, List.length_cons]; omega
theorem count_sum (r : Nat) (t : List Int) (n : Nat) : ((dcts r t n (n + r)).map (·.2)).sum = (count r t n : Int) := by
  have z := dcts_sum r t n (n + r) fun _ => 1
  unfold wsum psum at z
  rw [sum_ones, allR_end, List.filter_map, List.length_map] at z
  have e : ((dcts r t n (n + r)).map fun p => p.2 * 1) = (dcts r t n (n + r)).map (·.2) := by
    apply List.map_congr_left
    intro p _; exact Int.mul_one _
  rw [e] at z
  rw [z]
  unfold count
  have e2' : ((okp r t) ∘ fun x => x ++ zeros r) = rest r t := by funext x; exact rest_okp
  rw [e2']

end SL
namespace SL
open PySem PySem.Spec PyProof.Rows L2
theorem take_nextT {α : Type} {l : List α} {k : Nat} {a : α} (h : l[k]? = some a) : l.take (k + 1) = l.take k ++ [a] := by
  obtain ⟨h1, h2⟩ := List.getElem?_eq_some_iff.mp h
  rw [List.take_succ_eq_append_getElem h1, h2]
theorem map_at {α : Type} {f : α → W} {l : List α} {k : Nat} {w : W} (h : (l.map f)[k]? = some w) : ∃ a, l[k]? = some a ∧ w = f a := by
  rw [List.getElem?_map] at h
  obtain ⟨a, h1, h2⟩ := Option.map_eq_some_iff.mp h
  exact ⟨a, h1, h2.symm⟩
theorem leaveC_at {n j : Nat} {c : Cel} {st : Sto} (hj : n ≤ j) (hc : st[j]? = some c) (hl : c.live = true) (ho : oldW n c = true) (ha : (st.take n).all (oldW n) = true) : leaveC n (.cell j) st = .ok (.cell n) (st.take n ++ [c]) := by
  have e : leaveC n (.cell j) st = if n ≤ j then (match st[j]? with
    | some c => if c.live = true ∧ oldW n c = true ∧ (st.take n).all (oldW n) = true then Out.ok (W.cell n) (st.take n ++ [c]) else .bad
    | none => .bad) else .bad := rfl
  rw [e, if_pos hj, hc]
  exact if_pos ⟨hl, ho, ha⟩
theorem leave_exT {n : Nat} {w : W} {st ex : Sto} (hn : st.length = n) (hw : ∀ f, fz0 n f w = some w) (ho : st.all (oldW n) = true) : leave n w (st ++ ex) = .ok w st := by
  subst hn
  unfold leave
  by_cases e : (st ++ ex).length = st.length
  · rw [if_pos e]
    have : ex = [] := by
      rw [List.length_append] at e
      exact List.eq_nil_of_length_eq_zero (by omega)
    rw [this, List.append_nil]
  · rw [if_neg e, hw]
    simp only [List.take_left, ho, if_true]
theorem mk_rt3 {m : Nat} {b : SSem} {ws : List W} {st st1 ex : Sto} {w : W} (h : b (ws.map some ++ List.replicate (m - ws.length) none) st = .rt w (st1 ++ ex)) (hl : st1.length = st.length) (hw : ∀ n f, fz0 n f w = some w) (ho : st1.all (oldW st.length) = true) : mkFn m b ws st = .ok w st1 := by
  unfold mkFn mkFnG; rw [h]
  exact leave_exT hl (hw _) ho
theorem x_keysT {i n : Nat} {d : Tc} {fr : Fr} {st : Sto} (hf : fr[i]? = some (some (.cell n))) (hn : st[n]? = some (tLk d)) (hl : d.length ≤ 1000) : iKeysT i fr st = .ok (.non, ksT d) st := by
  have e : iKeysT i fr st = (if "TL" = "TL" then (match mapO keyT (ksT d) with | some _ => if (ksT d).length ≤ LINE then Out.ok (W.non, ksT d) st else .bad | none => .bad) else .bad) := by
    unfold iKeysT
    simp only [hf, hn]
    rfl
  rw [e, if_pos rfl, mapO_ksT]
  show (if (ksT d).length ≤ LINE then Out.ok (W.non, ksT d) st else .bad) = _
  rw [if_pos (by unfold ksT; rw [List.length_map]; unfold LINE; omega)]
theorem unlkT_ok {n : Nat} {d : Tc} {st : Sto} (hu : st[n]? = some (tLk d)) : unlkT n st = some (st.set n (tC d)) := by
  unfold unlkT
  rw [hu]
  show (if "TL" = "TL" then (match mapO keyT (ksT d) with | some _ => some (st.set n (.dct (.ty "T" :: ksT d) (vsT d))) | none => none) else none) = _
  rw [if_pos rfl, mapO_ksT]; rfl
theorem x_lockT {i n : Nat} {d : Tc} {s : SSem} {fr fr2 : Fr} {st st2 : Sto} (hf : fr[i]? = some (some (.cell n))) (hn : st[n]? = some (tC d)) (h : s fr (st.set n (tLk d)) = .nx fr2 st2) (hu : st2[n]? = some (tLk d)) : sLockT i s fr st = .nx fr2 (st2.set n (tC d)) := by
  have e : sLockT i s fr st = (if "T" = "T" then (match mapO keyT (ksT d) with | some _ => unlTS n (s fr (st.set n (tLk d))) | none => .bad) else s fr st) := by
    unfold sLockT
    simp only [hf, hn]
    rfl
  rw [e, if_pos rfl, mapO_ksT]
  show unlTS n (s fr (st.set n (tLk d))) = _
  rw [h]
  show (match unlkT n st2 with | some st3 => SOut.nx fr2 st3 | none => .bad) = _
  rw [unlkT_ok hu]
theorem set_back {α : Type} {n : Nat} {st : List α} {c d : α} (hn : st[n]? = some c) : (st.set n d).set n c = st := by
  have hlt : n < st.length := (List.getElem?_eq_some_iff.mp hn).1
  rw [List.set_set]
  apply List.ext_getElem?
  intro j
  by_cases e : n = j
  · subst e; rw [List.getElem?_set_self hlt, hn]
  · rw [List.getElem?_set_ne e]
theorem x_lockET {i n : Nat} {d : Tc} {e : Sem} {fr : Fr} {st : Sto} {w : W} (hf : fr[i]? = some (some (.cell n))) (hn : st[n]? = some (tC d)) (h : e fr (st.set n (tLk d)) = .ok w (st.set n (tLk d))) : eLockT i e fr st = .ok w st := by
  have hlt : n < st.length := (List.getElem?_eq_some_iff.mp hn).1
  have e1' : eLockT i e fr st = (if "T" = "T" then (match mapO keyT (ksT d) with | some _ => unlTE n (e fr (st.set n (tLk d))) | none => .bad) else e fr st) := by
    unfold eLockT
    simp only [hf, hn]
    rfl
  rw [e1', if_pos rfl, mapO_ksT]
  show unlTE n (e fr (st.set n (tLk d))) = _
  rw [h]
  show (match unlkT n (st.set n (tLk d)) with | some st3 => Out.ok w st3 | none => .bad) = _
  rw [unlkT_ok (List.getElem?_set_self hlt), set_back hn]
theorem cut_from1 {T : List W} (h : 1 ≤ T.length) : cutW T (some (1 : Int)) none = T.drop 1 := cut_from (a := 1) h
theorem sl_tail {l : List Int} {st : Sto} (h : 1 ≤ l.length) : oSl (bits l) (some 1) none st = .ok (bits (l.drop 1)) st := by
  show Out.ok (W.tup (cutW (l.map W.int) (some (1 : Int)) none)) _ = _
  rw [cut_from1 (by rw [List.length_map]; exact h), ← List.map_drop]; rfl
def cellsW (cs : List Int) : W := .tup (cs.map W.int)
theorem snoc_ok {k : List Int} {c : Int} {st : Sto} (h : k.length ≤ 100) : oAdd (bits k) (.tup [.int c]) st = .ok (bits (k ++ [c])) st := by
  have t : W.tup [.int c] = bits [c] := rfl
  rw [t]
  exact bits_app (by simp; omega)
section
variable {st : Sto} {n : Nat} {d : Tc}
theorem lk_at (hlt : n < st.length) (x : Tc) : (st.set n (tLk d) ++ [tC x])[n]? = some (tLk d) := by
  rw [List.getElem?_append_left (by rw [List.length_set]; exact hlt), List.getElem?_set_self hlt]
theorem lk_new (x : Tc) : (st.set n (tLk d) ++ [tC x])[st.length]? = some (tC x) := by
  rw [List.getElem?_append_right (by rw [List.length_set]; exact Nat.le_refl _)]
  simp
theorem lk_set (x y : Tc) : (st.set n (tLk d) ++ [tC x]).set st.length (tC y) = st.set n (tLk d) ++ [tC y] := by
  rw [List.set_append_right _ _ (by rw [List.length_set]; exact Nat.le_refl _)]
  simp
theorem lk_back (hn : st[n]? = some (tC d)) (x : Tc) : (st.set n (tLk d) ++ [tC x]).set n (tC d) = st ++ [tC x] := by
  have hlt : n < st.length := (List.getElem?_eq_some_iff.mp hn).1
  rw [List.set_append_left _ _ (by rw [List.length_set]; exact hlt), set_back hn]
theorem lk_old (ho : ∀ m, st.all (oldW m) = true) (x : Tc) (m : Nat) : (st.set n (tLk d) ++ [tC x]).all (oldW m) = true := by
  rw [List.all_append, List.all_cons, old_tc]
  rw [Bool.and_eq_true]
  refine ⟨List.all_eq_true.mpr fun c hc => ?_, rfl⟩
  rcases List.mem_or_eq_of_mem_set hc with z | z
  · exact List.all_eq_true.mp (ho m) c z
  · rw [z]; exact old_tl m d
end
/-! ## the two steps of many_rest -/
theorem longer_ok {m n : Nat} {d : Tc} {cs : List Int} {st : Sto} (hm : m ≤ 6) (hn : st[n]? = some (tC d)) (hd : TOk m d) (hc : CellsOk cs) (hcl : cs.length ≤ 2) (ho : ∀ n, st.all (oldW n) = true) :
    F_longer_tails [.cell n, cellsW cs] st = .ok (.cell st.length) (st ++ [tC (tstep (fun _ => true) cs d)]) := by
  have hlt : n < st.length := (List.getElem?_eq_some_iff.mp hn).1
  have hp : (2 : Nat) ^ m ≤ 2 ^ 6 := Nat.pow_le_pow_right (by decide) hm
  have hp' : (2 : Nat) ^ 6 = 64 := rfl
  have hdl := hd.len
  obtain ⟨fr', st', l1, u3, u4, u5, rfl, rfl⟩ := x_for (f := (iKeysT 0)) (g := (gNm 3)) (b := (sFor (iSeq (eVar 1)) (gNm 4) (sSeq (sAsg (eSl (e2 oAdd (eVar 3) (eN oTup (aCons (eVar 4) (aNil)))) (pYes (eC (.int 1))) (pNo)) (gNm 5)) (sSub uDctT (e2 oAdd (eTGet2 (eVar 2) (eVar 5) (eC (.int 0))) (e2 oTGet (eVar 0) (eVar 3))) (eVar 2) (eVar 5)))))
    (fr := [some (.cell n), some (cellsW cs), some (.cell st.length), none, none, none]) (st := st.set n (tLk d) ++ [tC []]) (st1 := st.set n (tLk d) ++ [tC []]) (x := .non) (all := ksT d)
    (x_keysT rfl (lk_at hlt _) (by omega)) (fun k fr s => ∃ u3 u4 u5, fr = [some (.cell n), some (cellsW cs), some (.cell st.length), u3, u4, u5] ∧ s = st.set n (tLk d) ++ [tC ((d.take k).foldl (fun acc q => tlook (fun _ => true) cs q acc) [])]) ⟨none, none, none, rfl, rfl⟩ (fun _ _ _ _ => trivial) (by
      rintro k fr s z ⟨u3, u4, u5, rfl, rfl⟩ hw
      obtain ⟨q, hq, rfl⟩ := map_at hw
      have hqm := List.mem_of_getElem? hq
      have hqb := hd.bd q hqm
      have hg := mem_tget hd.nd q hqm
      rw [take_nextT hq, List.foldl_append, List.foldl_cons, List.foldl_nil]
      have aok : TOk m ((d.take k).foldl (fun acc q => tlook (fun _ => true) cs q acc) []) := TOk.fold hc _ (fun p hp => hd.bd p (List.mem_of_mem_take hp)) (TOk.nil m)
      revert aok
      generalize (d.take k).foldl (fun acc q => tlook (fun _ => true) cs q acc) [] = acc
      intro aok
      obtain ⟨fr2, st2, l2, v4, v5, rfl, rfl⟩ := x_for (f := (iSeq (eVar 1))) (g := (gNm 4)) (b := (sSeq (sAsg (eSl (e2 oAdd (eVar 3) (eN oTup (aCons (eVar 4) (aNil)))) (pYes (eC (.int 1))) (pNo)) (gNm 5)) (sSub uDctT (e2 oAdd (eTGet2 (eVar 2) (eVar 5) (eC (.int 0))) (e2 oTGet (eVar 0) (eVar 3))) (eVar 2) (eVar 5))))
        (fr := [some (.cell n), some (cellsW cs), some (.cell st.length), some (bits q.1), u4, u5]) (st := st.set n (tLk d) ++ [tC acc]) (st1 := st.set n (tLk d) ++ [tC acc]) (x := cellsW cs) (all := cs.map W.int)
        (by simp only [x_iSeq, x_var, fg1, Out.bind_ok]; rfl) (fun j fr s => ∃ v4 v5, fr = [some (.cell n), some (cellsW cs), some (.cell st.length), some (bits q.1), v4, v5] ∧ s = st.set n (tLk d) ++ [tC (tlook (fun _ => true) (cs.take j) q acc)]) ⟨u4, u5, rfl, rfl⟩ (fun _ _ _ _ => trivial) (by
          rintro j fr s z ⟨v4, v5, rfl, rfl⟩ hw
          obtain ⟨c, hcj, rfl⟩ := map_at hw
          have hcc := hc c (List.mem_of_getElem? hcj)
          have a2 : TOk m (tlook (fun _ => true) (cs.take j) q acc) := TOk.look hqb _ (fun x hx => hc x (List.mem_of_mem_take hx)) aok
          have step : tlook (fun _ => true) (cs.take (j + 1)) q acc = tput (tlook (fun _ => true) (cs.take j) q acc) ((q.1 ++ [c]).drop 1) ((tget (tlook (fun _ => true) (cs.take j) q acc) ((q.1 ++ [c]).drop 1)).getD 0 + q.2) := by
            unfold tlook
            rw [take_nextT hcj, List.foldl_append, List.foldl_cons, List.foldl_nil]; rfl
          refine ⟨_, [some (.cell n), some (cellsW cs), some (.cell st.length), some (bits q.1), some (.int c), some (bits ((q.1 ++ [c]).drop 1))], st.set n (tLk d) ++ [tC (tlook (fun _ => true) (cs.take (j + 1)) q acc)], rfl, .inl ?_, _, _, rfl, rfl⟩
          rw [step]
          revert a2
          generalize tlook (fun _ => true) (cs.take j) q acc = a
          intro a2
          have al := a2.len
          have sn := snoc_ok (k := q.1) (c := c) (st := st.set n (tLk d) ++ [tC a]) (by omega)
          have sl := sl_tail (l := q.1 ++ [c]) (st := st.set n (tLk d) ++ [tC a]) (by rw [List.length_append]; show 1 ≤ _ + 1; omega)
          refine asg_to (w := bits ((q.1 ++ [c]).drop 1)) (st1 := st.set n (tLk d) ++ [tC a]) ?_ ?_
          · simp only [gNm, fs4, x_sl, x_2, x_N, x_aCons, x_aNil, x_var, x_c, x_pYes, x_pNo, fg3, fg4, Out.bind_ok, x_tup (show [W.int c].length ≤ 1000 by simp), sn, sl]
          simp only [gNm, fs4, fs5]
          have g2 := tget2_ok (n := st.length) (d := a) (k := (q.1 ++ [c]).drop 1) (z := 0) (f := eVar 2) (g := eVar 5) (h := eC (.int 0)) (fr := [some (.cell n), some (cellsW cs), some (.cell st.length), some (bits q.1), some (.int c), some (bits ((q.1 ++ [c]).drop 1))]) (st := st.set n (tLk d) ++ [tC a]) (.inl (lk_new a)) rfl rfl rfl
          have g1 := tget_ok (n := n) (k := q.1) (.inr (lk_at hlt a)) hg
          have pu := tput_ok (n := st.length) (d := a) (k := (q.1 ++ [c]).drop 1) (v := (tget a ((q.1 ++ [c]).drop 1)).getD 0 + q.2) (lk_new (st := st) (n := n) (d := d) a) (by unfold LINE; omega)
          rw [lk_set] at pu
          unfold sSub
          simp only [x_2, g2, x_var, fg0, fg2, fg3, fg5, Out.bind_ok, g1, x_add, Out.stm_ok, pu])
      rw [List.length_map, List.take_of_length_le (Nat.le_refl _)] at l2
      exact ⟨_, _, _, rfl, .inl l2, _, _, _, rfl, rfl⟩)
  have hks : (ksT d).length = d.length := by unfold ksT; rw [List.length_map]
  rw [hks, List.take_of_length_le (Nat.le_refl _)] at l1
  have l1' := x_lockT (s := sFor (iKeysT 0) (gNm 3) (sFor (iSeq (eVar 1)) (gNm 4) (sSeq (sAsg (eSl (e2 oAdd (eVar 3) (eN oTup (aCons (eVar 4) (aNil)))) (pYes (eC (.int 1))) (pNo)) (gNm 5)) (sSub uDctT (e2 oAdd (eTGet2 (eVar 2) (eVar 5) (eC (.int 0))) (e2 oTGet (eVar 0) (eVar 3))) (eVar 2) (eVar 5))))) (i := 0) (n := n) (d := d) (st := st ++ [tC []]) (fr := [some (.cell n), some (cellsW cs), some (.cell st.length), none, none, none]) rfl (by rw [List.getElem?_append_left hlt]; exact hn) (by rw [List.set_append_left _ _ hlt]; exact l1) (lk_at hlt _)
  rw [lk_back hn] at l1'
  have bd : B_longer_tails [some (.cell n), some (cellsW cs), none, none, none, none] st = .rt (.cell st.length) (st ++ [tC (tstep (fun _ => true) cs d)]) := by
    unfold B_longer_tails
    refine asg_to (w := .cell st.length) (st1 := st ++ [tC []]) rfl ?_
    simp only [fs2]
    refine seq_to l1' ?_
    simp only [x_ret, x_var, fg2, Out.stm_ok]
    rfl
  show mkFnG leaveC 6 B_longer_tails [.cell n, cellsW cs] st = _
  unfold mkFnG
  show (match B_longer_tails [some (.cell n), some (cellsW cs), none, none, none, none] st with | .nx _ st1 => _ | .rt w st1 => leaveC st.length w st1 | .er x _ st1 => _ | _ => _) = _
  rw [bd]
  have z := leaveC_at (n := st.length) (j := st.length) (c := tC (tstep (fun _ => true) cs d)) (st := st ++ [tC (tstep (fun _ => true) cs d)]) (Nat.le_refl _) (by simp) rfl (old_tc _ _) (by rw [List.take_left]; exact ho _)
  rw [List.take_left] at z
  exact z
def condR (r : Nat) (t look : List Int) : Bool := decide (t.getD (num look).toNat 0 = look.getD r 0)
theorem bits_ix {x : List Int} {k : Nat} {st : Sto} (h : k < x.length) : oIx (bits x) (.int (k : Int)) st = .ok (.int (x.getD k 0)) st := by
  refine x_ixT (by omega) ?_
  rw [Int.toNat_natCast, List.getElem?_map, List.getD_eq_getElem?_getD, List.getElem?_eq_getElem h]; rfl
theorem resting_ok {r n : Nat} {t : List Int} {d : Tc} {cs : List Int} {st : Sto} (hr : r ≤ 3) (ht : t.length = 2 ^ (2 * r + 1)) (hn : st[n]? = some (tC d)) (hd : TOk (2 * r) d) (hc : CellsOk cs) (hcl : cs.length ≤ 2) (ho : ∀ n, st.all (oldW n) = true) :
    F_resting_behind [wnd r t, .cell n, cellsW cs] st = .ok (.cell st.length) (st ++ [tC (tstep (condR r t) cs d)]) := by
  have hlt : n < st.length := (List.getElem?_eq_some_iff.mp hn).1
  have hp : (2 : Nat) ^ (2 * r) ≤ 2 ^ 6 := Nat.pow_le_pow_right (by decide) (by omega)
  have hp' : (2 : Nat) ^ 6 = 64 := rfl
  have hdl := hd.len
  obtain ⟨fr', st', l1, u4, u5, u6, rfl, rfl⟩ := x_for (f := (iKeysT 1)) (g := (gNm 4)) (b := (sFor (iSeq (eVar 2)) (gNm 5) (sSeq (sAsg (e2 oAdd (eVar 4) (eN oTup (aCons (eVar 5) (aNil)))) (gNm 6)) (sIf (bOf (e2 oEq (e2 oIx (eCall F_filtered (aCons (eVar 0) (aCons (eVar 6) (aNil)))) (eC (.int 0))) (e2 oIx (eVar 6) (eFld ["Window"] "radius" (eVar 0))))) (sSub uDctT (e2 oAdd (eTGet2 (eVar 3) (eSl (eVar 6) (pYes (eC (.int 1))) (pNo)) (eC (.int 0))) (e2 oTGet (eVar 1) (eVar 4))) (eVar 3) (eSl (eVar 6) (pYes (eC (.int 1))) (pNo))) (sNil)))))
    (fr := [some (wnd r t), some (.cell n), some (cellsW cs), some (.cell st.length), none, none, none]) (st := st.set n (tLk d) ++ [tC []]) (st1 := st.set n (tLk d) ++ [tC []]) (x := .non) (all := ksT d)
    (x_keysT rfl (lk_at hlt _) (by omega)) (fun k fr s => ∃ u4 u5 u6, fr = [some (wnd r t), some (.cell n), some (cellsW cs), some (.cell st.length), u4, u5, u6] ∧ s = st.set n (tLk d) ++ [tC ((d.take k).foldl (fun acc q => tlook (condR r t) cs q acc) [])]) ⟨none, none, none, rfl, rfl⟩ (fun _ _ _ _ => trivial) (by
      rintro k fr s z ⟨u4, u5, u6, rfl, rfl⟩ hw
      obtain ⟨q, hq, rfl⟩ := map_at hw
      have hqm := List.mem_of_getElem? hq
      have hqb := hd.bd q hqm
      have hg := mem_tget hd.nd q hqm
      rw [take_nextT hq, List.foldl_append, List.foldl_cons, List.foldl_nil]
      have aok : TOk (2 * r) ((d.take k).foldl (fun acc q => tlook (condR r t) cs q acc) []) := TOk.fold hc _ (fun p hp => hd.bd p (List.mem_of_mem_take hp)) (TOk.nil _)
      revert aok
      generalize (d.take k).foldl (fun acc q => tlook (condR r t) cs q acc) [] = acc
      intro aok
      obtain ⟨fr2, st2, l2, v5, v6, rfl, rfl⟩ := x_for (f := (iSeq (eVar 2))) (g := (gNm 5)) (b := (sSeq (sAsg (e2 oAdd (eVar 4) (eN oTup (aCons (eVar 5) (aNil)))) (gNm 6)) (sIf (bOf (e2 oEq (e2 oIx (eCall F_filtered (aCons (eVar 0) (aCons (eVar 6) (aNil)))) (eC (.int 0))) (e2 oIx (eVar 6) (eFld ["Window"] "radius" (eVar 0))))) (sSub uDctT (e2 oAdd (eTGet2 (eVar 3) (eSl (eVar 6) (pYes (eC (.int 1))) (pNo)) (eC (.int 0))) (e2 oTGet (eVar 1) (eVar 4))) (eVar 3) (eSl (eVar 6) (pYes (eC (.int 1))) (pNo))) (sNil))))
        (fr := [some (wnd r t), some (.cell n), some (cellsW cs), some (.cell st.length), some (bits q.1), u5, u6]) (st := st.set n (tLk d) ++ [tC acc]) (st1 := st.set n (tLk d) ++ [tC acc]) (x := cellsW cs) (all := cs.map W.int)
        (by simp only [x_iSeq, x_var, fg2, Out.bind_ok]; rfl) (fun j fr s => ∃ v5 v6, fr = [some (wnd r t), some (.cell n), some (cellsW cs), some (.cell st.length), some (bits q.1), v5, v6] ∧ s = st.set n (tLk d) ++ [tC (tlook (condR r t) (cs.take j) q acc)]) ⟨u5, u6, rfl, rfl⟩ (fun _ _ _ _ => trivial) (by
          rintro j fr s z ⟨v5, v6, rfl, rfl⟩ hw
          obtain ⟨c, hcj, rfl⟩ := map_at hw
          have hcc := hc c (List.mem_of_getElem? hcj)
          have a2 : TOk (2 * r) (tlook (condR r t) (cs.take j) q acc) := TOk.look hqb _ (fun x hx => hc x (List.mem_of_mem_take hx)) aok
          have step : tlook (condR r t) (cs.take (j + 1)) q acc = if condR r t (q.1 ++ [c]) = true then tput (tlook (condR r t) (cs.take j) q acc) ((q.1 ++ [c]).drop 1) ((tget (tlook (condR r t) (cs.take j) q acc) ((q.1 ++ [c]).drop 1)).getD 0 + q.2) else tlook (condR r t) (cs.take j) q acc := by
            unfold tlook
            rw [take_nextT hcj, List.foldl_append, List.foldl_cons, List.foldl_nil]
          refine ⟨_, [some (wnd r t), some (.cell n), some (cellsW cs), some (.cell st.length), some (bits q.1), some (.int c), some (bits (q.1 ++ [c]))], st.set n (tLk d) ++ [tC (tlook (condR r t) (cs.take (j + 1)) q acc)], rfl, .inl ?_, _, _, rfl, rfl⟩
          rw [step]
          revert a2
          generalize tlook (condR r t) (cs.take j) q acc = a
          intro a2
          have al := a2.len
          have ll : (q.1 ++ [c]).length = 2 * r + 1 := by rw [List.length_append, hqb.1]; rfl
          have lb : Bits (q.1 ++ [c]) := bits_join hqb.2 fun x hx => by rw [List.mem_singleton.mp hx]; exact hcc
          have sn := snoc_ok (k := q.1) (c := c) (st := st.set n (tLk d) ++ [tC a]) (by omega)
          have sl := sl_tail (l := q.1 ++ [c]) (st := st.set n (tLk d) ++ [tC a]) (by omega)
          refine asg_to (w := bits (q.1 ++ [c])) (st1 := st.set n (tLk d) ++ [tC a]) ?_ ?_
          · simp only [gNm, fs5, x_2, x_N, x_aCons, x_aNil, x_var, fg4, fg5, Out.bind_ok, x_tup (show [W.int c].length ≤ 1000 by simp), sn]
          simp only [gNm, fs5, fs6]
          have fi := filtered_ok (r := r) (t := t) (x := q.1 ++ [c]) (m := 1) (st := st.set n (tLk d) ++ [tC a]) hr lb ht (by omega) (by omega) (lk_old ho a _)
          have e0 : filt (2 * r + 1) t (q.1 ++ [c]) 1 = [t.getD (num (q.1 ++ [c])).toNat 0] := by
            unfold filt cutB
            show [t.getD (num (((q.1 ++ [c]).drop 0).take (2 * r + 1))).toNat 0] = _
            rw [List.drop_zero, List.take_of_length_le (by omega)]
          rw [e0] at fi
          have i0 : oIx (bits [t.getD (num (q.1 ++ [c])).toNat 0]) (.int 0) (st.set n (tLk d) ++ [tC a]) = .ok (.int (t.getD (num (q.1 ++ [c])).toNat 0)) (st.set n (tLk d) ++ [tC a]) := x_ixT (by decide) rfl
          have ir := bits_ix (x := q.1 ++ [c]) (k := r) (st := st.set n (tLk d) ++ [tC a]) (by omega)
          have fr6 := fld_r (r := r) (t := t) (i := 0) (fr := [some (wnd r t), some (.cell n), some (cellsW cs), some (.cell st.length), some (bits q.1), some (.int c), some (bits (q.1 ++ [c]))]) (st := st.set n (tLk d) ++ [tC a]) rfl
          by_cases e : condR r t (q.1 ++ [c]) = true
          · rw [if_pos e]
            have e' := of_decide_eq_true e
            have g2 := tget2_ok (n := st.length) (d := a) (k := (q.1 ++ [c]).drop 1) (z := 0) (f := eVar 3) (g := eSl (eVar 6) (pYes (eC (.int 1))) (pNo)) (h := eC (.int 0)) (fr := [some (wnd r t), some (.cell n), some (cellsW cs), some (.cell st.length), some (bits q.1), some (.int c), some (bits (q.1 ++ [c]))]) (st := st.set n (tLk d) ++ [tC a]) (.inl (lk_new a)) rfl (by simp only [x_sl, x_var, fg6, x_pYes, x_pNo, x_c, Out.bind_ok, sl]) rfl
            have g1 := tget_ok (n := n) (k := q.1) (.inr (lk_at hlt a)) hg
            have pu := tput_ok (n := st.length) (d := a) (k := (q.1 ++ [c]).drop 1) (v := (tget a ((q.1 ++ [c]).drop 1)).getD 0 + q.2) (lk_new (st := st) (n := n) (d := d) a) (by unfold LINE; omega)
            rw [lk_set] at pu
            unfold sSub
            simp only [x_if, x_bOf, x_2, x_call, x_aCons, x_aNil, x_var, x_c, fg0, fg1, fg3, fg4, fg6, Out.bind_ok, fi, i0, fr6, ir, x_eqI, decide_eq_true e', Out.stm_ok, if_true, g2, g1, x_add, x_sl, x_pYes, x_pNo, sl, pu]
          · rw [if_neg e]
            have e' : decide (t.getD (num (q.1 ++ [c])).toNat 0 = (q.1 ++ [c]).getD r 0) = false := by
              unfold condR at e; simpa using e
            simp only [x_if, x_bOf, x_2, x_call, x_aCons, x_aNil, x_var, x_c, fg0, fg6, Out.bind_ok, fi, i0, fr6, ir, x_eqI, e', Out.stm_ok, Bool.false_eq_true, if_false]
            rfl)
      rw [List.length_map, List.take_of_length_le (Nat.le_refl _)] at l2
      exact ⟨_, _, _, rfl, .inl l2, _, _, _, rfl, rfl⟩)
  have hks : (ksT d).length = d.length := by unfold ksT; rw [List.length_map]
  rw [hks, List.take_of_length_le (Nat.le_refl _)] at l1
  have l1' := x_lockT (s := sFor (iKeysT 1) (gNm 4) (sFor (iSeq (eVar 2)) (gNm 5) (sSeq (sAsg (e2 oAdd (eVar 4) (eN oTup (aCons (eVar 5) (aNil)))) (gNm 6)) (sIf (bOf (e2 oEq (e2 oIx (eCall F_filtered (aCons (eVar 0) (aCons (eVar 6) (aNil)))) (eC (.int 0))) (e2 oIx (eVar 6) (eFld ["Window"] "radius" (eVar 0))))) (sSub uDctT (e2 oAdd (eTGet2 (eVar 3) (eSl (eVar 6) (pYes (eC (.int 1))) (pNo)) (eC (.int 0))) (e2 oTGet (eVar 1) (eVar 4))) (eVar 3) (eSl (eVar 6) (pYes (eC (.int 1))) (pNo))) (sNil))))) (i := 1) (n := n) (d := d) (st := st ++ [tC []]) (fr := [some (wnd r t), some (.cell n), some (cellsW cs), some (.cell st.length), none, none, none]) rfl (by rw [List.getElem?_append_left hlt]; exact hn) (by rw [List.set_append_left _ _ hlt]; exact l1) (lk_at hlt _)
  rw [lk_back hn] at l1'
  have bd : B_resting_behind [some (wnd r t), some (.cell n), some (cellsW cs), none, none, none, none] st = .rt (.cell st.length) (st ++ [tC (tstep (condR r t) cs d)]) := by
    unfold B_resting_behind
    refine asg_to (w := .cell st.length) (st1 := st ++ [tC []]) rfl ?_
    simp only [fs3]
    refine seq_to l1' ?_
    simp only [x_ret, x_var, fg3, Out.stm_ok]
    rfl
  show mkFnG leaveC 7 B_resting_behind [wnd r t, .cell n, cellsW cs] st = _
  unfold mkFnG
  show (match B_resting_behind [some (wnd r t), some (.cell n), some (cellsW cs), none, none, none, none] st with | .nx _ st1 => _ | .rt w st1 => leaveC st.length w st1 | .er x _ st1 => _ | _ => _) = _
  rw [bd]
  have z := leaveC_at (n := st.length) (j := st.length) (c := tC (tstep (condR r t) cs d)) (st := st ++ [tC (tstep (condR r t) cs d)]) (Nat.le_refl _) (by simp) rfl (old_tc _ _) (by rw [List.take_left]; exact ho _)
  rw [List.take_left] at z
  exact z

end SL
namespace SL
open PySem PySem.Spec PyProof.Rows L2
theorem lc_mapA {α : Type} {x : W} {all : List W} {g : TgF} {t : SemB} {e : Sem} {fr : Fr} {st : Sto} (hs : srcOk x all st) (wf res : α → W) : ∀ l : List α, (∀ a ∈ l, ∃ fr1, g (wf a) fr st = some fr1 ∧ t fr1 st = .ok true st ∧ e fr1 st = .ok (res a) st) → lcRun x all g t e fr (l.map wf) st = .ok (l.map res) st
  | [], _ => by rw [List.map_nil]; unfold lcRun; rw [if_pos hs]; rfl
  | a :: l, h => by
    obtain ⟨fr1, h1, h2, h3⟩ := h a List.mem_cons_self
    have ih := lc_mapA hs wf res l fun b hb => h b (List.mem_cons_of_mem _ hb)
    rw [List.map_cons]
    unfold lcRun
    rw [if_pos hs, h1]
    simp only [h2, h3, ih]
    rfl
theorem tvals_ok {i n s m : Nat} {d : Tc} {fr : Fr} {st : Sto} (hf : fr[i]? = some (some (.cell n))) (hs : i ≠ s) (hsl : s < fr.length) (hn : st[n]? = some (tC d)) (hd : TOk m d) (hN : d.length ≤ 1000) :
    eLockT i (eLc (iKeysT i) (gNm s) [s] (tTrue) (e2 oTGet (eVar i) (eVar s))) fr st = .ok (.lst (vsT d)) st := by
  have hlt : n < st.length := (List.getElem?_eq_some_iff.mp hn).1
  have at1 : (st.set n (tLk d))[n]? = some (tLk d) := List.getElem?_set_self hlt
  refine x_lockET hf hn ?_
  refine x_lc (st1 := st.set n (tLk d)) (x := .non) (all := ksT d) (x_keysT hf at1 hN) ?_
  unfold ksT vsT
  refine lc_mapA (x := .non) trivial (fun p : List Int × Int => bits p.1) _ d fun p hp => ⟨_, rfl, rfl, ?_⟩
  have g := tget_ok (n := n) (k := p.1) (.inr at1) (mem_tget hd.nd p hp)
  have f1 : ((wipeF fr [s]).set s (some (bits p.1)))[i]? = some (some (.cell n)) := by
    rw [List.getElem?_set_ne (Ne.symm hs)]
    show (fr.set s none)[i]? = _
    rw [List.getElem?_set_ne (Ne.symm hs)]
    exact hf
  have f2 : ((wipeF fr [s]).set s (some (bits p.1)))[s]? = some (some (bits p.1)) := by
    rw [List.getElem?_set_self]
    show s < (fr.set s none).length
    rw [List.length_set]; exact hsl
  simp only [x_2, x_var, f1, f2, Out.bind_ok, g]
theorem sum_vsT {d : Tc} {st : Sto} : oSumX [.lst (vsT d)] st = .ok (.int ((d.map (·.2)).sum)) st := by
  have e : intsW (vsT d) = some (d.map (·.2)) := by
    have : vsT d = (d.map (·.2)).map W.int := by unfold vsT; rw [List.map_map]; rfl
    rw [this, intsW_map]
  show (match (some (vsT d)).bind intsW with | some bs => Out.ok (W.int bs.sum) st | none => .bad) = _
  rw [Option.bind_some, e]
theorem cond_lo {r a : Nat} {t : List Int} (h : a < r) : cond r t a = fun _ => true := by
  funext l
  unfold cond
  rw [decide_eq_true h]; rfl
theorem cond_hi {r a : Nat} {t : List Int} (h : ¬ a < r) : cond r t a = condR r t := by
  funext l
  unfold cond condR
  rw [decide_eq_false h]; rfl
theorem zeros_rep {r : Nat} {st : Sto} (hr : r ≤ 3) : oMulX (.tup [.int 0]) (.int (2 * (r : Int))) st = .ok (bits (zeros (2 * r))) st := by
  show (if [W.int 0] = [] then Out.bad else if dec (-1000 ≤ 2 * (r : Int) ∧ 2 * (r : Int) ≤ 1000 ∧ [W.int 0].length ≤ 1000) = true then Out.ok (W.tup (List.replicate (2 * (r : Int)).toNat [W.int 0]).flatten) st else .bad) = _
  have e : (2 * (r : Int)).toNat = 2 * r := by omega
  rw [if_neg (by simp), if_pos (dec_mk ⟨by omega, by omega, by simp⟩), e, rep_zeros]; rfl
theorem many_ok {r n : Nat} {t : List Int} {st : Sto} (hr : r ≤ 3) (ht : t.length = 2 ^ (2 * r + 1)) (hn : n ≤ 200) (ho : ∀ m, st.all (oldW m) = true) : F_many_rest [wnd r t, .int n] st = .ok (.int (count r t n : Nat)) st := by
  have f0 : ∀ (S : Sto) (u2 u3 u4 u5 u6 : Option W), eFld ["Window"] "radius" (eVar 0) [some (wnd r t), some (.int n), u2, u3, u4, u5, u6] S = .ok (.int r) S := fun S _ _ _ _ _ => fld_r rfl
  have hp : ∀ a, (dcts r t n a).length ≤ 64 := fun a => by
    have z := (dcts_ok r t n a).len
    have hp : (2 : Nat) ^ (2 * r) ≤ 2 ^ 6 := Nat.pow_le_pow_right (by decide) (by omega)
    have hp' : (2 : Nat) ^ 6 = 64 := rfl
    omega
  obtain ⟨fr', st', l1, j, ex, u4, u5, rfl, rfl, hj, ho'⟩ := x_for (f := (iRng rg1 (aCons (e2 oAdd (eVar 1) (eVar 2)) (aNil)))) (g := (gNm 4)) (b := (sSeq (sAsg (eIf (bOf (e2 oLt (eVar 4) (eVar 1))) (eN oTup (aCons (eC (.int 0)) (aCons (eC (.int 1)) (aNil)))) (eN oTup (aCons (eC (.int 0)) (aNil)))) (gNm 5)) (sIf (bOf (e2 oLt (eVar 4) (eVar 2))) (sAsg (eCall F_longer_tails (aCons (eVar 3) (aCons (eVar 5) (aNil)))) (gNm 3)) (sAsg (eCall F_resting_behind (aCons (eVar 0) (aCons (eVar 3) (aCons (eVar 5) (aNil))))) (gNm 3)))))
    (fr := [some (wnd r t), some (.int n), some (.int r), some (.cell st.length), none, none, none]) (st := st ++ [tC [(zeros (2 * r), 1)]]) (st1 := st ++ [tC [(zeros (2 * r), 1)]]) (x := .non) (all := rngW 0 1 ((n : Int) + r).toNat)
    (x_rng1 (by simp only [x_aCons, x_aNil, x_2, x_var, fg1, fg2, Out.bind_ok, x_add]) (by omega) (by omega)) (fun a fr s => ∃ j ex u4 u5, fr = [some (wnd r t), some (.int n), some (.int r), some (.cell j), u4, u5, none] ∧ s = st ++ ex ∧ s[j]? = some (tC (dcts r t n a)) ∧ ∀ m, s.all (oldW m) = true) ⟨st.length, _, none, none, rfl, rfl, by simp [dcts], fun m => by rw [List.all_append, ho, List.all_cons, old_tc]; rfl⟩ (fun _ _ _ _ => trivial) (by
      rintro a fr s w ⟨j, ex, u4, u5, rfl, rfl, hj, ho'⟩ hw
      obtain ⟨ha, rfl⟩ := rngW_at hw
      have ea : 0 + (a : Int) * 1 = (a : Int) := by omega
      rw [ea]
      have dk := dcts_ok r t n a
      refine ⟨_, [some (wnd r t), some (.int n), some (.int r), some (.cell (st ++ ex).length), some (.int a), some (cellsW (cellsAt n a)), none], (st ++ ex) ++ [tC (dcts r t n (a + 1))], rfl, .inl ?_, (st ++ ex).length, ex ++ [tC (dcts r t n (a + 1))], _, _, rfl, by rw [List.append_assoc], by simp, fun m => by rw [List.all_append, ho', List.all_cons, old_tc]; rfl⟩
      refine asg_to (w := cellsW (cellsAt n a)) (st1 := st ++ ex) ?_ ?_
      · unfold cellsAt
        by_cases q : a < n
        · rw [if_pos q]
          have qq : decide ((a : Int) < (n : Int)) = true := decide_eq_true (by omega)
          have e : eIf (bOf (e2 oLt (eVar 4) (eVar 1))) (eN oTup (aCons (eC (.int 0)) (aCons (eC (.int 1)) (aNil)))) (eN oTup (aCons (eC (.int 0)) (aNil))) [some (wnd r t), some (.int n), some (.int r), some (.cell j), some (.int a), u5, none] (st ++ ex) = eN oTup (aCons (eC (.int 0)) (aCons (eC (.int 1)) (aNil))) [some (wnd r t), some (.int n), some (.int r), some (.cell j), some (.int a), u5, none] (st ++ ex) := by
            unfold eIf
            simp only [x_bOf, x_2, x_var, fg1, fg4, Out.bind_ok, x_lt, qq, if_true]
          simp only [gNm, fs4]
          rw [e]
          simp only [x_N, x_aCons, x_aNil, x_c, Out.bind_ok]
          exact x_tup (by simp)
        · rw [if_neg q]
          have qq : decide ((a : Int) < (n : Int)) = false := decide_eq_false (by omega)
          have e : eIf (bOf (e2 oLt (eVar 4) (eVar 1))) (eN oTup (aCons (eC (.int 0)) (aCons (eC (.int 1)) (aNil)))) (eN oTup (aCons (eC (.int 0)) (aNil))) [some (wnd r t), some (.int n), some (.int r), some (.cell j), some (.int a), u5, none] (st ++ ex) = eN oTup (aCons (eC (.int 0)) (aNil)) [some (wnd r t), some (.int n), some (.int r), some (.cell j), some (.int a), u5, none] (st ++ ex) := by
            unfold eIf
            simp only [x_bOf, x_2, x_var, fg1, fg4, Out.bind_ok, x_lt, qq, Bool.false_eq_true, if_false]
          simp only [gNm, fs4]
          rw [e]
          simp only [x_N, x_aCons, x_aNil, x_c, Out.bind_ok]
          exact x_tup (by simp)
      simp only [gNm, fs4, fs5]
      have cl : (cellsAt n a).length ≤ 2 := by unfold cellsAt; split <;> simp
      by_cases q : a < r
      · have qq : decide ((a : Int) < (r : Int)) = true := decide_eq_true (by omega)
        have lo := longer_ok (m := 2 * r) (by omega) hj dk (cells_ok n a) cl ho'
        have e : dcts r t n (a + 1) = tstep (fun _ => true) (cellsAt n a) (dcts r t n a) := by rw [dcts, cond_lo q]
        rw [e]
        simp only [x_if, x_bOf, x_2, x_var, fg2, fg3, fg4, fg5, Out.bind_ok, x_lt, qq, Out.stm_ok, if_true, x_asgN, x_call, x_aCons, x_aNil, lo, fs3]
      · have qq : decide ((a : Int) < (r : Int)) = false := decide_eq_false (by omega)
        have re := resting_ok hr ht hj dk (cells_ok n a) cl ho'
        have e : dcts r t n (a + 1) = tstep (condR r t) (cellsAt n a) (dcts r t n a) := by rw [dcts, cond_hi q]
        rw [e]
        simp only [x_if, x_bOf, x_2, x_var, fg0, fg2, fg3, fg4, fg5, Out.bind_ok, x_lt, qq, Out.stm_ok, Bool.false_eq_true, if_false, x_asgN, x_call, x_aCons, x_aNil, re, fs3])
  have en : ((n : Int) + r).toNat = n + r := by omega
  rw [en, rngW_len] at hj
  have va := tvals_ok (i := 3) (s := 6) (fr := [some (wnd r t), some (.int n), some (.int r), some (.cell j), u4, u5, none]) (st := st ++ ex) rfl (by decide) (by simp) hj (dcts_ok r t n (n + r)) (by have := hp (n + r); omega)
  have su := sum_vsT (d := dcts r t n (n + r)) (st := st ++ ex)
  rw [count_sum] at su
  refine mk_rt3 (st1 := st) (ex := ex) ?_ rfl (fun _ _ => rfl) (ho _)
  show B_many_rest [some (wnd r t), some (.int n), none, none, none, none, none] st = _
  unfold B_many_rest
  have b := betw_ok (w := .int n) (lo := 0) (hi := 200) (st := st) plain_int
  have b2 : betw 0 200 (.int n) = true := by simp only [betw_int, Bool.and_eq_true, decide_eq_true_eq]; omega
  rw [b2] at b
  refine if_no (st1 := st) (st2 := st) (by simp only [x_bNot, x_bOf, x_call, x_aCons, x_aNil, x_var, x_c, fg1, Out.bind_ok, b, Bool.not_true]) rfl ?_
  refine asg_to (w := .int r) (st1 := st) (f0 st none none none none none) ?_
  simp only [fs2]
  refine asg_to (w := .cell st.length) (st1 := st ++ [tC [(zeros (2 * r), 1)]]) ?_ ?_
  · have mu : oMul (.int 2) (.int r) (st ++ [.dct [.ty "T"] []]) = .ok (.int (2 * (r : Int))) (st ++ [.dct [.ty "T"] []]) := x_mulL (by decide)
    unfold eTDct1
    simp only [x_2, x_N, x_aCons, x_aNil, x_c, x_var, fg2, Out.bind_ok, x_tup (show [W.int 0].length ≤ 1000 by simp), mu, zeros_rep hr, keyT_bits, get_new, if_true, set_new]
    rfl
  simp only [fs3]
  refine seq_to l1 ?_
  simp only [x_ret, x_N, x_aCons, x_aNil, va, Out.bind_ok, su, Out.stm_ok]
theorem rng_cells (n a : Nat) : rngW 0 1 ((1 : Int) + (if decide ((a : Int) < (n : Int)) = true then 1 else 0)).toNat = (cellsAt n a).map W.int := by
  unfold cellsAt
  by_cases q : a < n
  · rw [if_pos q, if_pos (decide_eq_true (by omega))]; rfl
  · rw [if_neg q, if_neg (by simp; omega)]; rfl
theorem law_count_ok {r n : Nat} {t : List Int} {st : Sto} (hr : r ≤ 3) (ht : t.length = 2 ^ (2 * r + 1)) (hn : n ≤ 200) (ho : ∀ m, st.all (oldW m) = true) : F_law_count [.int r, .lst (t.map W.int), .int n] st = .ok (.int (count r t n : Nat)) st := by
  have hp : (2 : Nat) ^ (2 * r) ≤ 64 := by
    have hp : (2 : Nat) ^ (2 * r) ≤ 2 ^ 6 := Nat.pow_le_pow_right (by decide) (by omega)
    have hp' : (2 : Nat) ^ 6 = 64 := rfl
    omega
  obtain ⟨fr', st', l1, j, ex, u4, u5, u6, u7, u8, rfl, rfl, hj, ho'⟩ := x_for (f := (iRng rg1 (aCons (e2 oAdd (eVar 2) (eVar 0)) (aNil)))) (g := (gNm 4)) (b := (sSeq (sAsg (eTDct0) (gNm 5)) (sSeq (sLockT 3 (sFor (iKeysT 3) (gNm 6) (sFor (iRng rg1 (aCons (e2 oAdd (eC (.int 1)) (eN oInt (aCons (e2 oLt (eVar 4) (eVar 2)) (aNil)))) (aNil))) (gNm 7) (sSeq (sAsg (e2 oAdd (eVar 6) (eN oTup (aCons (eVar 7) (aNil)))) (gNm 8)) (sIf (bOr (bOf (e2 oLt (eVar 4) (eVar 0))) (bOf (e2 oEq (e2 oIx (eVar 1) (eCall F_law_number (aCons (eVar 8) (aNil)))) (e2 oIx (eVar 8) (eVar 0))))) (sSub uDctT (e2 oAdd (eTGet2 (eVar 5) (eSl (eVar 8) (pYes (eC (.int 1))) (pNo)) (eC (.int 0))) (e2 oTGet (eVar 3) (eVar 6))) (eVar 5) (eSl (eVar 8) (pYes (eC (.int 1))) (pNo))) (sNil)))))) (sAsg (eVar 5) (gNm 3)))))
    (fr := [some (.int r), some (.lst (t.map W.int)), some (.int n), some (.cell st.length), none, none, none, none, none]) (st := st ++ [tC [(zeros (2 * r), 1)]]) (st1 := st ++ [tC [(zeros (2 * r), 1)]]) (x := .non) (all := rngW 0 1 ((n : Int) + r).toNat)
    (x_rng1 (by simp only [x_aCons, x_aNil, x_2, x_var, fg0, fg2, Out.bind_ok, x_add]) (by omega) (by omega)) (fun a fr s => ∃ j ex u4 u5 u6 u7 u8, fr = [some (.int r), some (.lst (t.map W.int)), some (.int n), some (.cell j), u4, u5, u6, u7, u8] ∧ s = st ++ ex ∧ s[j]? = some (tC (dcts r t n a)) ∧ ∀ m, s.all (oldW m) = true) ⟨st.length, _, none, none, none, none, none, rfl, rfl, by simp [dcts], fun m => by rw [List.all_append, ho, List.all_cons, old_tc]; rfl⟩ (fun _ _ _ _ => trivial) (by
      rintro a fr s w ⟨j, ex, u4, u5, u6, u7, u8, rfl, rfl, hj, ho'⟩ hw
      obtain ⟨ha, rfl⟩ := rngW_at hw
      have ea : 0 + (a : Int) * 1 = (a : Int) := by omega
      rw [ea]
      have dk := dcts_ok r t n a
      have dcl := dk.len
      have hc := cells_ok n a
      have e0 : dcts r t n (a + 1) = tstep (cond r t a) (cellsAt n a) (dcts r t n a) := rfl
      rw [e0]
      revert hj dk
      generalize dcts r t n a = d
      intro hj dk
      revert hj ho'
      generalize hS : st ++ ex = S
      intro ho' hj
      have hlt : j < S.length := (List.getElem?_eq_some_iff.mp hj).1
      have dl := dk.len
      obtain ⟨fr2, st2, l2, v6, v7, v8, rfl, rfl⟩ := x_for (f := (iKeysT 3)) (g := (gNm 6)) (b := (sFor (iRng rg1 (aCons (e2 oAdd (eC (.int 1)) (eN oInt (aCons (e2 oLt (eVar 4) (eVar 2)) (aNil)))) (aNil))) (gNm 7) (sSeq (sAsg (e2 oAdd (eVar 6) (eN oTup (aCons (eVar 7) (aNil)))) (gNm 8)) (sIf (bOr (bOf (e2 oLt (eVar 4) (eVar 0))) (bOf (e2 oEq (e2 oIx (eVar 1) (eCall F_law_number (aCons (eVar 8) (aNil)))) (e2 oIx (eVar 8) (eVar 0))))) (sSub uDctT (e2 oAdd (eTGet2 (eVar 5) (eSl (eVar 8) (pYes (eC (.int 1))) (pNo)) (eC (.int 0))) (e2 oTGet (eVar 3) (eVar 6))) (eVar 5) (eSl (eVar 8) (pYes (eC (.int 1))) (pNo))) (sNil)))))
        (fr := [some (.int r), some (.lst (t.map W.int)), some (.int n), some (.cell j), some (.int a), some (.cell S.length), u6, u7, u8]) (st := S.set j (tLk d) ++ [tC []]) (st1 := S.set j (tLk d) ++ [tC []]) (x := .non) (all := ksT d)
        (x_keysT rfl (lk_at hlt _) (by omega)) (fun k fr s => ∃ v6 v7 v8, fr = [some (.int r), some (.lst (t.map W.int)), some (.int n), some (.cell j), some (.int a), some (.cell S.length), v6, v7, v8] ∧ s = S.set j (tLk d) ++ [tC ((d.take k).foldl (fun acc q => tlook (cond r t a) (cellsAt n a) q acc) [])]) ⟨u6, u7, u8, rfl, rfl⟩ (fun _ _ _ _ => trivial) (by
          rintro k fr s z ⟨v6, v7, v8, rfl, rfl⟩ hw
          obtain ⟨q, hq, rfl⟩ := map_at hw
          have hqm := List.mem_of_getElem? hq
          have hqb := dk.bd q hqm
          have hg := mem_tget dk.nd q hqm
          rw [take_nextT hq, List.foldl_append, List.foldl_cons, List.foldl_nil]
          have aok : TOk (2 * r) ((d.take k).foldl (fun acc q => tlook (cond r t a) (cellsAt n a) q acc) []) := TOk.fold hc _ (fun p hp => dk.bd p (List.mem_of_mem_take hp)) (TOk.nil _)
          revert aok
          generalize (d.take k).foldl (fun acc q => tlook (cond r t a) (cellsAt n a) q acc) [] = acc
          intro aok
          obtain ⟨fr3, st3, l3, w7, w8, rfl, rfl⟩ := x_for (f := (iRng rg1 (aCons (e2 oAdd (eC (.int 1)) (eN oInt (aCons (e2 oLt (eVar 4) (eVar 2)) (aNil)))) (aNil)))) (g := (gNm 7)) (b := (sSeq (sAsg (e2 oAdd (eVar 6) (eN oTup (aCons (eVar 7) (aNil)))) (gNm 8)) (sIf (bOr (bOf (e2 oLt (eVar 4) (eVar 0))) (bOf (e2 oEq (e2 oIx (eVar 1) (eCall F_law_number (aCons (eVar 8) (aNil)))) (e2 oIx (eVar 8) (eVar 0))))) (sSub uDctT (e2 oAdd (eTGet2 (eVar 5) (eSl (eVar 8) (pYes (eC (.int 1))) (pNo)) (eC (.int 0))) (e2 oTGet (eVar 3) (eVar 6))) (eVar 5) (eSl (eVar 8) (pYes (eC (.int 1))) (pNo))) (sNil))))
            (fr := [some (.int r), some (.lst (t.map W.int)), some (.int n), some (.cell j), some (.int a), some (.cell S.length), some (bits q.1), v7, v8]) (st := S.set j (tLk d) ++ [tC acc]) (st1 := S.set j (tLk d) ++ [tC acc]) (x := .non) (all := rngW 0 1 ((1 : Int) + (if decide ((a : Int) < (n : Int)) = true then 1 else 0)).toNat)
            (x_rng1 (by simp only [x_aCons, x_aNil, x_2, x_N, x_c, x_var, fg2, fg4, Out.bind_ok, x_lt, x_intB, x_add]) (by split <;> omega) (by split <;> omega)) (fun i fr s => ∃ w7 w8, fr = [some (.int r), some (.lst (t.map W.int)), some (.int n), some (.cell j), some (.int a), some (.cell S.length), some (bits q.1), w7, w8] ∧ s = S.set j (tLk d) ++ [tC (tlook (cond r t a) ((cellsAt n a).take i) q acc)]) ⟨v7, v8, rfl, rfl⟩ (fun _ _ _ _ => trivial) (by
              rintro i fr s z ⟨w7, w8, rfl, rfl⟩ hw
              rw [rng_cells] at hw
              obtain ⟨c, hcj, rfl⟩ := map_at hw
              have hcc := hc c (List.mem_of_getElem? hcj)
              have a2 : TOk (2 * r) (tlook (cond r t a) ((cellsAt n a).take i) q acc) := TOk.look hqb _ (fun x hx => hc x (List.mem_of_mem_take hx)) aok
              have step : tlook (cond r t a) ((cellsAt n a).take (i + 1)) q acc = if cond r t a (q.1 ++ [c]) = true then tput (tlook (cond r t a) ((cellsAt n a).take i) q acc) ((q.1 ++ [c]).drop 1) ((tget (tlook (cond r t a) ((cellsAt n a).take i) q acc) ((q.1 ++ [c]).drop 1)).getD 0 + q.2) else tlook (cond r t a) ((cellsAt n a).take i) q acc := by
                unfold tlook
                rw [take_nextT hcj, List.foldl_append, List.foldl_cons, List.foldl_nil]
              refine ⟨_, [some (.int r), some (.lst (t.map W.int)), some (.int n), some (.cell j), some (.int a), some (.cell S.length), some (bits q.1), some (.int c), some (bits (q.1 ++ [c]))], S.set j (tLk d) ++ [tC (tlook (cond r t a) ((cellsAt n a).take (i + 1)) q acc)], rfl, .inl ?_, _, _, rfl, rfl⟩
              rw [step]
              revert a2
              generalize tlook (cond r t a) ((cellsAt n a).take i) q acc = b
              intro a2
              have al := a2.len
              have ll : (q.1 ++ [c]).length = 2 * r + 1 := by rw [List.length_append, hqb.1]; rfl
              have lb : Bits (q.1 ++ [c]) := bits_join hqb.2 fun x hx => by rw [List.mem_singleton.mp hx]; exact hcc
              have sn := snoc_ok (k := q.1) (c := c) (st := S.set j (tLk d) ++ [tC b]) (by omega)
              have sl := sl_tail (l := q.1 ++ [c]) (st := S.set j (tLk d) ++ [tC b]) (by omega)
              refine asg_to (w := bits (q.1 ++ [c])) (st1 := S.set j (tLk d) ++ [tC b]) ?_ ?_
              · simp only [gNm, fs7, x_2, x_N, x_aCons, x_aNil, x_var, fg6, fg7, Out.bind_ok, x_tup (show [W.int c].length ≤ 1000 by simp), sn]
              simp only [gNm, fs7, fs8]
              have nu := law_number_ok (ns := q.1 ++ [c]) (st := S.set j (tLk d) ++ [tC b])
              obtain ⟨n0, n1⟩ := num_bd lb
              rw [ll] at n1
              have hnt : (num (q.1 ++ [c])).toNat < t.length := by
                rw [ht]
                have e : ((2 ^ (2 * r + 1) : Nat) : Int) = 2 ^ (2 * r + 1) := by push_cast; rfl
                omega
              have it : oIx (.lst (t.map W.int)) (.int (num (q.1 ++ [c]))) (S.set j (tLk d) ++ [tC b]) = .ok (.int (t.getD (num (q.1 ++ [c])).toNat 0)) (S.set j (tLk d) ++ [tC b]) := x_ixL n0 (by rw [List.getElem?_map, List.getD_eq_getElem?_getD, List.getElem?_eq_getElem hnt]; rfl)
              have ir := bits_ix (x := q.1 ++ [c]) (k := r) (st := S.set j (tLk d) ++ [tC b]) (by omega)
              have test : ∀ v : Bool, cond r t a (q.1 ++ [c]) = v → (bOr (bOf (e2 oLt (eVar 4) (eVar 0))) (bOf (e2 oEq (e2 oIx (eVar 1) (eCall F_law_number (aCons (eVar 8) (aNil)))) (e2 oIx (eVar 8) (eVar 0))))) [some (.int r), some (.lst (t.map W.int)), some (.int n), some (.cell j), some (.int a), some (.cell S.length), some (bits q.1), some (.int c), some (bits (q.1 ++ [c]))] (S.set j (tLk d) ++ [tC b]) = .ok v (S.set j (tLk d) ++ [tC b]) := fun v hv => by
                unfold cond at hv
                by_cases qa : a < r
                · have qq : decide ((a : Int) < (r : Int)) = true := decide_eq_true (by omega)
                  rw [decide_eq_true qa] at hv
                  simp only [x_bOr, x_bOf, x_2, x_var, fg0, fg4, Out.bind_ok, x_lt, qq, if_true]
                  rw [← hv]; rfl
                · have qq : decide ((a : Int) < (r : Int)) = false := decide_eq_false (by omega)
                  rw [decide_eq_false qa] at hv
                  simp only [x_bOr, x_bOf, x_2, x_call, x_aCons, x_aNil, x_var, fg0, fg1, fg4, fg8, Out.bind_ok, x_lt, qq, Bool.false_eq_true, if_false, nu, it, ir, x_eqI]
                  rw [← hv]; rfl
              by_cases e : cond r t a (q.1 ++ [c]) = true
              · rw [if_pos e]
                have te := test true e
                have g2 := tget2_ok (n := S.length) (d := b) (k := (q.1 ++ [c]).drop 1) (z := 0) (f := eVar 5) (g := eSl (eVar 8) (pYes (eC (.int 1))) (pNo)) (h := eC (.int 0)) (fr := [some (.int r), some (.lst (t.map W.int)), some (.int n), some (.cell j), some (.int a), some (.cell S.length), some (bits q.1), some (.int c), some (bits (q.1 ++ [c]))]) (st := S.set j (tLk d) ++ [tC b]) (.inl (lk_new b)) rfl (by simp only [x_sl, x_var, fg8, x_pYes, x_pNo, x_c, Out.bind_ok, sl]) rfl
                have g1 := tget_ok (n := j) (k := q.1) (.inr (lk_at hlt b)) hg
                have pu := tput_ok (n := S.length) (d := b) (k := (q.1 ++ [c]).drop 1) (v := (tget b ((q.1 ++ [c]).drop 1)).getD 0 + q.2) (lk_new (st := S) (n := j) (d := d) b) (by unfold LINE; omega)
                rw [lk_set] at pu
                rw [x_if, te]
                unfold sSub
                simp only [Out.stm_ok, if_true, x_2, g2, x_var, fg3, fg5, fg6, fg8, Out.bind_ok, g1, x_add, x_sl, x_pYes, x_pNo, x_c, sl, pu]
              · rw [if_neg e]
                have te := test false (by simpa using e)
                rw [x_if, te]
                rfl)
          rw [rng_cells, List.length_map, List.take_of_length_le (Nat.le_refl _)] at l3
          exact ⟨_, _, _, rfl, .inl l3, _, _, _, rfl, rfl⟩)
      have hks : (ksT d).length = d.length := by unfold ksT; rw [List.length_map]
      rw [hks, List.take_of_length_le (Nat.le_refl _)] at l2
      have l2' := x_lockT (s := sFor (iKeysT 3) (gNm 6) (sFor (iRng rg1 (aCons (e2 oAdd (eC (.int 1)) (eN oInt (aCons (e2 oLt (eVar 4) (eVar 2)) (aNil)))) (aNil))) (gNm 7) (sSeq (sAsg (e2 oAdd (eVar 6) (eN oTup (aCons (eVar 7) (aNil)))) (gNm 8)) (sIf (bOr (bOf (e2 oLt (eVar 4) (eVar 0))) (bOf (e2 oEq (e2 oIx (eVar 1) (eCall F_law_number (aCons (eVar 8) (aNil)))) (e2 oIx (eVar 8) (eVar 0))))) (sSub uDctT (e2 oAdd (eTGet2 (eVar 5) (eSl (eVar 8) (pYes (eC (.int 1))) (pNo)) (eC (.int 0))) (e2 oTGet (eVar 3) (eVar 6))) (eVar 5) (eSl (eVar 8) (pYes (eC (.int 1))) (pNo))) (sNil))))) (i := 3) (n := j) (d := d) (st := S ++ [tC []]) (fr := [some (.int r), some (.lst (t.map W.int)), some (.int n), some (.cell j), some (.int a), some (.cell S.length), u6, u7, u8]) rfl (by rw [List.getElem?_append_left hlt]; exact hj) (by rw [List.set_append_left _ _ hlt]; exact l2) (lk_at hlt _)
      rw [lk_back hj] at l2'
      refine ⟨_, [some (.int r), some (.lst (t.map W.int)), some (.int n), some (.cell S.length), some (.int a), some (.cell S.length), v6, v7, v8], S ++ [tC (tstep (cond r t a) (cellsAt n a) d)], rfl, .inl ?_, S.length, ex ++ [tC (tstep (cond r t a) (cellsAt n a) d)], _, _, _, _, _, rfl, by rw [← hS, List.append_assoc], by simp, fun m => by rw [List.all_append, ho', List.all_cons, old_tc]; rfl⟩
      refine asg_to (w := .cell S.length) (st1 := S ++ [tC []]) rfl ?_
      simp only [gNm, fs4, fs5]
      refine seq_to l2' ?_
      simp only [x_asgN, x_var, fg5, Out.stm_ok, fs3]
      rfl)
  have en : ((n : Int) + r).toNat = n + r := by omega
  rw [en, rngW_len] at hj
  have hdl := (dcts_ok r t n (n + r)).len
  have va := tvals_ok (i := 3) (s := 6) (fr := [some (.int r), some (.lst (t.map W.int)), some (.int n), some (.cell j), u4, u5, u6, u7, u8]) (st := st ++ ex) rfl (by decide) (by simp) hj (dcts_ok r t n (n + r)) (by omega)
  have su := sum_vsT (d := dcts r t n (n + r)) (st := st ++ ex)
  rw [count_sum] at su
  refine mk_rt3 (st1 := st) (ex := ex) ?_ rfl (fun _ _ => rfl) (ho _)
  show B_law_count [some (.int r), some (.lst (t.map W.int)), some (.int n), none, none, none, none, none, none] st = _
  unfold B_law_count
  refine asg_to (w := .cell st.length) (st1 := st ++ [tC []]) rfl ?_
  simp only [fs3]
  refine seq_to (fr1 := [some (.int r), some (.lst (t.map W.int)), some (.int n), some (.cell st.length), none, none, none, none, none]) (st1 := st ++ [tC [(zeros (2 * r), 1)]]) ?_ ?_
  · have mu : oMul (.int 2) (.int r) (st ++ [tC []]) = .ok (.int (2 * (r : Int))) (st ++ [tC []]) := x_mulL (by decide)
    have z : eLc (iRng rg1 (aCons (e2 oMul (eC (.int 2)) (eVar 0)) (aNil))) (gNm 4) [4] (tTrue) (eC (.int 0)) [some (.int r), some (.lst (t.map W.int)), some (.int n), some (.cell st.length), none, none, none, none, none] (st ++ [tC []]) = .ok (.lst ((zeros (2 * r)).map W.int)) (st ++ [tC []]) := by
      refine x_lc (st1 := st ++ [tC []]) (x := .non) (all := rngW 0 1 (2 * (r : Int)).toNat) (x_rng1 (by simp only [x_aCons, x_aNil, x_2, x_c, x_var, fg0, Out.bind_ok, mu]) (by omega) (by omega)) ?_
      have e : (zeros (2 * r)).map W.int = (List.range (2 * r)).map fun _ => W.int 0 := by
        unfold zeros
        rw [List.map_replicate]
        apply List.ext_getElem?
        intro i
        rw [List.getElem?_map, List.getElem?_replicate]
        by_cases q : i < 2 * r
        · rw [if_pos q, List.getElem?_range q]; rfl
        · rw [if_neg q, List.getElem?_eq_none (by simp; omega)]; rfl
      have e2' : rngW 0 1 (2 * (r : Int)).toNat = (List.range (2 * r)).map fun i : Nat => W.int (0 + (i : Int) * 1) := by
        have e3 : (2 * (r : Int)).toNat = 2 * r := by omega
        rw [e3]; rfl
      rw [e, e2']
      exact lc_mapA (x := .non) trivial (fun i : Nat => W.int (0 + (i : Int) * 1)) _ (List.range (2 * r)) fun i _ => ⟨_, rfl, rfl, rfl⟩
    have pu := tput_ok (st := st ++ [tC []]) (n := st.length) (d := []) (k := zeros (2 * r)) (v := 1) (by simp) (by unfold LINE; simp)
    rw [set_new] at pu
    have tt : oTuple [.lst ((zeros (2 * r)).map W.int)] (st ++ [tC []]) = .ok (bits (zeros (2 * r))) (st ++ [tC []]) := rfl
    unfold sSub
    simp only [x_c, Out.stm_ok, x_var, fg3, x_N, x_aCons, x_aNil, z, Out.bind_ok, tt, pu]
    rfl
  refine seq_to l1 ?_
  simp only [x_ret, x_N, x_aCons, x_aNil, va, Out.bind_ok, su, Out.stm_ok]

end SL
namespace SL
open PySem PySem.Spec PyProof.Rows L2
/-! ## numbers -/
/-- the digits, the last first -/
def digs (n : Int) (k : Nat) : List Int := (List.range k).map fun (i : Nat) => n / 2 ^ i % 2
theorem digs_next (n : Int) (k : Nat) : digs n (k + 1) = digs n k ++ [n / 2 ^ k % 2] := by
  unfold digs; rw [List.range_succ, List.map_append]; rfl
theorem div_next (n : Int) (k : Nat) : n / 2 ^ k / 2 = n / 2 ^ (k + 1) := by
  rw [Int.pow_succ, Int.ediv_ediv_of_nonneg (Int.le_of_lt (Int.pow_pos (by decide)))]
def numEr (p : Str) : Exc := ⟨"BadNumber", ["part"], [.str p]⟩
@[simp] theorem plain_isLst {st : Sto} {ws : List W} : isLst (st ++ [.lst ws]) (.cell st.length) = true := by simp [isLst, lstW]
theorem mod_next (n : Int) (k : Nat) : 2 * (n / 2 % 2 ^ k) + n % 2 = n % 2 ^ (k + 1) := by
  have hp : (0 : Int) < 2 ^ k := Int.pow_pos (by decide)
  have e : (2 : Int) ^ (k + 1) = 2 * 2 ^ k := by rw [Int.pow_succ, Int.mul_comm]
  rw [e]
  generalize (2 : Int) ^ k = p at hp
  have h1 := Int.mul_ediv_add_emod (n / 2) p
  have h2 := Int.emod_nonneg (n / 2) (Int.ne_of_gt hp)
  have h3 := Int.emod_lt_of_pos (n / 2) hp
  have h4 : n = 2 * (n / 2) + n % 2 := by omega
  have h5 : n = (2 * (n / 2 % p) + n % 2) + (2 * p) * (n / 2 / p) := by
    rw [Int.mul_assoc]; omega
  have h6 : (2 * (n / 2 % p) + n % 2) % (2 * p) = 2 * (n / 2 % p) + n % 2 := Int.emod_eq_of_lt (by omega) (by omega)
  rw [h5, Int.add_mul_emod_self_left]
  rw [← h5]
  exact h6.symm
theorem num_digs (n : Int) (h : 0 ≤ n) : ∀ k : Nat, num (digs n k).reverse = n % 2 ^ k := by
  intro k
  induction k generalizing n with
  | zero => simp [digs, num, Int.emod_one]
  | succ k ih =>
    have e : (digs n (k + 1)).reverse = (digs (n / 2) k).reverse ++ [n % 2] := by
      have z : digs n (k + 1) = n % 2 :: digs (n / 2) k := by
        unfold digs
        rw [List.range_succ_eq_map, List.map_cons, List.map_map]
        congr 1
        · simp
        · apply List.map_congr_left
          intro i _
          show n / 2 ^ (i + 1) % 2 = n / 2 / 2 ^ i % 2
          rw [Int.pow_succ, Int.mul_comm, Int.ediv_ediv_of_nonneg (by decide)]
      rw [z, List.reverse_cons]
    have q := ih (n / 2) (by omega)
    rw [e]
    unfold num at q ⊢
    rw [List.foldl_append, q]
    show 2 * (n / 2 % 2 ^ k) + n % 2 = n % 2 ^ (k + 1)
    exact mod_next n k
/-! ## the plain law of windows behind windows -/
theorem getD_of {α : Type} {l : List α} {k : Nat} {a d : α} (h : l[k]? = some a) : l.getD k d = a := by rw [List.getD, h]; rfl
theorem cut_eq {x : List Int} {k w : Nat} (h : k + w ≤ x.length) : cutB x k w = (List.range w).map fun i => x.getD (k + i) 0 := by
  apply List.ext_getElem
  · rw [cut_len h]; simp
  · intro i h1 h2
    have hi : i < w := by simpa using h2
    simp only [cutB, List.getElem_take, List.getElem_drop, List.getElem_map, List.getElem_range]
    rw [getD_of (List.getElem?_eq_getElem (by omega))]
theorem cut_same {x y : List Int} {a b s : Nat} (ha : a + s ≤ x.length) (hb : b + s ≤ y.length) (h : ∀ i, i < s → x.getD (a + i) 0 = y.getD (b + i) 0) : cutB x a s = cutB y b s := by
  rw [cut_eq ha, cut_eq hb]
  exact List.map_congr_left fun i hi => h i (List.mem_range.mp hi)
theorem filt_len (s : Nat) (t x : List Int) (m : Nat) : (filt s t x m).length = m := by simp [filt]
theorem filt_at {s : Nat} {t x : List Int} {m k : Nat} (h : k < m) : (filt s t x m).getD k 0 = t.getD (num (cutB x k s)).toNat 0 := by
  refine getD_of ?_
  unfold filt
  rw [List.getElem?_map, List.getElem?_range h]; rfl
theorem getD_bit {t : List Int} (h : Bits t) (k : Nat) : t.getD k 0 = 0 ∨ t.getD k 0 = 1 := by
  rcases Nat.lt_or_ge k t.length with q | q
  · rw [getD_of (List.getElem?_eq_getElem q)]; exact h _ (List.getElem_mem q)
  · rw [List.getD, List.getElem?_eq_none q]; exact .inl rfl
theorem filt_bits {s : Nat} {t x : List Int} {m : Nat} (h : Bits t) : Bits (filt s t x m) := fun z hz => by
  unfold filt at hz
  obtain ⟨k, _, rfl⟩ := List.mem_map.mp hz
  exact getD_bit h _
theorem zeros_at (r p : Nat) : (zeros r).getD p 0 = 0 := by
  rcases Nat.lt_or_ge p (zeros r).length with q | q
  · rw [getD_of (List.getElem?_eq_getElem q)]; exact List.eq_of_mem_replicate (List.getElem_mem q)
  · rw [List.getD, List.getElem?_eq_none q]; rfl
theorem getD_app (a b : List Int) (p : Nat) : (a ++ b).getD p 0 = if p < a.length then a.getD p 0 else b.getD (p - a.length) 0 := by
  by_cases h : p < a.length
  · rw [if_pos h, List.getD, List.getElem?_append_left h, List.getD]
  · rw [if_neg h, List.getD, List.getElem?_append_right (by omega), List.getD]
theorem wide_at (r : Nat) (x : List Int) (p : Nat) : (wide r x).getD p 0 = if p < r then 0 else x.getD (p - r) 0 := by
  have l : (zeros r).length = r := by simp [zeros]
  unfold wide
  rw [List.append_assoc, getD_app, l]
  by_cases h : p < r
  · rw [if_pos h, if_pos h, zeros_at]
  · rw [if_neg h, if_neg h, getD_app]
    by_cases q : p - r < x.length
    · rw [if_pos q]
    · rw [if_neg q, zeros_at, List.getD, List.getElem?_eq_none (by omega)]; rfl
theorem num_snoc (a : List Int) (u : Int) : num (a ++ [u]) = 2 * num a + u := by
  unfold num; rw [List.foldl_append]; rfl
theorem num_inj : ∀ (n : Nat) (a b : List Int), a.length = n → b.length = n → Bits a → Bits b → num a = num b → a = b
  | 0, a, b, ha, hb, _, _, _ => by
    rw [List.length_eq_zero_iff.mp ha, List.length_eq_zero_iff.mp hb]
  | n + 1, a, b, ha, hb, ba, bb, e => by
    rcases List.eq_nil_or_concat a with rfl | ⟨a', u, rfl⟩
    · simp at ha
    rcases List.eq_nil_or_concat b with rfl | ⟨b', v, rfl⟩
    · simp at hb
    rw [List.concat_eq_append] at *
    rw [List.concat_eq_append] at *
    rw [num_snoc, num_snoc] at e
    have hu := ba u (by simp)
    have hv := bb v (by simp)
    have hn : num a' = num b' := by omega
    have huv : u = v := by omega
    rw [num_inj n a' b' (by simpa using ha) (by simpa using hb) (fun z hz => ba z (List.mem_append_left _ hz)) (fun z hz => bb z (List.mem_append_left _ hz)) hn, huv]
theorem digs_bits (n : Int) (k : Nat) : Bits (digs n k).reverse := fun z hz => by
  unfold digs at hz
  rw [List.mem_reverse] at hz
  obtain ⟨i, _, rfl⟩ := List.mem_map.mp hz
  have h1 := Int.emod_nonneg (n / 2 ^ i) (show (2 : Int) ≠ 0 by decide)
  have h2 := Int.emod_lt_of_pos (n / 2 ^ i) (show (0 : Int) < 2 by decide)
  omega
theorem digs_len (n : Int) (k : Nat) : (digs n k).reverse.length = k := by simp [digs]
theorem digs_num {c : List Int} (h : Bits c) : (digs (num c) c.length).reverse = c := by
  obtain ⟨h0, h1⟩ := num_bd h
  refine num_inj c.length _ _ (digs_len _ _) rfl (digs_bits _ _) h ?_
  rw [num_digs _ h0, Int.emod_eq_of_lt h0 h1]
theorem num_dig {n s : Nat} (h : n < 2 ^ s) : num (digs (n : Int) s).reverse = n := by
  rw [num_digs _ (by omega)]
  have z : ((2 ^ s : Nat) : Int) = 2 ^ s := by simp
  exact Int.emod_eq_of_lt (by omega) (by omega)
/-- the table of a window behind a window -/
def tab2 (r1 : Nat) (t1 : List Int) (r2 : Nat) (t2 : List Int) : List Int := (List.range (2 ^ (2 * (r1 + r2) + 1))).map fun (n : Nat) => t2.getD (num (filt (2 * r1 + 1) t1 (digs (n : Int) (2 * (r1 + r2) + 1)).reverse (2 * r2 + 1))).toNat 0
theorem tab2_len (r1 : Nat) (t1 : List Int) (r2 : Nat) (t2 : List Int) : (tab2 r1 t1 r2 t2).length = 2 ^ (2 * (r1 + r2) + 1) := by simp [tab2]
theorem tab2_bits {r1 : Nat} {t1 : List Int} {r2 : Nat} {t2 : List Int} (h : Bits t2) : Bits (tab2 r1 t1 r2 t2) := fun z hz => by
  unfold tab2 at hz
  obtain ⟨k, _, rfl⟩ := List.mem_map.mp hz
  exact getD_bit h _
theorem tab2_at {r1 r2 : Nat} {t1 t2 y : List Int} (hb : Bits y) (hl : y.length = 2 * (r1 + r2) + 1) : (tab2 r1 t1 r2 t2).getD (num y).toNat 0 = t2.getD (num (filt (2 * r1 + 1) t1 y (2 * r2 + 1))).toNat 0 := by
  obtain ⟨h0, h1⟩ := num_bd hb
  have z : ((2 ^ y.length : Nat) : Int) = 2 ^ y.length := by simp
  have hk : (num y).toNat < 2 ^ (2 * (r1 + r2) + 1) := by rw [← hl]; omega
  refine getD_of ?_
  unfold tab2
  rw [List.getElem?_map, List.getElem?_range hk, Option.map_some, Int.toNat_of_nonneg h0, ← hl, digs_num hb]
theorem cut_cut {x : List Int} {k s i w : Nat} (h : i + w ≤ s) : cutB (cutB x k s) i w = cutB x (k + i) w := by
  unfold cutB
  rw [List.drop_take, List.take_take, List.drop_drop, Nat.min_eq_left (by omega)]
theorem filt_cut {s1 k w m : Nat} {t1 x : List Int} (hk : k + w ≤ m) (hs : 1 ≤ s1) : filt s1 t1 (cutB x k (w + s1 - 1)) w = cutB (filt s1 t1 x m) k w := by
  rw [cut_eq (x := filt s1 t1 x m) (by rw [filt_len]; exact hk)]
  conv => lhs; unfold filt
  refine List.map_congr_left fun i hi => ?_
  have hi' := List.mem_range.mp hi
  rw [cut_cut (by omega)]
  exact (filt_at (s := s1) (t := t1) (x := x) (m := m) (k := k + i) (by omega)).symm
theorem filt_tab2 {r1 r2 m : Nat} {t1 t2 x : List Int} (hb : Bits x) (hx : x.length = m + 2 * r1 + 2 * r2) : filt (2 * (r1 + r2) + 1) (tab2 r1 t1 r2 t2) x m = filt (2 * r2 + 1) t2 (filt (2 * r1 + 1) t1 x (m + 2 * r2)) m := by
  unfold filt
  refine List.map_congr_left fun k hk => ?_
  have hk' := List.mem_range.mp hk
  rw [tab2_at (cut_bits hb) (cut_len (by omega))]
  have e := filt_cut (s1 := 2 * r1 + 1) (k := k) (w := 2 * r2 + 1) (m := m + 2 * r2) (t1 := t1) (x := x) (by omega) (by omega)
  rw [show 2 * (r1 + r2) + 1 = 2 * r2 + 1 + (2 * r1 + 1) - 1 by omega, e]
  rfl
theorem tab2_assoc {r0 r1 r2 : Nat} {t0 t1 t2 : List Int} (h0 : Bits t0) : tab2 (r0 + r1) (tab2 r0 t0 r1 t1) r2 t2 = tab2 r0 t0 (r1 + r2) (tab2 r1 t1 r2 t2) := by
  unfold tab2
  rw [show r0 + r1 + r2 = r0 + (r1 + r2) by omega]
  refine List.map_congr_left fun n hn => ?_
  have e1 := filt_tab2 (r1 := r0) (r2 := r1) (m := 2 * r2 + 1) (t1 := t0) (t2 := t1) (digs_bits (n : Int) (2 * (r0 + (r1 + r2)) + 1)) (by rw [digs_len]; omega)
  have e2' := tab2_at (r1 := r1) (r2 := r2) (t1 := t1) (t2 := t2) (filt_bits (s := 2 * r0 + 1) (x := (digs (n : Int) (2 * (r0 + (r1 + r2)) + 1)).reverse) (m := 2 * (r1 + r2) + 1) h0) (filt_len _ _ _ _)
  unfold tab2 at e1 e2'
  rw [e1, e2', show 2 * r2 + 1 + 2 * r1 = 2 * (r1 + r2) + 1 by omega]
theorem one_at {b : Int} (h : b = 0 ∨ b = 1) : ([0, 1] : List Int).getD (num [b]).toNat 0 = b := by
  rcases h with rfl | rfl <;> rfl
theorem tab2_same {r : Nat} {t : List Int} (h : Bits t) (hl : t.length = 2 ^ (2 * r + 1)) : tab2 r t 0 [0, 1] = t := by
  apply List.ext_getElem
  · rw [tab2_len, hl]; rfl
  · intro n h1 h2
    have e : (tab2 r t 0 [0, 1]).getD n 0 = t.getD n 0 := by
      have hn : n < 2 ^ (2 * r + 1) := by rw [← hl]; exact h2
      have z := tab2_at (r1 := r) (r2 := 0) (t1 := t) (t2 := [0, 1]) (digs_bits (n : Int) (2 * r + 1)) (by rw [digs_len]; omega)
      rw [num_dig hn, Int.toNat_natCast] at z
      rw [z]
      have c : cutB (digs (n : Int) (2 * r + 1)).reverse 0 (2 * r + 1) = (digs (n : Int) (2 * r + 1)).reverse := by
        unfold cutB
        rw [List.drop_zero, List.take_of_length_le (by rw [digs_len]; exact Nat.le_refl _)]
      have f : filt (2 * r + 1) t (digs (n : Int) (2 * r + 1)).reverse (2 * 0 + 1) = [t.getD n 0] := by
        show [t.getD (num (cutB _ 0 (2 * r + 1))).toNat 0] = _
        rw [c, num_dig hn, Int.toNat_natCast]
      rw [f, one_at (getD_bit h n)]
    rw [getD_of (List.getElem?_eq_getElem h1), getD_of (List.getElem?_eq_getElem h2)] at e
    exact e
theorem filt_same {x : List Int} {m : Nat} (h : Bits x) (hm : x.length = m) : filt (2 * 0 + 1) [0, 1] x m = x := by
  subst hm
  apply List.ext_getElem
  · rw [filt_len]
  · intro n h1 h2
    have e : (filt (2 * 0 + 1) [0, 1] x x.length).getD n 0 = x.getD n 0 := by
      rw [filt_at h2, cut_eq (by omega)]
      show ([0, 1] : List Int).getD (num [x.getD (n + 0) 0]).toNat 0 = _
      rw [one_at (getD_bit h _), Nat.add_zero]
    rw [getD_of (List.getElem?_eq_getElem h1), getD_of (List.getElem?_eq_getElem h2)] at e
    exact e
theorem same_tab2 {r : Nat} {t : List Int} (hl : t.length = 2 ^ (2 * r + 1)) : tab2 0 [0, 1] r t = t := by
  apply List.ext_getElem
  · rw [tab2_len, hl, Nat.zero_add]
  · intro n h1 h2
    have e : (tab2 0 [0, 1] r t).getD n 0 = t.getD n 0 := by
      have hn : n < 2 ^ (2 * r + 1) := by rw [← hl]; exact h2
      have z := tab2_at (r1 := 0) (r2 := r) (t1 := [0, 1]) (t2 := t) (digs_bits (n : Int) (2 * r + 1)) (by rw [digs_len]; omega)
      rw [num_dig hn, Int.toNat_natCast, filt_same (digs_bits _ _) (digs_len _ _), num_dig hn, Int.toNat_natCast] at z
      exact z
    rw [getD_of (List.getElem?_eq_getElem h1), getD_of (List.getElem?_eq_getElem h2)] at e
    exact e
/-- swept twice in wide light is swept once by both -/
theorem two_same {r1 r2 : Nat} {t1 t2 x : List Int} (hr : r1 ≤ 8) (hr2 : r2 ≤ 8) (hb : Bits x) :
    cutB (filt (2 * r2 + 1) t2 (wide r2 (filt (2 * r1 + 1) t1 (wide r1 (wide 8 x)) (x.length + 16))) (x.length + 16)) 8 x.length = filt (2 * (r1 + r2) + 1) (tab2 r1 t1 r2 t2) (wide (r1 + r2) x) x.length := by
  rw [filt_tab2 (wide_bits hb) (by rw [wide_len]; omega), cut_eq (by rw [filt_len]; omega)]
  conv => rhs; unfold filt
  refine List.map_congr_left fun k hk => ?_
  have hk' := List.mem_range.mp hk
  rw [filt_at (by omega)]
  congr 3
  refine cut_same (by rw [wide_len, filt_len]; omega) (by rw [List.length_map, List.length_range]; omega) fun i hi => ?_
  have e : (List.map (fun k => t1.getD (num (cutB (wide (r1 + r2) x) k (2 * r1 + 1))).toNat 0) (List.range (x.length + 2 * r2))).getD (k + i) 0 = t1.getD (num (cutB (wide (r1 + r2) x) (k + i) (2 * r1 + 1))).toNat 0 := filt_at (s := 2 * r1 + 1) (by omega)
  rw [wide_at, if_neg (by omega), filt_at (by omega), e]
  congr 3
  refine cut_same (by rw [wide_len, wide_len]; omega) (by rw [wide_len]; omega) fun j hj => ?_
  rw [wide_at, wide_at, wide_at]
  by_cases h : k + i + j < r1 + r2
  · rw [if_pos h]
    by_cases h2 : 8 + k + i - r2 + j < r1
    · rw [if_pos h2]
    · rw [if_neg h2, if_pos (by omega)]
  · rw [if_neg h, if_neg (by omega), if_neg (by omega)]
    congr 1
    omega
theorem mid_same {r1 r2 k : Nat} {t1 t2 x : List Int} (hb : Bits x) (h1 : r2 ≤ k) (h2 : k + r2 < x.length) :
    (filt (2 * (r1 + r2) + 1) (tab2 r1 t1 r2 t2) (wide (r1 + r2) x) x.length).getD k 0 = (filt (2 * r2 + 1) t2 (wide r2 (filt (2 * r1 + 1) t1 (wide r1 x) x.length)) x.length).getD k 0 := by
  rw [filt_tab2 (wide_bits hb) (by rw [wide_len]; omega), filt_at (by omega), filt_at (by omega)]
  congr 3
  refine cut_same (by rw [filt_len]; omega) (by rw [wide_len, filt_len]; omega) fun i hi => ?_
  rw [wide_at, if_neg (by omega), filt_at (by omega), filt_at (by omega)]
  congr 3
  refine cut_same (by rw [wide_len]; omega) (by rw [wide_len]; omega) fun j hj => ?_
  rw [wide_at, wide_at]
  by_cases h : k + i + j < r1 + r2
  · rw [if_pos h, if_pos (by omega)]
  · rw [if_neg h, if_neg (by omega)]
    congr 1
    omega
theorem num_app (a b : List Int) : num (a ++ b) = num a * 2 ^ b.length + num b := by
  unfold num
  rw [List.foldl_append]
  generalize List.foldl (fun a c => 2 * a + c) 0 a = z
  have q : ∀ (l : List Int) (z : Int), l.foldl (fun a c => 2 * a + c) z = z * 2 ^ l.length + l.foldl (fun a c => 2 * a + c) 0 := by
    intro l
    induction l with
    | nil => intro z; simp
    | cons c l ih =>
      intro z
      rw [List.foldl_cons, List.foldl_cons, ih, ih (2 * 0 + c), List.length_cons, Int.pow_succ]
      rw [Int.add_mul, Int.add_mul]
      have : 2 * z * 2 ^ l.length = z * (2 ^ l.length * 2) := by rw [Int.mul_comm 2 z, Int.mul_assoc, Int.mul_comm 2]
      rw [this]
      omega
  exact q b z
theorem num_cons (c : Int) (l : List Int) : num (c :: l) = c * 2 ^ l.length + num l := by
  have z := num_app [c] l
  have e : num [c] = c := by show 2 * 0 + c = c; omega
  rw [e] at z
  exact z
theorem lex_num : ∀ (a b : List Int), a.length = b.length → Bits a → Bits b → lexLt a b = decide (num a < num b)
  | [], [], _, _, _ => by rw [decide_eq_false (Int.lt_irrefl _)]; rfl
  | [], _ :: _, h, _, _ => by simp at h
  | _ :: _, [], h, _, _ => by simp at h
  | x :: a, y :: b, h, ha, hb => by
    have hl : a.length = b.length := by simpa using h
    have ha' : Bits a := fun z hz => ha z (List.mem_cons_of_mem _ hz)
    have hb' : Bits b := fun z hz => hb z (List.mem_cons_of_mem _ hz)
    obtain ⟨a0, a1⟩ := num_bd ha'
    obtain ⟨b0, b1⟩ := num_bd hb'
    rw [num_cons, num_cons, hl]
    rw [hl] at a1
    show (if x = y then lexLt a b else decide (x < y)) = _
    by_cases e : x = y
    · rw [if_pos e, lex_num a b hl ha' hb', e]
      exact decide_eq_decide.mpr ⟨fun h => by omega, fun h => by omega⟩
    · rw [if_neg e]
      rcases ha x List.mem_cons_self with rfl | rfl <;> rcases hb y List.mem_cons_self with rfl | rfl
      · exact absurd rfl e
      · exact decide_eq_decide.mpr ⟨fun _ => by omega, fun _ => by decide⟩
      · exact decide_eq_decide.mpr ⟨fun h => by omega, fun h => by omega⟩
      · exact absurd rfl e
/-- the rows in the order of their numbers -/
def natL (n : Nat) : List (List Int) := (List.range (2 ^ n)).map fun k : Nat => (digs (k : Int) n).reverse
theorem natL_len (n : Nat) : (natL n).length = 2 ^ n := by simp [natL]
theorem natL_at {n k : Nat} (h : k < 2 ^ n) : (natL n)[k]? = some (digs (k : Int) n).reverse := by
  unfold natL; rw [List.getElem?_map, List.getElem?_range h]; rfl
theorem natL_mem {n : Nat} {l : List Int} (h : l ∈ natL n) : l.length = n ∧ Bits l := by
  unfold natL at h
  obtain ⟨k, _, rfl⟩ := List.mem_map.mp h
  exact ⟨digs_len _ _, digs_bits _ _⟩
theorem digs_cons (n : Int) (k : Nat) : digs n (k + 1) = n % 2 :: digs (n / 2) k := by
  unfold digs
  rw [List.range_succ_eq_map, List.map_cons, List.map_map]
  congr 1
  · simp
  · apply List.map_congr_left
    intro i _
    show n / 2 ^ (i + 1) % 2 = n / 2 / 2 ^ i % 2
    rw [Int.pow_succ, Int.mul_comm, Int.ediv_ediv_of_nonneg (by decide)]
theorem range_two : ∀ m : Nat, List.range (2 * m) = (List.range m).flatMap fun j => [2 * j, 2 * j + 1]
  | 0 => rfl
  | m + 1 => by
    rw [show 2 * (m + 1) = 2 * m + 1 + 1 by omega, List.range_succ, List.range_succ, range_two m, List.range_succ, List.flatMap_append]
    simp
theorem natL_next (n : Nat) : natL (n + 1) = (natL n).flatMap fun l => [l ++ [0], l ++ [1]] := by
  unfold natL
  rw [Nat.pow_succ, Nat.mul_comm, range_two, List.map_flatMap, List.flatMap_map]
  congr 1
  funext j
  have a : (((2 * j : Nat) : Int)) % 2 = 0 := by omega
  have b : (((2 * j : Nat) : Int)) / 2 = j := by omega
  have c : (((2 * j + 1 : Nat) : Int)) % 2 = 1 := by omega
  have d : (((2 * j + 1 : Nat) : Int)) / 2 = j := by omega
  simp only [List.map_cons, List.map_nil, Function.comp, digs_cons, a, b, c, d, List.reverse_cons]
theorem flat_perm {α β : Type} (f g : α → β) : ∀ L : List α, (L.flatMap fun l => [f l, g l]).Perm (L.map f ++ L.map g)
  | [] => .nil
  | a :: L => by
    rw [List.flatMap_cons, List.map_cons, List.map_cons]
    show (f a :: g a :: (L.flatMap fun l => [f l, g l])).Perm (f a :: (L.map f ++ g a :: L.map g))
    exact ((flat_perm f g L).cons (g a) |>.trans List.perm_middle.symm).cons (f a)
theorem rows_perm : ∀ n : Nat, (natL n).Perm (rowsL n)
  | 0 => .refl _
  | n + 1 => by
    rw [natL_next]
    exact (flat_perm _ _ _).trans (((rows_perm n).map _).append ((rows_perm n).map _))
theorem rows_nat (n : Nat) : sortT (rowsL n) = natL n := by
  have s2 : (sortT (rowsL n)).Pairwise fun a b => (!lexLt b a) = true := by
    refine List.pairwise_mergeSort (le := fun a b => !lexLt b a) (fun a b c h1 h2 => ?_) (fun a b => ?_) _
    · simp at h1 h2 ⊢
      exact lex_trans a b c h1 h2
    · rcases lex_asym a b with h | h <;> simp [h]
  have s1 : (natL n).Pairwise fun a b => (!lexLt b a) = true := by
    unfold natL
    rw [List.pairwise_map]
    have z : (List.range (2 ^ n)).Pairwise fun a b => a < b ∧ b < 2 ^ n := by
      have p := List.pairwise_lt_range (n := 2 ^ n)
      rw [List.pairwise_iff_forall_sublist] at p ⊢
      exact fun {a b} s => ⟨p s, List.mem_range.mp (s.subset (by simp))⟩
    refine z.imp fun {a b} h => ?_
    rw [lex_num _ _ (by rw [digs_len, digs_len]) (digs_bits _ _) (digs_bits _ _), num_dig h.2, num_dig (by omega)]
    simp
    omega
  refine (one_order ((rows_perm n).trans (List.mergeSort_perm _ _).symm) s1 s2 fun a ha b hb h1 h2 => ?_).symm
  exact lex_tri (by rw [(natL_mem ha).1, (natL_mem hb).1]) (by simpa using h2) (by simpa using h1)
/-! ### counts -/
theorem sum_bd : ∀ {l : List Int}, Bits l → 0 ≤ l.sum ∧ l.sum ≤ l.length ∧ (0 < l.sum ↔ 1 ∈ l) ∧ (l.sum = l.length ↔ ¬ (0 ∈ l))
  | [], _ => by simp
  | c :: l, h => by
    obtain ⟨h1, h2, h3, h4⟩ := sum_bd (l := l) fun z hz => h z (List.mem_cons_of_mem _ hz)
    rw [List.sum_cons, List.length_cons]
    rcases h c List.mem_cons_self with rfl | rfl
    · refine ⟨by omega, by omega, ?_, ?_⟩
      · simp [h3]
      · constructor
        · intro q
          omega
        · intro q
          exact absurd List.mem_cons_self q
    · refine ⟨by omega, by omega, ?_, ?_⟩
      · constructor
        · intro _
          exact List.mem_cons_self
        · intro _
          omega
      · simp only [List.mem_cons]
        constructor
        · rintro q (z | z)
          · cases z
          · exact h4.mp (by omega) z
        · intro q
          have := h4.mpr fun z => q (.inr z)
          omega
theorem max_bits {l : List Int} (h : Bits l) (hn : l ≠ []) : IsMax l (if 0 < l.sum then 1 else 0) := by
  obtain ⟨h1, h2, h3, h4⟩ := sum_bd h
  by_cases q : 0 < l.sum
  · rw [if_pos q]
    exact ⟨h3.mp q, fun y hy => by have := h y hy; omega⟩
  · rw [if_neg q]
    have n1 : ¬ (1 ∈ l) := fun z => q (h3.mpr z)
    have all0 : ∀ y ∈ l, y = 0 := fun y hy => by
      rcases h y hy with e | e
      · exact e
      · rw [e] at hy; exact absurd hy n1
    obtain ⟨a, r, rfl⟩ := List.exists_cons_of_ne_nil hn
    exact ⟨by rw [← all0 a List.mem_cons_self]; exact List.mem_cons_self, fun y hy => by rw [all0 y hy]; exact Int.le_refl _⟩
theorem min_bits {l : List Int} (h : Bits l) (hn : l ≠ []) : IsMin l (if l.sum = l.length then 1 else 0) := by
  obtain ⟨h1, h2, h3, h4⟩ := sum_bd h
  by_cases q : l.sum = l.length
  · rw [if_pos q]
    have n0 := h4.mp q
    have all1 : ∀ y ∈ l, y = 1 := fun y hy => by
      rcases h y hy with e | e
      · rw [e] at hy; exact absurd hy n0
      · exact e
    obtain ⟨a, r, rfl⟩ := List.exists_cons_of_ne_nil hn
    exact ⟨by rw [← all1 a List.mem_cons_self]; exact List.mem_cons_self, fun y hy => by rw [all1 y hy]; exact Int.le_refl _⟩
  · rw [if_neg q]
    refine ⟨?_, fun y hy => by have := h y hy; omega⟩
    by_cases z : (0 : Int) ∈ l
    · exact z
    · exact absurd (h4.mpr z) q
theorem bits_perm : ∀ {l : List Int}, Bits l → (List.replicate (l.length - l.sum.toNat) (0 : Int) ++ List.replicate l.sum.toNat 1).Perm l
  | [], _ => .refl _
  | c :: l, h => by
    have hl : Bits l := fun z hz => h z (List.mem_cons_of_mem _ hz)
    obtain ⟨h1, h2, _, _⟩ := sum_bd hl
    have ih := bits_perm hl
    rw [List.sum_cons, List.length_cons]
    rcases h c List.mem_cons_self with rfl | rfl
    · rw [Int.zero_add, show l.length + 1 - l.sum.toNat = l.length - l.sum.toNat + 1 by omega, List.replicate_succ]
      exact ih.cons 0
    · rw [show (1 + l.sum).toNat = l.sum.toNat + 1 by omega, show l.length + 1 - (l.sum.toNat + 1) = l.length - l.sum.toNat by omega, List.replicate_succ]
      exact List.perm_middle.trans (ih.cons 1)
theorem sortI_bits {l : List Int} (h : Bits l) : sortI l = List.replicate (l.length - l.sum.toNat) (0 : Int) ++ List.replicate l.sum.toNat 1 := by
  refine (sortI_of (bits_perm h) ?_).symm
  rw [List.pairwise_append]
  refine ⟨List.pairwise_replicate.mpr (.inr (Int.le_refl _)), List.pairwise_replicate.mpr (.inr (Int.le_refl _)), fun a ha b hb => ?_⟩
  rw [List.eq_of_mem_replicate ha, List.eq_of_mem_replicate hb]; decide
theorem mid_bits {l : List Int} {r : Nat} (h : Bits l) (hl : l.length = 2 * r + 1) : (sortI l)[r]? = some (if (r : Int) < l.sum then 1 else 0) := by
  obtain ⟨h1, h2, _, _⟩ := sum_bd h
  rw [sortI_bits h]
  by_cases q : (r : Int) < l.sum
  · rw [if_pos q, List.getElem?_append_right (by rw [List.length_replicate]; omega), List.getElem?_replicate, if_pos (by rw [List.length_replicate]; omega)]
  · rw [if_neg q, List.getElem?_append_left (by rw [List.length_replicate]; omega), List.getElem?_replicate, if_pos (by omega)]

end SL
namespace SL
open PySem PySem.Spec PyProof.Rows L2
theorem seq_hit {s t : SSem} {fr : Fr} {st st1 : Sto} {w : W} (h : s fr st = .rt w st1) : sSeq s t fr st = .rt w st1 := by unfold sSeq; rw [h]
/-- a loop that may hand back -/
theorem for_hit {x : W} {all : List W} {g : TgF} {b : SSem} (P : Nat → Fr → Sto → Prop) (R : W → Sto → Prop) (hs : ∀ k fr st, P k fr st → srcOk x all st) (step : ∀ k fr st w, P k fr st → all[k]? = some w → ∃ fr1, g w fr st = some fr1 ∧ ((∃ fr2 st2, (b fr1 st = .nx fr2 st2 ∨ b fr1 st = .ct fr2 st2) ∧ P (k + 1) fr2 st2) ∨ ∃ r st2, b fr1 st = .rt r st2 ∧ R r st2)) :
    ∀ (m k : Nat) (fr : Fr) (st : Sto), all.length = k + m → P k fr st → (∃ fr' st', forRun x all g b (all.drop k) fr st = .nx fr' st' ∧ P all.length fr' st') ∨ ∃ r st', forRun x all g b (all.drop k) fr st = .rt r st' ∧ R r st'
  | 0, k, fr, st, hm, h => .inl ⟨fr, st, by rw [List.drop_eq_nil_of_le (by omega)]; unfold forRun; rw [if_pos (hs k fr st h)], by rw [hm]; exact h⟩
  | m + 1, k, fr, st, hm, h => by
    have hk : k < all.length := by omega
    obtain ⟨fr1, h1, h2⟩ := step k fr st all[k] h (by simp)
    rw [List.drop_eq_getElem_cons hk]
    unfold forRun
    rw [if_pos (hs k fr st h), h1]
    rcases h2 with ⟨fr2, st2, h2, h3⟩ | ⟨r, st2, h2, h3⟩
    · have ih := for_hit P R hs step m (k + 1) fr2 st2 (by omega) h3
      rcases h2 with h2 | h2 <;> simp only [h2] <;> exact ih
    · exact .inr ⟨r, st2, by simp only [h2], h3⟩
theorem x_forH {f : SemI} {g : TgF} {b : SSem} {fr : Fr} {st st1 : Sto} {x : W} {all : List W} (h : f fr st = .ok (x, all) st1) (P : Nat → Fr → Sto → Prop) (R : W → Sto → Prop) (h0 : P 0 fr st1) (hs : ∀ k fr st, P k fr st → srcOk x all st) (step : ∀ k fr st w, P k fr st → all[k]? = some w → ∃ fr1, g w fr st = some fr1 ∧ ((∃ fr2 st2, (b fr1 st = .nx fr2 st2 ∨ b fr1 st = .ct fr2 st2) ∧ P (k + 1) fr2 st2) ∨ ∃ r st2, b fr1 st = .rt r st2 ∧ R r st2)) :
    (∃ fr' st', sFor f g b fr st = .nx fr' st' ∧ P all.length fr' st') ∨ ∃ r st', sFor f g b fr st = .rt r st' ∧ R r st' := by
  have z := for_hit P R hs step all.length 0 fr st1 (by omega) h0
  unfold sFor; rw [h, Out.stm_ok]
  exact z
/-! ## swept again and again -/
def sw (r : Nat) (t x : List Int) : List Int := filt (2 * r + 1) t (wide r x) x.length
def sws (r : Nat) (t x : List Int) : Nat → List Int
  | 0 => x
  | k + 1 => sw r t (sws r t x k)
theorem sw_len (r : Nat) (t x : List Int) : (sw r t x).length = x.length := filt_len _ _ _ _
theorem sw_bits {r : Nat} {t x : List Int} (h : Bits t) : Bits (sw r t x) := filt_bits h
theorem sws_ok {r : Nat} {t x : List Int} (h : Bits t) (hx : Bits x) : ∀ k, (sws r t x k).length = x.length ∧ Bits (sws r t x k)
  | 0 => ⟨rfl, hx⟩
  | k + 1 => ⟨(sw_len r t _).trans (sws_ok h hx k).1, sw_bits h⟩
theorem rest_sw {r : Nat} {t x : List Int} : rest r t x = decide (sw r t x = x) := rfl
theorem row_ok {r : Nat} {t x : List Int} {st : Sto} (hr : r ≤ 3) (hb : Bits x) (ht : t.length = 2 ^ (2 * r + 1)) (hx : x.length ≤ 900) (ho : ∀ m, st.all (oldW m) = true) : F_swept_row [wnd r t, bits x] st = .ok (bits (sw r t x)) st := by
  refine mk_rt (st1 := st) ?_ rfl
  show B_swept_row [some (wnd r t), some (bits x), none] st = _
  unfold B_swept_row
  have f1 := fld_r (r := r) (t := t) (i := 0) (fr := [some (wnd r t), some (bits x), none]) (st := st) rfl
  have m1 : oMulX (.tup [.int 0]) (.int r) st = .ok (bits (zeros r)) st := by
    show (if [W.int 0] = [] then Out.bad else if dec (-1000 ≤ (r : Int) ∧ (r : Int) ≤ 1000 ∧ [W.int 0].length ≤ 1000) = true then Out.ok (W.tup (List.replicate (r : Int).toNat [W.int 0]).flatten) st else .bad) = _
    rw [if_neg (by simp), if_pos (dec_mk ⟨by omega, by omega, by simp⟩), Int.toNat_natCast, rep_zeros]; rfl
  refine asg_to (w := bits (zeros r)) (st1 := st) (by simp [f1, x_tup, m1]) ?_
  have j1 := bits_app (x := zeros r) (y := x) (st := st) (by simp [zeros]; omega)
  have j2 := bits_app (x := zeros r ++ x) (y := zeros r) (st := st) (by simp [zeros]; omega)
  have z := filtered_ok (r := r) (t := t) (x := wide r x) (m := x.length) (st := st) hr (wide_bits hb) ht (wide_len r x) (by omega) (ho _)
  unfold sw
  unfold wide at z ⊢
  simp [j1, j2, z, -List.append_assoc]
theorem rests_ok {r : Nat} {t x : List Int} {st : Sto} (hr : r ≤ 3) (hb : Bits x) (ht : t.length = 2 ^ (2 * r + 1)) (hx : x.length ≤ 900) (ho : ∀ m, st.all (oldW m) = true) : F_rests [wnd r t, bits x] st = .ok (.bl (rest r t x)) st := by
  refine mk_rt (st1 := st) ?_ rfl
  show B_rests [some (wnd r t), some (bits x)] st = _
  unfold B_rests
  have c := check_ok (p := "row") (st := st) (bits_ok x) (bits_row hb)
  refine exp_to (w := .non) (st1 := st) (by simp only [x_call, x_aCons, x_aNil, x_var, x_c, fg1, Out.bind_ok, c]) ?_
  simp only [x_ret, x_2, x_call, x_aCons, x_aNil, x_var, fg0, fg1, Out.bind_ok, row_ok hr hb ht hx ho, eq_bits, Out.stm_ok]
  rfl
/-- the answer: how often till it rests, and the row then -/
def Till (r : Nat) (t x : List Int) (n : Nat) (w : W) : Prop := (∃ k, k ≤ n ∧ (∀ j, j < k → rest r t (sws r t x j) = false) ∧ rest r t (sws r t x k) = true ∧ w = .tup [.int (k : Nat), bits (sws r t x k)]) ∨ ((∀ j, j ≤ n → rest r t (sws r t x j) = false) ∧ w = .tup [.int (-1), bits (sws r t x n)])
theorem till_one {r : Nat} {t x : List Int} {n : Nat} {w u : W} (h : Till r t x n w) (g : Till r t x n u) : w = u := by
  rcases h with ⟨k, h1, h2, h3, rfl⟩ | ⟨h1, rfl⟩
  · rcases g with ⟨j, g1, g2, g3, rfl⟩ | ⟨g1, rfl⟩
    · have e : k = j := by
        rcases Nat.lt_trichotomy k j with q | q | q
        · rw [g2 k q] at h3; cases h3
        · exact q
        · rw [h2 j q] at g3; cases g3
      rw [e]
    · rw [g1 k h1] at h3; cases h3
  · rcases g with ⟨j, g1, g2, g3, rfl⟩ | ⟨g1, rfl⟩
    · rw [h1 j g1] at g3; cases g3
    · rfl
theorem till_ok {r n : Nat} {t x : List Int} {st : Sto} (hr : r ≤ 3) (bt : Bits t) (hb : Bits x) (ht : t.length = 2 ^ (2 * r + 1)) (hx : x.length ≤ 900) (hn : n ≤ 200) (ho : ∀ m, st.all (oldW m) = true) : ∃ w, F_swept_till [wnd r t, bits x, .int n] st = .ok w st ∧ Till r t x n w := by
  have sk := fun k => sws_ok (r := r) bt hb k
  have rk : ∀ k, F_swept_row [wnd r t, bits (sws r t x k)] st = .ok (bits (sws r t x (k + 1))) st := fun k => row_ok hr (sk k).2 ht (by rw [(sk k).1]; exact hx) ho
  have hit := x_forH (f := (iRng rg1 (aCons (eVar 2) (aNil)))) (g := (gNm 3)) (b := (sSeq (sAsg (eCall F_swept_row (aCons (eVar 0) (aCons (eVar 1) (aNil)))) (gNm 4)) (sSeq (sIf (bOf (e2 oEq (eVar 4) (eVar 1))) (sRet (eN oTup (aCons (eVar 3) (aCons (eVar 1) (aNil))))) (sNil)) (sAsg (eVar 4) (gNm 1)))))
    (fr := [some (wnd r t), some (bits x), some (.int n), none, none]) (st := st) (st1 := st) (x := .non) (all := rngW 0 1 (n : Int).toNat) (x_rng1 (by simp only [x_aCons, x_aNil, x_var, fg2, Out.bind_ok]) (by omega) (by omega))
    (fun k fr s => (∀ j, j < k → rest r t (sws r t x j) = false) ∧ s = st ∧ ∃ v3 v4, fr = [some (wnd r t), some (bits (sws r t x k)), some (.int n), v3, v4]) (fun w s => s = st ∧ Till r t x n w) ⟨fun j h => absurd h (by omega), rfl, _, _, rfl⟩ (fun _ _ _ _ => trivial) (by
      rintro k fr s z ⟨hk0, rfl, v3, v4, rfl⟩ hw
      obtain ⟨hk, rfl⟩ := rngW_at hw
      have ek : 0 + (k : Int) * 1 = (k : Int) := by omega
      rw [ek]
      refine ⟨[some (wnd r t), some (bits (sws r t x k)), some (.int n), some (.int k), v4], rfl, ?_⟩
      have go : ∀ v : Bool, rest r t (sws r t x k) = v → ((sSeq (sAsg (eCall F_swept_row (aCons (eVar 0) (aCons (eVar 1) (aNil)))) (gNm 4)) (sSeq (sIf (bOf (e2 oEq (eVar 4) (eVar 1))) (sRet (eN oTup (aCons (eVar 3) (aCons (eVar 1) (aNil))))) (sNil)) (sAsg (eVar 4) (gNm 1))))) [some (wnd r t), some (bits (sws r t x k)), some (.int n), some (.int k), v4] s = if v = true then .rt (.tup [.int (k : Nat), bits (sws r t x k)]) s else .nx [some (wnd r t), some (bits (sws r t x (k + 1))), some (.int n), some (.int k), some (bits (sws r t x (k + 1)))] s := fun v hv => by
        refine asg_to (w := bits (sws r t x (k + 1))) (st1 := s) (by simp only [x_call, x_aCons, x_aNil, x_var, fg0, fg1, Out.bind_ok, rk k]) ?_
        simp only [fs4]
        have hv' : decide (sws r t x (k + 1) = sws r t x k) = v := hv
        cases v with
        | true =>
          refine if_rt (st1 := s) (by simp only [x_bOf, x_2, x_var, fg1, fg4, Out.bind_ok, eq_bits, hv']) ?_
          simp only [x_ret, x_N, x_aCons, x_aNil, x_var, fg1, fg3, Out.bind_ok, x_tup (show [W.int (k : Nat), bits (sws r t x k)].length ≤ 1000 by simp), Out.stm_ok, if_true]
        | false =>
          refine if_no (st1 := s) (st2 := s) (by simp only [x_bOf, x_2, x_var, fg1, fg4, Out.bind_ok, eq_bits, hv']) rfl ?_
          simp only [x_asgN, x_var, fg4, Out.stm_ok, fs1, Bool.false_eq_true, if_false]
      cases e : rest r t (sws r t x k) with
      | true => exact .inr ⟨_, _, (go true e).trans rfl, rfl, .inl ⟨k, by omega, hk0, e, rfl⟩⟩
      | false => exact .inl ⟨_, _, .inl ((go false e).trans rfl), fun j hj => by
          by_cases q : j = k
          · rw [q]; exact e
          · exact hk0 j (by omega), rfl, _, _, rfl⟩)
  have c := check_ok (p := "row") (st := st) (bits_ok x) (bits_row hb)
  have b := betw_ok (w := .int n) (lo := 0) (hi := 200) (st := st) plain_int
  have b2 : betw 0 200 (.int n) = true := by simp only [betw_int, Bool.and_eq_true, decide_eq_true_eq]; omega
  rw [b2] at b
  have fin : ∃ w, B_swept_till [some (wnd r t), some (bits x), some (.int n), none, none] st = .rt w st ∧ Till r t x n w := by
    unfold B_swept_till
    rcases hit with ⟨fr', st', e, h1, rfl, v3, v4, rfl⟩ | ⟨w, st', e, rfl, hw⟩
    · rw [rngW_len, Int.toNat_natCast] at h1 e
      have tail : ∀ v : Bool, rest r t (sws r t x n) = v → (sSeq (sIf (bOf (e2 oEq (eCall F_swept_row (aCons (eVar 0) (aCons (eVar 1) (aNil)))) (eVar 1))) (sRet (eN oTup (aCons (eVar 2) (aCons (eVar 1) (aNil))))) (sNil)) (sRet (eN oTup (aCons (e1 oNeg (eC (.int 1))) (aCons (eVar 1) (aNil)))))) [some (wnd r t), some (bits (sws r t x n)), some (.int n), v3, v4] st' = .rt (if v = true then .tup [.int (n : Nat), bits (sws r t x n)] else .tup [.int (-1), bits (sws r t x n)]) st' := fun v hv => by
        have hv' : decide (sws r t x (n + 1) = sws r t x n) = v := hv
        cases v with
        | true =>
          refine if_rt (st1 := st') (by simp only [x_bOf, x_2, x_call, x_aCons, x_aNil, x_var, fg0, fg1, Out.bind_ok, rk n, eq_bits, hv']) ?_
          simp only [x_ret, x_N, x_aCons, x_aNil, x_var, fg1, fg2, Out.bind_ok, x_tup (show [W.int (n : Nat), bits (sws r t x n)].length ≤ 1000 by simp), Out.stm_ok, if_true]
        | false =>
          refine if_no (st1 := st') (st2 := st') (by simp only [x_bOf, x_2, x_call, x_aCons, x_aNil, x_var, fg0, fg1, Out.bind_ok, rk n, eq_bits, hv']) rfl ?_
          simp only [x_ret, x_N, x_aCons, x_aNil, x_1, x_c, x_neg, x_var, fg1, Out.bind_ok, x_tup (show [W.int (-1), bits (sws r t x n)].length ≤ 1000 by simp), Out.stm_ok, Bool.false_eq_true, if_false]
      refine ⟨if rest r t (sws r t x n) = true then .tup [.int (n : Nat), bits (sws r t x n)] else .tup [.int (-1), bits (sws r t x n)], ?_, ?_⟩
      · refine exp_to (w := .non) (st1 := st') (by simp only [x_call, x_aCons, x_aNil, x_var, x_c, fg1, Out.bind_ok, c]) ?_
        refine if_no (st1 := st') (st2 := st') (by simp only [x_bNot, x_bOf, x_call, x_aCons, x_aNil, x_var, x_c, fg2, Out.bind_ok, b, Bool.not_true]) rfl ?_
        refine seq_to e ?_
        exact tail _ rfl
      · cases q : rest r t (sws r t x n) with
        | true => exact .inl ⟨n, Nat.le_refl _, h1, q, rfl⟩
        | false => exact .inr ⟨fun j hj => by
            by_cases z : j = n
            · rw [z]; exact q
            · exact h1 j (by omega), rfl⟩
    · refine ⟨w, ?_, hw⟩
      refine exp_to (w := .non) (st1 := st') (by simp only [x_call, x_aCons, x_aNil, x_var, x_c, fg1, Out.bind_ok, c]) ?_
      refine if_no (st1 := st') (st2 := st') (by simp only [x_bNot, x_bOf, x_call, x_aCons, x_aNil, x_var, x_c, fg2, Out.bind_ok, b, Bool.not_true]) rfl ?_
      exact seq_hit e
  obtain ⟨w, e, hw⟩ := fin
  exact ⟨w, mk_rt (st1 := st) e rfl, hw⟩
theorem law_till_ok {r n : Nat} {t x : List Int} {st : Sto} (hr : r ≤ 3) (bt : Bits t) (hb : Bits x) (ht : t.length = 2 ^ (2 * r + 1)) (hx : x.length ≤ 900) (hn : n ≤ 200) : ∃ w, F_law_till [.int r, .lst (t.map W.int), bits x, .int n] st = .ok w st ∧ Till r t x n w := by
  have sk := fun k => sws_ok (r := r) bt hb k
  have rk : ∀ k, F_law_swept [.int r, .lst (t.map W.int), bits (sws r t x k)] st = .ok (bits (sws r t x (k + 1))) st := fun k => law_swept_ok hr (sk k).2 ht (by rw [(sk k).1]; omega)
  have hit := x_forH (f := (iRng rg1 (aCons (e2 oAdd (eVar 3) (eC (.int 1))) (aNil)))) (g := (gNm 4)) (b := (sSeq (sAsg (eCall F_law_swept (aCons (eVar 0) (aCons (eVar 1) (aCons (eVar 2) (aNil))))) (gNm 5)) (sSeq (sIf (bOf (e2 oEq (eVar 5) (eVar 2))) (sRet (eN oTup (aCons (eVar 4) (aCons (eVar 2) (aNil))))) (sNil)) (sIf (bOf (e2 oLt (eVar 4) (eVar 3))) (sAsg (eVar 5) (gNm 2)) (sNil)))))
    (fr := [some (.int r), some (.lst (t.map W.int)), some (bits x), some (.int n), none, none]) (st := st) (st1 := st) (x := .non) (all := rngW 0 1 ((n : Int) + 1).toNat) (x_rng1 (by simp only [x_aCons, x_aNil, x_2, x_c, x_var, fg3, Out.bind_ok, x_add]) (by omega) (by omega))
    (fun k fr s => (∀ j, j < k → rest r t (sws r t x j) = false) ∧ s = st ∧ ∃ v4 v5, fr = [some (.int r), some (.lst (t.map W.int)), some (bits (sws r t x (min k n))), some (.int n), v4, v5]) (fun w s => s = st ∧ Till r t x n w) ⟨fun j h => absurd h (by omega), rfl, _, _, by rw [Nat.zero_min]; rfl⟩ (fun _ _ _ _ => trivial) (by
      rintro k fr s z ⟨hk0, rfl, v4, v5, rfl⟩ hw
      obtain ⟨hk, rfl⟩ := rngW_at hw
      have hkn : k ≤ n := by omega
      rw [Nat.min_eq_left hkn]
      have ek : 0 + (k : Int) * 1 = (k : Int) := by omega
      rw [ek]
      refine ⟨[some (.int r), some (.lst (t.map W.int)), some (bits (sws r t x k)), some (.int n), some (.int k), v5], rfl, ?_⟩
      have go : ∀ v : Bool, rest r t (sws r t x k) = v → ((sSeq (sAsg (eCall F_law_swept (aCons (eVar 0) (aCons (eVar 1) (aCons (eVar 2) (aNil))))) (gNm 5)) (sSeq (sIf (bOf (e2 oEq (eVar 5) (eVar 2))) (sRet (eN oTup (aCons (eVar 4) (aCons (eVar 2) (aNil))))) (sNil)) (sIf (bOf (e2 oLt (eVar 4) (eVar 3))) (sAsg (eVar 5) (gNm 2)) (sNil))))) [some (.int r), some (.lst (t.map W.int)), some (bits (sws r t x k)), some (.int n), some (.int k), v5] s = if v = true then .rt (.tup [.int (k : Nat), bits (sws r t x k)]) s else .nx [some (.int r), some (.lst (t.map W.int)), some (bits (sws r t x (min (k + 1) n))), some (.int n), some (.int k), some (bits (sws r t x (k + 1)))] s := fun v hv => by
        refine asg_to (w := bits (sws r t x (k + 1))) (st1 := s) (by simp only [x_call, x_aCons, x_aNil, x_var, fg0, fg1, fg2, Out.bind_ok, rk k]) ?_
        simp only [fs5]
        have hv' : decide (sws r t x (k + 1) = sws r t x k) = v := hv
        cases v with
        | true =>
          refine if_rt (st1 := s) (by simp only [x_bOf, x_2, x_var, fg2, fg5, Out.bind_ok, eq_bits, hv']) ?_
          simp only [x_ret, x_N, x_aCons, x_aNil, x_var, fg2, fg4, Out.bind_ok, x_tup (show [W.int (k : Nat), bits (sws r t x k)].length ≤ 1000 by simp), Out.stm_ok, if_true]
        | false =>
          refine if_no (st1 := s) (st2 := s) (by simp only [x_bOf, x_2, x_var, fg2, fg5, Out.bind_ok, eq_bits, hv']) rfl ?_
          by_cases q : k < n
          · have qq : decide ((k : Int) < (n : Int)) = true := decide_eq_true (by omega)
            rw [Nat.min_eq_left (by omega : k + 1 ≤ n)]
            simp only [x_if, x_bOf, x_2, x_var, fg3, fg4, fg5, Out.bind_ok, x_lt, qq, Out.stm_ok, if_true, x_asgN, fs2, Bool.false_eq_true, if_false]
          · have qq : decide ((k : Int) < (n : Int)) = false := decide_eq_false (by omega)
            have e : min (k + 1) n = k := by omega
            rw [e]
            simp only [x_if, x_bOf, x_2, x_var, fg3, fg4, Out.bind_ok, x_lt, qq, Out.stm_ok, Bool.false_eq_true, if_false]
            rfl
      cases e : rest r t (sws r t x k) with
      | true => exact .inr ⟨_, _, (go true e).trans rfl, rfl, .inl ⟨k, hkn, hk0, e, rfl⟩⟩
      | false => exact .inl ⟨_, _, .inl ((go false e).trans rfl), fun j hj => by
          by_cases q : j = k
          · rw [q]; exact e
          · exact hk0 j (by omega), rfl, _, _, rfl⟩)
  have fin : ∃ w, B_law_till [some (.int r), some (.lst (t.map W.int)), some (bits x), some (.int n), none, none] st = .rt w st ∧ Till r t x n w := by
    unfold B_law_till
    rcases hit with ⟨fr', st', e, h1, rfl, v4, v5, rfl⟩ | ⟨w, st', e, rfl, hw⟩
    · refine ⟨.tup [.int (-1), bits (sws r t x n)], ?_, .inr ⟨fun j hj => h1 j (by rw [rngW_len]; omega), rfl⟩⟩
      refine seq_to e ?_
      have em : min (rngW 0 1 ((n : Int) + 1).toNat).length n = n := by rw [rngW_len]; omega
      rw [em]
      simp only [x_ret, x_N, x_aCons, x_aNil, x_1, x_c, x_neg, x_var, fg2, Out.bind_ok, x_tup (show [W.int (-1), bits (sws r t x n)].length ≤ 1000 by simp), Out.stm_ok]
    · exact ⟨w, seq_hit e, hw⟩
  obtain ⟨w, e, hw⟩ := fin
  exact ⟨w, mk_rt (st1 := st) e rfl, hw⟩
/-! ## the window that changes nothing -/
theorem eq_lsts {a b : List Int} {st : Sto} : oEq (.lst (a.map W.int)) (.lst (b.map W.int)) st = .ok (.bl (decide (a = b))) st := by
  have p : ∀ c : List Int, pdT st (.lst (c.map W.int)) = some (.list (c.map .int)) := fun c => by
    show (pdWs (c.map W.int)).map PyData.list = _
    rw [pd_ints]; rfl
  have s : ∀ c : List Int, SeqAt.shaped (.list (c.map .int)) = true := fun c => by
    unfold SeqAt.shaped
    have e1 : PyData.canLay0 (.list (c.map .int)) = true := by
      simp only [PyData.canLay0]; exact lay_ints c
    have e2' : PyData.depth (.list (c.map .int)) = 1 := by
      simp only [PyData.depth, depth_ints]
    rw [e1, e2']; rfl
  have q : PyData.eqv (.list (a.map .int)) (.list (b.map .int)) = decide (a = b) := eqv_ints a b
  unfold oEq eqW
  rw [p, p]
  simp only [s, q]
  rfl
def midL (r : Nat) : List Int := (sortT (rowsL (2 * r + 1))).map fun l => l.getD r 0
theorem is_same_ok {r : Nat} {t : List Int} {st : Sto} (hr : r ≤ 3) : F_law_is_same [.lst (t.map W.int), .int r] st = .ok (.bl (decide (t = midL r))) st := by
  refine mk_rt (st1 := st) ?_ rfl
  show B_law_is_same [some (.lst (t.map W.int)), some (.int r), none, none] st = _
  unfold B_law_is_same
  have z1 : eLc (iSeq (eVar 0)) (gNm 2) [2] (tTrue) (eN oInt (aCons (eVar 2) (aNil))) [some (.lst (t.map W.int)), some (.int r), none, none] st = .ok (.lst (t.map W.int)) st := by
    refine x_lc (st1 := st) (x := .lst (t.map W.int)) (all := t.map W.int) (by simp) ?_
    exact lc_mapA (x := .lst (t.map W.int)) trivial W.int W.int t fun i _ => ⟨[some (.lst (t.map W.int)), some (.int r), some (.int i), none], rfl, rfl, rfl⟩
  have mu : oMul (.int 2) (.int r) st = .ok (.int (2 * (r : Int))) st := x_mulL (by decide)
  have rs := rows_sorted (n := 2 * r + 1) (st := st) (by omega)
  have ec : ((2 * r + 1 : Nat) : Int) = 2 * (r : Int) + 1 := by omega
  rw [ec] at rs
  have z2 : eLc (iSeq (eCall F_law_rows (aCons (e2 oAdd (e2 oMul (eC (.int 2)) (eVar 1)) (eC (.int 1))) (aNil)))) (gNm 3) [3] (tTrue) (e2 oIx (eVar 3) (eVar 1)) [some (.lst (t.map W.int)), some (.int r), none, none] st = .ok (.lst ((midL r).map W.int)) st := by
    refine x_lc (st1 := st) (x := .lst ((sortT (rowsL (2 * r + 1))).map bits)) (all := (sortT (rowsL (2 * r + 1))).map bits) (by simp only [x_iSeq, x_call, x_aCons, x_aNil, x_2, x_c, x_var, fg1, Out.bind_ok, mu, x_add, rs]; rfl) ?_
    unfold midL
    rw [List.map_map]
    refine lc_mapA (x := .lst ((sortT (rowsL (2 * r + 1))).map bits)) trivial bits _ _ fun l hl => ⟨[some (.lst (t.map W.int)), some (.int r), none, some (bits l)], rfl, rfl, ?_⟩
    have hl' := (rowsL_ok _ l (sort_mem hl)).1
    simp only [x_2, x_var, fg1, fg3, Out.bind_ok, bits_ix (show r < l.length by omega)]
    rfl
  simp only [x_ret, x_2, z1, z2, Out.bind_ok, eq_lsts, Out.stm_ok]
theorem mid_iff {r : Nat} {t : List Int} (ht : t.length = 2 ^ (2 * r + 1)) : t = midL r ↔ ∀ l ∈ rowsL (2 * r + 1), t.getD (num l).toNat 0 = l.getD r 0 := by
  have at_ : ∀ l, l.length = 2 * r + 1 → Bits l → (midL r).getD (num l).toNat 0 = l.getD r 0 := fun l hl hb => by
    obtain ⟨h0, h1⟩ := num_bd hb
    rw [hl] at h1
    have hk : (num l).toNat < 2 ^ (2 * r + 1) := by
      have e : ((2 ^ (2 * r + 1) : Nat) : Int) = 2 ^ (2 * r + 1) := by push_cast; rfl
      omega
    unfold midL
    rw [rows_nat, List.getD_eq_getElem?_getD, List.getElem?_map, natL_at hk]
    have e : (((num l).toNat : Nat) : Int) = num l := by omega
    rw [e]
    have d := digs_num hb
    rw [hl] at d
    rw [d]; rfl
  have ml : (midL r).length = 2 ^ (2 * r + 1) := by unfold midL; rw [List.length_map, sort_len, rowsL_len]
  constructor
  · intro e l hl
    obtain ⟨h1, h2⟩ := rowsL_ok _ l hl
    rw [e]; exact at_ l h1 h2
  · intro h
    apply List.ext_getElem?
    intro k
    by_cases q : k < 2 ^ (2 * r + 1)
    · have z := natL_mem (List.mem_of_getElem? (natL_at q))
      have hm : (digs (k : Int) (2 * r + 1)).reverse ∈ rowsL (2 * r + 1) := mem_rowsL z.1 z.2
      have e1' := h _ hm
      have e2' := at_ _ z.1 z.2
      rw [num_dig q, Int.toNat_natCast] at e1' e2'
      rw [← e2', List.getD_eq_getElem?_getD, List.getD_eq_getElem?_getD, List.getElem?_eq_getElem (by omega), List.getElem?_eq_getElem (by omega)] at e1'
      rw [List.getElem?_eq_getElem (by omega), List.getElem?_eq_getElem (by omega)]
      exact congrArg some e1'
    · rw [List.getElem?_eq_none (by omega), List.getElem?_eq_none (by omega)]
theorem wide_mid {r : Nat} {x : List Int} {k : Nat} (h : k < x.length) : (cutB (wide r x) k (2 * r + 1)).getD r 0 = x.getD k 0 := by
  unfold cutB wide
  rw [List.getD_eq_getElem?_getD, List.getElem?_take, if_pos (by omega), List.getElem?_drop, List.getElem?_append_left (by simp [zeros]; omega), List.getElem?_append_right (by simp [zeros])]
  simp only [zeros, List.length_replicate]
  rw [show k + r - r = k by omega, List.getD_eq_getElem?_getD]
/-- all rows rest just under the window that changes nothing -/
theorem rest_mid {r : Nat} {t : List Int} (h : ∀ l ∈ rowsL (2 * r + 1), t.getD (num l).toNat 0 = l.getD r 0) {x : List Int} (hx : Bits x) : rest r t x = true := by
  unfold rest
  rw [decide_eq_true_iff]
  apply List.ext_getElem?
  intro k
  by_cases hk : k < x.length
  · have wl := wide_len r x
    have z := h (cutB (wide r x) k (2 * r + 1)) (mem_rowsL (cut_len (by omega)) (cut_bits (wide_bits hx)))
    unfold filt
    rw [List.getElem?_map, List.getElem?_range hk, Option.map_some, z, wide_mid hk, List.getD_eq_getElem?_getD, List.getElem?_eq_getElem hk, Option.getD_some]
  · rw [List.getElem?_eq_none (by unfold filt; simp; omega), List.getElem?_eq_none (by omega)]
theorem mid_rest {r n : Nat} {t : List Int} (hn : 2 * r + 1 ≤ n) (h : ∀ x ∈ rowsL n, rest r t x = true) : ∀ l ∈ rowsL (2 * r + 1), t.getD (num l).toNat 0 = l.getD r 0 := fun l hl => by
  obtain ⟨h1, h2⟩ := rowsL_ok _ l hl
  have xl : (l ++ zeros (n - (2 * r + 1))).length = n := by simp [zeros]; omega
  have xb : Bits (l ++ zeros (n - (2 * r + 1))) := bits_join h2 (zeros_bits _)
  have z := of_decide_eq_true (h _ (mem_rowsL xl xb))
  have y := congrArg (fun q : List Int => q.getD r 0) z
  have y : (filt (2 * r + 1) t (wide r (l ++ zeros (n - (2 * r + 1)))) (l ++ zeros (n - (2 * r + 1))).length).getD r 0 = (l ++ zeros (n - (2 * r + 1))).getD r 0 := y
  rw [xl, filt_at (by omega)] at y
  have c : cutB (wide r (l ++ zeros (n - (2 * r + 1)))) r (2 * r + 1) = l := by
    unfold cutB wide
    rw [List.append_assoc, List.drop_append_of_le_length (by simp [zeros])]
    simp only [zeros, List.drop_replicate, Nat.sub_self, List.replicate_zero, List.nil_append]
    rw [List.append_assoc, List.take_append_of_le_length (by omega), List.take_of_length_le (by omega)]
  rw [c] at y
  rw [y, List.getD_eq_getElem?_getD, List.getElem?_append_left (by omega), ← List.getD_eq_getElem?_getD]
theorem count_le (r : Nat) (t : List Int) (n : Nat) : count r t n ≤ 2 ^ n := by
  unfold count
  have := List.length_filter_le (rest r t) (rowsL n)
  rw [rowsL_len] at this
  exact this
theorem count_all {r n : Nat} {t : List Int} (ht : t.length = 2 ^ (2 * r + 1)) (hn : 2 * r + 1 ≤ n) : count r t n = 2 ^ n ↔ t = midL r := by
  rw [mid_iff ht]
  constructor
  · intro h
    refine mid_rest hn fun x hx => ?_
    unfold count at h
    rw [← rowsL_len n] at h
    exact List.length_filter_eq_length_iff.mp h x hx
  · intro h
    unfold count
    rw [List.filter_eq_self.mpr fun x hx => rest_mid h (rowsL_ok n x hx).2, rowsL_len]

end SL
namespace SL
open PySem PySem.Spec PyProof.Rows L2
theorem lc_filterA {α : Type} {x : W} {all : List W} {g : TgF} {t : SemB} {e : Sem} {fr : Fr} {st : Sto} (hs : srcOk x all st) (wf res : α → W) (p : α → Bool) : ∀ l : List α, (∀ a ∈ l, ∃ fr1, g (wf a) fr st = some fr1 ∧ t fr1 st = .ok (p a) st ∧ (p a = true → e fr1 st = .ok (res a) st)) → lcRun x all g t e fr (l.map wf) st = .ok ((l.filter p).map res) st
  | [], _ => by rw [List.map_nil]; unfold lcRun; rw [if_pos hs]; rfl
  | a :: l, h => by
    obtain ⟨fr1, h1, h2, h3⟩ := h a List.mem_cons_self
    have ih := lc_filterA hs wf res p l fun b hb => h b (List.mem_cons_of_mem _ hb)
    rw [List.map_cons]
    unfold lcRun
    rw [if_pos hs, h1]
    by_cases q : p a = true
    · rw [q] at h2
      simp only [h2, h3 q, ih]
      rw [List.filter_cons_of_pos q]; rfl
    · rw [Bool.not_eq_true] at q
      rw [q] at h2
      simp only [h2, ih]
      rw [List.filter_cons_of_neg (by simp [q])]
theorem same_ok {st : Sto} (ho : ∀ n, st.all (oldW n) = true) : F_same [] st = .ok (wnd ((0 : Nat) : Int) [0, 1]) st := by
  refine mk_rt (st1 := st) ?_ rfl
  show B_same [] st = _
  unfold B_same
  have mk := make_ok (r := ((0 : Nat) : Int)) (t := [0, 1]) (tw := bits [0, 1]) (st := st) (fr := []) (f := aCons (eC (.int 0)) (aCons (eN oTup (aCons (eC (.int 0)) (aCons (eC (.int 1)) (aNil)))) (aNil))) (ho _) (by simp [x_tup]; rfl) (init_good (by omega) (by intro n hn; simp at hn; omega) rfl (.inr (.inl rfl)))
  simp only [x_ret, mk, Out.stm_ok]
theorem same_mid : ([0, 1] : List Int) = midL 0 := by
  rw [mid_iff rfl]
  intro l hl
  obtain ⟨h1, h2⟩ := rowsL_ok _ l hl
  match l, h1 with
  | [c], _ =>
    rcases h2 c List.mem_cons_self with rfl | rfl <;> rfl
theorem ne_blB {a b : Bool} {st : Sto} : oNe (.bl a) (.bl b) st = .ok (.bl (!decide (a = b))) st := by cases a <;> cases b <;> rfl
theorem ne_int_ {a b : Int} {st : Sto} : oNe (.int a) (.int b) st = .ok (.bl (!decide (a = b))) st := x_neI
/-! ## refusals -/
theorem rests_er {w d : W} {st : Sto} (h1 : okRow d = true) (h2 : rowW d = false) : F_rests [w, d] st = .err (rowEr "row") st := by
  refine mk_er (st1 := st) (fr := [some w, some d]) ?_ rfl
  show B_rests [some w, some d] st = _
  unfold B_rests
  have c := check_er (p := "row") (st := st) h1 h2
  simp [c]
theorem till_er1 {w d b : W} {st : Sto} (h1 : okRow d = true) (h2 : rowW d = false) : F_swept_till [w, d, b] st = .err (rowEr "row") st := by
  refine mk_er (st1 := st) (fr := [some w, some d, some b, none, none]) ?_ rfl
  show B_swept_till [some w, some d, some b, none, none] st = _
  unfold B_swept_till
  have c := check_er (p := "row") (st := st) h1 h2
  simp [c]
theorem till_er2 {w b : W} {x : List Int} {st : Sto} (hx : Bits x) (h1 : plainW b = true) (h2 : betw 0 200 b = false) : F_swept_till [w, bits x, b] st = .err (numEr "most") st := by
  refine mk_er (st1 := st) (fr := [some w, some (bits x), some b, none, none]) ?_ rfl
  show B_swept_till [some w, some (bits x), some b, none, none] st = _
  unfold B_swept_till
  have c := check_ok (p := "row") (st := st) (bits_ok x) (bits_row hx)
  have b1 := betw_ok (w := b) (lo := 0) (hi := 200) (st := st) h1
  rw [h2] at b1
  simp [c, b1, sRaise]
  rfl
theorem many_er {w b : W} {st : Sto} (h1 : plainW b = true) (h2 : betw 0 200 b = false) : F_many_rest [w, b] st = .err (numEr "length") st := by
  refine mk_er (st1 := st) (fr := [some w, some b, none, none, none, none, none]) ?_ rfl
  show B_many_rest [some w, some b, none, none, none, none, none] st = _
  unfold B_many_rest
  have b1 := betw_ok (w := b) (lo := 0) (hi := 200) (st := st) h1
  rw [h2] at b1
  simp [b1, sRaise]
  rfl
theorem asked0 {a b d : W} {p : Str} {st : Sto} (h : F_rests [a, b] st = .err (rowEr p) st) : F_law_asked [.int 0, a, b, d] st = .ok (.lst [.str "row", .str p]) st := by
  refine mk_rt (st1 := st) ?_ rfl
  show B_law_asked [some (.int 0), some a, some b, some d, none, none] st = _
  unfold B_law_asked
  have t : exT "BadRow" "BadRow" = some true := by decide +kernel
  simp [sTry, h, rowEr, hRun, t, slOk, clrF, SOut.clr, eXf, lkp, x_lst]
theorem asked2 {a b d : W} {p : Str} {st : Sto} (h : F_swept_till [a, b, d] st = .err (rowEr p) st) : F_law_asked [.int 2, a, b, d] st = .ok (.lst [.str "row", .str p]) st := by
  refine mk_rt (st1 := st) ?_ rfl
  show B_law_asked [some (.int 2), some a, some b, some d, none, none] st = _
  unfold B_law_asked
  have t : exT "BadRow" "BadRow" = some true := by decide +kernel
  simp [sTry, h, rowEr, hRun, t, slOk, clrF, SOut.clr, eXf, lkp, x_lst]
theorem asked2n {a b d : W} {p : Str} {st : Sto} (h : F_swept_till [a, b, d] st = .err (numEr p) st) : F_law_asked [.int 2, a, b, d] st = .ok (.lst [.str "number", .str p]) st := by
  refine mk_rt (st1 := st) ?_ rfl
  show B_law_asked [some (.int 2), some a, some b, some d, none, none] st = _
  unfold B_law_asked
  have t : exT "BadRow" "BadNumber" = some false := by decide +kernel
  have t' : exT "BadNumber" "BadRow" = some false := by decide +kernel
  have t2 : exT "BadNumber" "BadNumber" = some true := by decide +kernel
  simp [sTry, h, numEr, hRun, t, t', t2, slOk, clrF, SOut.clr, eXf, lkp, x_lst]
theorem asked1n {a b d : W} {p : Str} {st : Sto} (h : F_many_rest [a, d] st = .err (numEr p) st) : F_law_asked [.int 1, a, b, d] st = .ok (.lst [.str "number", .str p]) st := by
  refine mk_rt (st1 := st) ?_ rfl
  show B_law_asked [some (.int 1), some a, some b, some d, none, none] st = _
  unfold B_law_asked
  have t : exT "BadRow" "BadNumber" = some false := by decide +kernel
  have t' : exT "BadNumber" "BadRow" = some false := by decide +kernel
  have t2 : exT "BadNumber" "BadNumber" = some true := by decide +kernel
  simp [sTry, h, numEr, hRun, t, t', t2, slOk, clrF, SOut.clr, eXf, lkp, x_lst]
theorem eq_two {a b : Str} {st : Sto} (h : PyData.strOk a = true) (h2 : PyData.strOk b = true) : oEq (.lst [.str a, .str b]) (.lst [.str a, .str b]) st = .ok (.bl true) st := by
  have z := ne_two (st := st) h h2
  unfold oNe at z
  unfold oEq
  cases e : eqW st (.lst [.str a, .str b]) (.lst [.str a, .str b]) with
  | none => rw [e] at z; cases z
  | some t =>
    rw [e] at z
    injection z with z _
    injection z with z
    cases t
    · cases z
    · rfl
/-! ## counts -/
theorem oks (w : W) (st : Sto) (h : okD 5 w = true) : F_law_same 5 [w, w] st = .ok (.bl true) st := same_of 5 _ _ _ (sameR_refl 5 w st h)
theorem till_okD {r n : Nat} {t x : List Int} {w : W} (hx : x.length ≤ 1000) (hb : Bits x) (bt : Bits t) (h : Till r t x n w) : okD 5 w = true := by
  have go : ∀ (i : Int) (k : Nat), okD 5 (.tup [.int i, bits (sws r t x k)]) = true := fun i k => by
    have sk := sws_ok (r := r) bt hb k
    show (decide (2 ≤ 1000000) && (true && ((decide (((sws r t x k).map W.int).length ≤ 1000000) && ((sws r t x k).map W.int).all (okD 3)) && true))) = true
    have dl : decide (((sws r t x k).map W.int).length ≤ 1000000) = true := decide_eq_true (by rw [List.length_map]; omega)
    rw [dl]
    have a : ((sws r t x k).map W.int).all (okD 3) = true := by
      rw [List.all_eq_true]
      intro w hw
      obtain ⟨i, _, rfl⟩ := List.mem_map.mp hw
      rfl
    rw [a]; rfl
  rcases h with ⟨k, _, _, _, rfl⟩ | ⟨_, rfl⟩
  · exact go _ _
  · exact go _ _

theorem law_true (ns : List Int) (_ : ns.length ≤ 63) (_ : ∀ z ∈ ns, Builtin.Int.intBits z ≤ 1048576) : ∃ st, F_law [.ro (ns.map W.int)] [] = .ok (.bl true) st := by
  have old : ∀ {c : Cel}, Pool c → ∀ n, [c].all (oldW n) = true := fun h n => by rw [List.all_cons, pool_old h]; rfl
  obtain ⟨c0, p0, pl⟩ := pool_ok ns
  obtain ⟨r, c1, hr, p1, dr1⟩ := radius_drawn p0
  obtain ⟨t, c2, bt, lt, p2, dr2⟩ := table_drawn p1 hr
  obtain ⟨n, c3, p3, n0, n1, dr3⟩ := draw_ok (m := 13) p2 (by decide) (log_small (by decide) (by decide))
  obtain ⟨x, c4, bx, lx, p4, dr4⟩ := row_drawn p3 n0 (by omega : n ≤ 1000)
  obtain ⟨a, c5, p5, a0, a1, dr5⟩ := draw_ok (m := 9) p4 (by decide) (log_small (by decide) (by decide))
  obtain ⟨A, rfl⟩ : ∃ A : Nat, a = (A : Int) := ⟨a.toNat, by omega⟩
  obtain ⟨b, c6, p6, b0, b1, dr6⟩ := draw_ok (m := 32) p5 (by decide) (log_small (by decide) (by decide))
  obtain ⟨B, hB⟩ : ∃ B : Nat, 9 + b = (B : Int) := ⟨(9 + b).toNat, by omega⟩
  obtain ⟨d, c7, p7, d0, d1, dr7⟩ := draw_ok (m := 10) p6 (by decide) (log_small (by decide) (by decide))
  obtain ⟨D, rfl⟩ : ∃ D : Nat, d = (D : Int) := ⟨d.toNat, by omega⟩
  obtain ⟨q, c8, p8, q0, q1, dr8⟩ := draw_ok (m := 20) p7 (by decide) (log_small (by decide) (by decide))
  obtain ⟨i1, c9, p9, i10, i11, dr9⟩ := draw_ok (m := 7) p8 (by decide) (log_small (by decide) (by decide))
  obtain ⟨i2, c10, p10, i20, i21, dr10⟩ := draw_ok (m := 8) p9 (by decide) (log_small (by decide) (by decide))
  obtain ⟨od, g1, g2⟩ := ix_mem (ws := [.non, .int 0, .lst (x.map W.int ++ [.int 1]), .str "01", .tup [.int 2], .tup [.bl true], .dct [] []]) i10 i11
  obtain ⟨bd, g3, g4⟩ := ix_mem (ws := [.int (-1), .int 201, .non, .bl true, .str "1", .lst [.int 1], .dct [] [], .int (10 ^ 20)]) i20 i21
  have odd : okRow od = true ∧ rowW od = false := by
    simp only [List.mem_cons, List.not_mem_nil, or_false] at g1
    rcases g1 with rfl | rfl | rfl | rfl | rfl | rfl | rfl
    · exact ⟨rfl, rfl⟩
    · exact ⟨rfl, rfl⟩
    · exact ⟨rfl, rfl⟩
    · exact ⟨rfl, rfl⟩
    · exact ⟨rfl, by decide⟩
    · exact ⟨rfl, by decide⟩
    · exact ⟨rfl, rfl⟩
  obtain ⟨ok1, no1⟩ := odd
  have bad : plainW bd = true ∧ betw 0 200 bd = false := by
    simp only [List.mem_cons, List.not_mem_nil, or_false] at g3
    rcases g3 with rfl | rfl | rfl | rfl | rfl | rfl | rfl | rfl <;> exact ⟨rfl, rfl⟩
  obtain ⟨ok2, no2⟩ := bad
  have s1 : PyData.strOk "row" = true := by decide +kernel
  have s2 : PyData.strOk "number" = true := by decide +kernel
  have s3 : PyData.strOk "length" = true := by decide +kernel
  have s4 : PyData.strOk "most" = true := by decide +kernel
  -- the count of the short rows
  have cl : ∀ (u7 u8 u9 u10 u11 u12 u13 : Option W), eLc (iSeq (eCall F_law_rows (aCons (eVar 6) (aNil)))) (gNm 14) [14] (bOf (e2 oEq (eCall F_law_swept (aCons (eVar 2) (aCons (eVar 3) (aCons (eVar 14) (aNil))))) (eVar 14))) (eVar 14) [some (.ro (ns.map W.int)), some (.cell 0), some (.int r), some (.lst (t.map W.int)), some (wnd r t), some (bits x), some (.int A), u7, u8, u9, u10, u11, u12, u13, none] [c5] = .ok (.lst (((sortT (rowsL A)).filter (rest r t)).map bits)) [c5] := fun u7 u8 u9 u10 u11 u12 u13 => by
    have rs := rows_sorted (n := A) (st := [c5]) (by omega)
    refine x_lc (st1 := [c5]) (x := .lst ((sortT (rowsL A)).map bits)) (all := (sortT (rowsL A)).map bits) (by simp only [x_iSeq, x_call, x_aCons, x_aNil, x_var, fg6, Out.bind_ok, rs]; rfl) ?_
    refine lc_filterA (x := .lst ((sortT (rowsL A)).map bits)) trivial bits bits (rest r t) (sortT (rowsL A)) fun l hl => ⟨[some (.ro (ns.map W.int)), some (.cell 0), some (.int r), some (.lst (t.map W.int)), some (wnd r t), some (bits x), some (.int A), u7, u8, u9, u10, u11, u12, u13, some (bits l)], rfl, ?_, fun _ => rfl⟩
    obtain ⟨h1, h2⟩ := rowsL_ok _ l (sort_mem hl)
    have ls := law_swept_ok (st := [c5]) hr h2 lt (by omega)
    simp only [x_bOf, x_2, x_call, x_aCons, x_aNil, x_var, fg2, fg3, fg14, Out.bind_ok, ls, eq_bits]
    rfl
  have cn : ((sortT (rowsL A)).filter (rest r t)).length = count r t A := by
    unfold count
    exact ((List.mergeSort_perm _ _).filter _).length_eq
  -- most
  obtain ⟨M, hM, hM2⟩ : ∃ M : Nat, M = (if q = 0 then 200 else D) ∧ M ≤ 200 := ⟨_, rfl, by split <;> omega⟩
  obtain ⟨w1, e1', t1⟩ := till_ok (n := M) (st := [c8]) hr bt bx lt (by omega) hM2 (old p8)
  obtain ⟨w2, e2', t2⟩ := law_till_ok (n := M) (st := [c8]) hr bt bx lt (by omega) hM2
  have w12 := till_one t1 t2
  subst w12
  have tk := till_okD (by omega : x.length ≤ 1000) bx bt t1
  have sA := oks (.int (count r t A : Nat)) [c5] rfl
  have sB := oks (.int (count r t B : Nat)) [c6] rfl
  have sT := oks w1 [c8] tk
  have sR := oks (.bl (rest r t x)) [c4] rfl
  have mA := many_ok (n := A) (st := [c5]) hr lt (by omega) (old p5)
  have mB := many_ok (n := B) (st := [c6]) hr lt (by omega) (old p6)
  have cB := law_count_ok (n := B) (st := [c6]) hr lt (by omega) (old p6)
  have m2 := many_ok (n := 200) (st := [c8]) hr lt (by omega) (old p8)
  have ms := many_ok (r := 0) (t := [0, 1]) (n := 200) (st := [c8]) (by omega) rfl (by omega) (old p8)
  have ca0 : count 0 [0, 1] 200 = 2 ^ 200 := (count_all (r := 0) (t := [0, 1]) rfl (by omega)).mpr same_mid
  rw [ca0] at ms
  have sam := same_ok (st := [c8]) (old p8)
  have iss := is_same_ok (t := t) (st := [c8]) hr
  have all2 := count_all (n := 200) lt (by omega : 2 * r + 1 ≤ 200)
  have cle := count_le r t 200
  -- the branch
  have branch : ∀ (u9 : Option W), ∃ v8 v9 v12 v13, v8 = some (.int (M : Nat)) ∧ (sIf (bOf (e2 oEq (eCall F_law_draw (aCons (eVar 1) (aCons (eC (.int 20)) (aNil)))) (eC (.int 0)))) (sSeq (sAsg (eC (.int 200)) (gNm 8)) (sSeq (sAsg (eC (.int 1)) (gNm 12)) (sSeq (sFor (iRng rg1 (aCons (eC (.int 200)) (aNil))) (gNm 9) (sAsg (e2 oMul (eVar 12) (eC (.int 2))) (gNm 12))) (sSeq (sIf (bOf (e2 oNe (eCall F_many_rest (aCons (eCall F_same aNil) (aCons (eC (.int 200)) (aNil)))) (eVar 12))) (sRet (eC (.bl false))) (sNil)) (sSeq (sAsg (eCall F_many_rest (aCons (eVar 4) (aCons (eC (.int 200)) (aNil)))) (gNm 13)) (sIf (bOr (bOf (e2 oLt (eVar 13) (eC (.int 0)))) (bOr (bOf (e2 oGt (eVar 13) (eVar 12))) (bOf (e2 oNe (e2 oEq (eVar 13) (eVar 12)) (eCall F_law_is_same (aCons (eVar 3) (aCons (eVar 2) (aNil)))))))) (sRet (eC (.bl false))) (sNil))))))) (sNil)) [some (.ro (ns.map W.int)), some (.cell 0), some (.int r), some (.lst (t.map W.int)), some (wnd r t), some (bits x), some (.int B), some (.int (count r t A : Nat)), some (.int D), u9, none, none, none, none, none] [c7] = .nx [some (.ro (ns.map W.int)), some (.cell 0), some (.int r), some (.lst (t.map W.int)), some (wnd r t), some (bits x), some (.int B), some (.int (count r t A : Nat)), v8, v9, none, none, v12, v13, none] [c8] := fun u9 => by
    by_cases z : q = 0
    · rw [if_pos z] at hM
      obtain ⟨fr', st', l1, v9, rfl, rfl⟩ := x_for (f := (iRng rg1 (aCons (eC (.int 200)) (aNil)))) (g := (gNm 9)) (b := (sAsg (e2 oMul (eVar 12) (eC (.int 2))) (gNm 12)))
        (fr := [some (.ro (ns.map W.int)), some (.cell 0), some (.int r), some (.lst (t.map W.int)), some (wnd r t), some (bits x), some (.int B), some (.int (count r t A : Nat)), some (.int 200), u9, none, none, some (.int 1), none, none]) (st := [c8]) (st1 := [c8]) (x := .non) (all := rngW 0 1 (200 : Int).toNat) (x_rng1 (by simp only [x_aCons, x_aNil, x_c, Out.bind_ok]) (by omega) (by omega))
        (fun k fr s => ∃ v9, fr = [some (.ro (ns.map W.int)), some (.cell 0), some (.int r), some (.lst (t.map W.int)), some (wnd r t), some (bits x), some (.int B), some (.int (count r t A : Nat)), some (.int 200), v9, none, none, some (.int ((2 ^ k : Nat) : Int)), none, none] ∧ s = [c8]) ⟨u9, rfl, rfl⟩ (fun _ _ _ _ => trivial) (by
          rintro k fr s w ⟨v9, rfl, rfl⟩ hw
          refine ⟨_, [some (.ro (ns.map W.int)), some (.cell 0), some (.int r), some (.lst (t.map W.int)), some (wnd r t), some (bits x), some (.int B), some (.int (count r t A : Nat)), some (.int 200), some w, none, none, some (.int ((2 ^ (k + 1) : Nat) : Int)), none, none], _, rfl, .inl ?_, some w, rfl, rfl⟩
          have mu : oMul (.int ((2 ^ k : Nat) : Int)) (.int 2) [c8] = .ok (.int (((2 ^ k : Nat) : Int) * 2)) [c8] := x_mulR (by decide)
          have e : ((2 ^ (k + 1) : Nat) : Int) = ((2 ^ k : Nat) : Int) * 2 := by rw [Nat.pow_succ]; exact Int.natCast_mul _ _
          rw [e]
          simp only [gNm, fs9, x_asgN, x_2, x_var, x_c, fg12, Out.bind_ok, mu, Out.stm_ok, fs12])
      have e200 : (rngW 0 1 (200 : Int).toNat).length = 200 := by rw [rngW_len]; rfl
      rw [e200] at l1
      refine ⟨some (.int ((200 : Nat) : Int)), v9, some (.int ((2 ^ 200 : Nat) : Int)), some (.int (count r t 200 : Nat)), by rw [hM], ?_⟩
      generalize hP : (2 ^ 200 : Nat) = P at *
      have go : (sSeq (sAsg (eC (.int 200)) (gNm 8)) (sSeq (sAsg (eC (.int 1)) (gNm 12)) (sSeq (sFor (iRng rg1 (aCons (eC (.int 200)) (aNil))) (gNm 9) (sAsg (e2 oMul (eVar 12) (eC (.int 2))) (gNm 12))) (sSeq (sIf (bOf (e2 oNe (eCall F_many_rest (aCons (eCall F_same aNil) (aCons (eC (.int 200)) (aNil)))) (eVar 12))) (sRet (eC (.bl false))) (sNil)) (sSeq (sAsg (eCall F_many_rest (aCons (eVar 4) (aCons (eC (.int 200)) (aNil)))) (gNm 13)) (sIf (bOr (bOf (e2 oLt (eVar 13) (eC (.int 0)))) (bOr (bOf (e2 oGt (eVar 13) (eVar 12))) (bOf (e2 oNe (e2 oEq (eVar 13) (eVar 12)) (eCall F_law_is_same (aCons (eVar 3) (aCons (eVar 2) (aNil)))))))) (sRet (eC (.bl false))) (sNil))))))) [some (.ro (ns.map W.int)), some (.cell 0), some (.int r), some (.lst (t.map W.int)), some (wnd r t), some (bits x), some (.int B), some (.int (count r t A : Nat)), some (.int D), u9, none, none, none, none, none] [c8] = .nx [some (.ro (ns.map W.int)), some (.cell 0), some (.int r), some (.lst (t.map W.int)), some (wnd r t), some (bits x), some (.int B), some (.int (count r t A : Nat)), some (.int ((200 : Nat) : Int)), v9, none, none, some (.int (P : Int)), some (.int (count r t 200 : Nat)), none] [c8] := by
        refine asg_to (w := .int 200) (st1 := [c8]) rfl ?_
        simp only [fs8]
        refine asg_to (w := .int 1) (st1 := [c8]) rfl ?_
        simp only [fs12]
        refine seq_to l1 ?_
        have ms' : F_many_rest [wnd ((0 : Nat) : Int) [0, 1], .int 200] [c8] = .ok (.int (P : Int)) [c8] := ms
        have m2' : F_many_rest [wnd r t, .int 200] [c8] = .ok (.int (count r t 200 : Nat)) [c8] := m2
        refine if_no (st1 := [c8]) (st2 := [c8]) (by simp only [x_bOf, x_2, x_call, x_aCons, x_aNil, x_c, x_var, fg12, Out.bind_ok, sam, ms', x_neI, decide_true, Bool.not_true]) rfl ?_
        refine asg_to (w := .int (count r t 200 : Nat)) (st1 := [c8]) (by simp only [x_call, x_aCons, x_aNil, x_c, x_var, fg4, Out.bind_ok, m2']) ?_
        simp only [fs13]
        have q1' : decide (((count r t 200 : Nat) : Int) < 0) = false := decide_eq_false (by omega)
        have q2' : decide ((P : Int) < ((count r t 200 : Nat) : Int)) = false := decide_eq_false (by omega)
        have q3' : decide (((count r t 200 : Nat) : Int) = (P : Int)) = decide (t = midL r) := decide_eq_decide.mpr ⟨fun h => all2.mp (by omega), fun h => by have := all2.mpr h; omega⟩
        simp only [x_if, x_bOr, x_bOf, x_2, x_call, x_aCons, x_aNil, x_c, x_var, fg2, fg3, fg12, fg13, Out.bind_ok, x_lt, q1', x_gt, q2', x_eqI, q3', iss, ne_blB, decide_true, Bool.not_true, Bool.false_eq_true, if_false, Out.stm_ok]
        rfl
      have te : (bOf (e2 oEq (eCall F_law_draw (aCons (eVar 1) (aCons (eC (.int 20)) (aNil)))) (eC (.int 0)))) [some (.ro (ns.map W.int)), some (.cell 0), some (.int r), some (.lst (t.map W.int)), some (wnd r t), some (bits x), some (.int B), some (.int (count r t A : Nat)), some (.int D), u9, none, none, none, none, none] [c7] = .ok true [c8] := by
        simp only [x_bOf, x_2, x_call, x_aCons, x_aNil, x_c, x_var, fg1, Out.bind_ok, dr8, x_eqI, decide_eq_true z]
      rw [x_if, te]
      simp only [Out.stm_ok, if_true]
      exact go
    · rw [if_neg z] at hM
      refine ⟨some (.int D), u9, none, none, by rw [hM], ?_⟩
      simp only [x_if, x_bOf, x_2, x_call, x_aCons, x_aNil, x_c, x_var, fg1, Out.bind_ok, dr8, x_eqI, decide_eq_false z, Out.stm_ok, Bool.false_eq_true, if_false]
      rfl
  obtain ⟨v8, v9, v12, v13, rfl, br⟩ := branch none
  obtain ⟨fr2, st2, l2, z9, rfl, rfl⟩ := x_for (f := (iRng rg1 (aCons (eC (.int 2)) (aNil)))) (g := (gNm 9)) (b := (sIf (bNot (bOf (eCall (F_law_same 5) (aCons (eCall F_swept_till (aCons (eVar 4) (aCons (eVar 5) (aCons (eVar 8) (aNil))))) (aCons (eCall F_law_till (aCons (eVar 2) (aCons (eVar 3) (aCons (eVar 5) (aCons (eVar 8) (aNil)))))) (aNil)))))) (sRet (eC (.bl false))) (sNil)))
    (fr := [some (.ro (ns.map W.int)), some (.cell 0), some (.int r), some (.lst (t.map W.int)), some (wnd r t), some (bits x), some (.int B), some (.int (count r t A : Nat)), some (.int (M : Nat)), v9, none, none, v12, v13, none]) (st := [c8]) (st1 := [c8]) (x := .non) (all := rngW 0 1 (2 : Int).toNat) (x_rng1 (by simp only [x_aCons, x_aNil, x_c, Out.bind_ok]) (by omega) (by omega))
    (fun k fr s => ∃ v9, fr = [some (.ro (ns.map W.int)), some (.cell 0), some (.int r), some (.lst (t.map W.int)), some (wnd r t), some (bits x), some (.int B), some (.int (count r t A : Nat)), some (.int (M : Nat)), v9, none, none, v12, v13, none] ∧ s = [c8]) ⟨v9, rfl, rfl⟩ (fun _ _ _ _ => trivial) (by
      rintro k fr s w ⟨v9, rfl, rfl⟩ hw
      refine ⟨_, [some (.ro (ns.map W.int)), some (.cell 0), some (.int r), some (.lst (t.map W.int)), some (wnd r t), some (bits x), some (.int B), some (.int (count r t A : Nat)), some (.int (M : Nat)), some w, none, none, v12, v13, none], _, rfl, .inl ?_, some w, rfl, rfl⟩
      simp only [gNm, fs9, x_if, x_bNot, x_bOf, x_call, x_aCons, x_aNil, x_var, fg2, fg3, fg4, fg5, fg8, Out.bind_ok, e1', e2', sT, Bool.not_true, Out.stm_ok]
      rfl)
  refine ⟨[], mk_rt3 (st1 := []) (ex := [c10]) ?_ rfl (fun _ _ => rfl) rfl⟩
  show B_law [some (.ro (ns.map W.int)), none, none, none, none, none, none, none, none, none, none, none, none, none, none] [] = _
  unfold B_law
  refine asg_to (w := .cell 0) (st1 := [c0]) (by simp [pl]) ?_
  simp only [fs1]
  refine asg_to (w := .int r) (st1 := [c1]) (by simp only [x_call, x_aCons, x_aNil, x_var, fg1, Out.bind_ok, dr1]) ?_
  simp only [fs2]
  refine asg_to (w := .lst (t.map W.int)) (st1 := [c2]) (by simp only [x_call, x_aCons, x_aNil, x_var, fg1, fg2, Out.bind_ok, dr2]) ?_
  simp only [fs3]
  refine asg_to (w := wnd r t) (st1 := [c2]) (make_ok (tw := .lst (t.map W.int)) (old p2 _) (by simp only [x_aCons, x_aNil, x_var, fg2, fg3, Out.bind_ok]) (init_good hr bt lt (.inl rfl))) ?_
  simp only [fs4]
  refine asg_to (w := bits x) (st1 := [c4]) (by simp only [x_call, x_aCons, x_aNil, x_c, x_var, fg1, Out.bind_ok, dr3, dr4]) ?_
  simp only [fs5]
  refine if_no (st1 := [c4]) (st2 := [c4]) ?_ rfl ?_
  · have re := rests_ok (st := [c4]) hr bx lt (by omega) (old p4)
    have ls := law_swept_ok (st := [c4]) hr bx lt (by omega)
    have eb : oEq (bits (filt (2 * r + 1) t (wide r x) x.length)) (bits x) [c4] = .ok (.bl (rest r t x)) [c4] := eq_bits
    simp only [x_bNot, x_bOf, x_2, x_call, x_aCons, x_aNil, x_var, fg2, fg3, fg4, fg5, Out.bind_ok, re, ls, eb, sR, Bool.not_true]
  refine asg_to (w := .int A) (st1 := [c5]) (by simp only [x_call, x_aCons, x_aNil, x_c, x_var, fg1, Out.bind_ok, dr5]) ?_
  simp only [fs6]
  refine asg_to (w := .int (count r t A : Nat)) (st1 := [c5]) ?_ ?_
  · have ol : oLen [.lst (((sortT (rowsL A)).filter (rest r t)).map bits)] [c5] = .ok (.int (count r t A : Nat)) [c5] := by
      rw [← cn]; simp
    simp only [x_N, x_aCons, x_aNil, cl, Out.bind_ok, ol]
  simp only [fs7]
  refine if_no (st1 := [c5]) (st2 := [c5]) (by simp only [x_bNot, x_bOf, x_call, x_aCons, x_aNil, x_var, fg4, fg6, fg7, Out.bind_ok, mA, sA, Bool.not_true]) rfl ?_
  refine asg_to (w := .int B) (st1 := [c6]) (by simp only [x_2, x_call, x_aCons, x_aNil, x_c, x_var, fg1, Out.bind_ok, dr6, x_add, hB]) ?_
  simp only [fs6]
  refine if_no (st1 := [c6]) (st2 := [c6]) (by simp only [x_bNot, x_bOf, x_call, x_aCons, x_aNil, x_var, fg2, fg3, fg4, fg6, Out.bind_ok, mB, cB, sB, Bool.not_true]) rfl ?_
  refine asg_to (w := .int D) (st1 := [c7]) (by simp only [x_call, x_aCons, x_aNil, x_c, x_var, fg1, Out.bind_ok, dr7]) ?_
  simp only [fs8]
  refine seq_to br ?_
  refine seq_to l2 ?_
  refine asg_to (w := od) (st1 := [c9]) ?_ ?_
  · have ol : oList [bits x] [c8] = .ok (.lst (x.map W.int)) [c8] := rfl
    have adl : oAdd (.lst (x.map W.int)) (.lst [.int 1]) [c8] = .ok (.lst (x.map W.int ++ [.int 1])) [c8] := if_pos (by unfold LINE; rw [List.length_map]; show _ + 1 ≤ _; omega)
    simp only [x_2, x_N, x_aCons, x_aNil, x_c, x_call, x_var, fg1, fg5, Out.bind_ok, ol, x_lst (show [W.int 1].length ≤ 1000 by simp), adl, x_tup (show [W.int 2].length ≤ 1000 by simp), x_tup (show [W.bl true].length ≤ 1000 by simp), x_lst (show ([.non, .int 0, .lst (x.map W.int ++ [.int 1]), .str "01", .tup [.int 2], .tup [.bl true], .dct [] []] : List W).length ≤ 1000 by simp), dr9]
    exact g2 _
  simp only [fs10]
  refine asg_to (w := bd) (st1 := [c10]) ?_ ?_
  · have pw : oPow (.int 10) (.int 20) [c9] = .ok (.int (10 ^ 20)) [c9] := x_pow (by decide)
    simp only [x_2, x_1, x_N, x_aCons, x_aNil, x_c, x_call, x_var, fg1, Out.bind_ok, x_neg, pw, x_lst (show [W.int 1].length ≤ 1000 by simp), x_lst (show ([.int (-1), .int 201, .non, .bl true, .str "1", .lst [.int 1], .dct [] [], .int (10 ^ 20)] : List W).length ≤ 1000 by simp), dr10]
    exact g4 _
  simp only [fs11]
  refine if_no (st1 := [c10]) (st2 := [c10]) ?_ rfl ?_
  · have a0' := asked0 (d := .int 0) (rests_er (w := wnd r t) (st := [c10]) ok1 no1)
    have a2' := asked2 (till_er1 (w := wnd r t) (b := bd) (st := [c10]) ok1 no1)
    have n1' := ne_two (st := [c10]) s1 s1
    simp only [x_bOr, x_bOf, x_2, x_call, x_aCons, x_aNil, x_N, x_c, x_var, fg4, fg10, fg11, Out.bind_ok, a0', a2', x_lst (show [W.str "row", W.str "row"].length ≤ 1000 by simp), n1']
    rfl
  have a1' := asked1n (b := bits x) (many_er (w := wnd r t) (st := [c10]) ok2 no2)
  have a2n := asked2n (till_er2 (w := wnd r t) (st := [c10]) bx ok2 no2)
  have e1n := eq_two (st := [c10]) s2 s3
  have e2n := eq_two (st := [c10]) s2 s4
  simp only [x_ret, x_and, x_2, x_call, x_aCons, x_aNil, x_N, x_c, x_var, fg4, fg5, fg11, Out.bind_ok, a1', a2n, x_lst (show [W.str "number", W.str "length"].length ≤ 1000 by simp), x_lst (show [W.str "number", W.str "most"].length ≤ 1000 by simp), e1n, e2n, if_true, Out.stm_ok]
  rfl

end SL
namespace SL
open PySem PySem.Spec PyProof.Rows L2
theorem exT_ok {K : PySem.W.Frag} {mg : Str → Option Value} {C_BadNumber C_LabelError C_BadRow C_BadWindow : Addr} (g_BadNumber : mg "BadNumber" = some (.ref C_BadNumber)) (g_LabelError : mg "LabelError" = some (.ref C_LabelError)) (g_BadRow : mg "BadRow" = some (.ref C_BadRow)) (g_BadWindow : mg "BadWindow" = some (.ref C_BadWindow)) (p_BadNumber_BadNumber : PySem.W.exmOne K (.ref C_BadNumber) (.ref C_BadNumber) = some true) (p_BadNumber_BadRow : PySem.W.exmOne K (.ref C_BadNumber) (.ref C_BadRow) = some false) (p_BadNumber_LabelError : PySem.W.exmOne K (.ref C_BadNumber) (.ref C_LabelError) = some true) (p_BadRow_BadNumber : PySem.W.exmOne K (.ref C_BadRow) (.ref C_BadNumber) = some false) (p_BadRow_BadRow : PySem.W.exmOne K (.ref C_BadRow) (.ref C_BadRow) = some true) (p_BadRow_LabelError : PySem.W.exmOne K (.ref C_BadRow) (.ref C_LabelError) = some true) (p_BadWindow_BadNumber : PySem.W.exmOne K (.ref C_BadWindow) (.ref C_BadNumber) = some false) (p_BadWindow_BadRow : PySem.W.exmOne K (.ref C_BadWindow) (.ref C_BadRow) = some false) (p_BadWindow_LabelError : PySem.W.exmOne K (.ref C_BadWindow) (.ref C_LabelError) = some true) : ExTOk K mg exT := by
  intro c c2 b h C C2 hc hc2
  unfold exT at h
  repeat' split at h
  all_goals first
    | (cases h; done)
    | (cases h; subst_vars; cases hc.symm.trans g_BadNumber; cases hc2.symm.trans g_BadNumber; exact p_BadNumber_BadNumber)
    | (cases h; subst_vars; cases hc.symm.trans g_BadNumber; cases hc2.symm.trans g_BadRow; exact p_BadNumber_BadRow)
    | (cases h; subst_vars; cases hc.symm.trans g_BadNumber; cases hc2.symm.trans g_LabelError; exact p_BadNumber_LabelError)
    | (cases h; subst_vars; cases hc.symm.trans g_BadRow; cases hc2.symm.trans g_BadNumber; exact p_BadRow_BadNumber)
    | (cases h; subst_vars; cases hc.symm.trans g_BadRow; cases hc2.symm.trans g_BadRow; exact p_BadRow_BadRow)
    | (cases h; subst_vars; cases hc.symm.trans g_BadRow; cases hc2.symm.trans g_LabelError; exact p_BadRow_LabelError)
    | (cases h; subst_vars; cases hc.symm.trans g_BadWindow; cases hc2.symm.trans g_BadNumber; exact p_BadWindow_BadNumber)
    | (cases h; subst_vars; cases hc.symm.trans g_BadWindow; cases hc2.symm.trans g_BadRow; exact p_BadWindow_BadRow)
    | (cases h; subst_vars; cases hc.symm.trans g_BadWindow; cases hc2.symm.trans g_LabelError; exact p_BadWindow_LabelError)
def spLaw (K : PySem.W.Frag) : Sp := fun vs H Q _ => ∃ (a : Addr) (ns : List Int), vs = [.ref a] ∧ SqL K H a (ns.map V.int) ∧ ns.length ≤ 63 ∧ (∀ z ∈ ns, Builtin.Int.intBits z ≤ 1048576) ∧ ∀ H', Q (.bl true) H'
theorem sp_law {K : PySem.W.Frag} {mg : Str → Option Value} (hl : ∀ ns : List Int, ns.length ≤ 63 → (∀ z ∈ ns, Builtin.Int.intBits z ≤ 1048576) → ∃ st, F_law [.ro (ns.map W.int)] [] = .ok (.bl true) st) : ∀ vs H Q E, spLaw K vs H Q E → spF K mg 1 F_law vs H Q E := by
  intro vs H Q E ⟨a, ns, e, hS, h1, h2, hq⟩
  obtain ⟨st, e2⟩ := hl ns h1 h2
  subst e
  exact spF_of hS e2 hq
theorem all_mk {l : PySem.W.OpenLaw} {w : World} {K : PySem.W.Frag} {h : Heap} {mg : Str → Option Value} {fa : Addr} (X : K.In h) (G : h.Ns mainGlobals mg) (hfa : mg "law" = some (.ref fa))
    {f0 : Addr} {od0 an0 : Option Addr} {sl0 : Array (Option Value)} {oc0 kV0 dc0 pm0 cd0 ct0 : Value}
    {f1 : Addr} {od1 an1 : Option Addr} {sl1 : Array (Option Value)} {oc1 kV1 dc1 pm1 cd1 ct1 : Value}
    {f2 : Addr} {od2 an2 : Option Addr} {sl2 : Array (Option Value)} {oc2 kV2 dc2 pm2 cd2 ct2 : Value}
    {f3 : Addr} {od3 an3 : Option Addr} {sl3 : Array (Option Value)} {oc3 kV3 dc3 pm3 cd3 ct3 : Value}
    {f4 : Addr} {od4 an4 : Option Addr} {sl4 : Array (Option Value)} {oc4 kV4 dc4 pm4 cd4 ct4 : Value}
    {f5 : Addr} {od5 an5 : Option Addr} {sl5 : Array (Option Value)} {oc5 kV5 dc5 pm5 cd5 ct5 : Value}
    {f6 : Addr} {od6 an6 : Option Addr} {sl6 : Array (Option Value)} {oc6 kV6 dc6 pm6 cd6 ct6 : Value}
    {f7 : Addr} {od7 an7 : Option Addr} {sl7 : Array (Option Value)} {oc7 kV7 dc7 pm7 cd7 ct7 : Value}
    {f8 : Addr} {od8 an8 : Option Addr} {sl8 : Array (Option Value)} {oc8 kV8 dc8 pm8 cd8 ct8 : Value}
    {f9 : Addr} {od9 an9 : Option Addr} {sl9 : Array (Option Value)} {oc9 kV9 dc9 pm9 cd9 ct9 : Value}
    {f10 : Addr} {od10 an10 : Option Addr} {sl10 : Array (Option Value)} {oc10 kV10 dc10 pm10 cd10 ct10 : Value}
    {f11 : Addr} {od11 an11 : Option Addr} {sl11 : Array (Option Value)} {oc11 kV11 dc11 pm11 cd11 ct11 : Value}
    {f12 : Addr} {od12 an12 : Option Addr} {sl12 : Array (Option Value)} {oc12 kV12 dc12 pm12 cd12 ct12 : Value}
    {f13 : Addr} {od13 an13 : Option Addr} {sl13 : Array (Option Value)} {oc13 kV13 dc13 pm13 cd13 ct13 : Value}
    {f14 : Addr} {od14 an14 : Option Addr} {sl14 : Array (Option Value)} {oc14 kV14 dc14 pm14 cd14 ct14 : Value}
    {f15 : Addr} {od15 an15 : Option Addr} {sl15 : Array (Option Value)} {oc15 kV15 dc15 pm15 cd15 ct15 : Value}
    {f16 : Addr} {od16 an16 : Option Addr} {sl16 : Array (Option Value)} {oc16 kV16 dc16 pm16 cd16 ct16 : Value}
    {f17 : Addr} {od17 an17 : Option Addr} {sl17 : Array (Option Value)} {oc17 kV17 dc17 pm17 cd17 ct17 : Value}
    {f18 : Addr} {od18 an18 : Option Addr} {sl18 : Array (Option Value)} {oc18 kV18 dc18 pm18 cd18 ct18 : Value}
    {f19 : Addr} {od19 an19 : Option Addr} {sl19 : Array (Option Value)} {oc19 kV19 dc19 pm19 cd19 ct19 : Value}
    {f20 : Addr} {od20 an20 : Option Addr} {sl20 : Array (Option Value)} {oc20 kV20 dc20 pm20 cd20 ct20 : Value}
    {f21 : Addr} {od21 an21 : Option Addr} {sl21 : Array (Option Value)} {oc21 kV21 dc21 pm21 cd21 ct21 : Value}
    {f22 : Addr} {od22 an22 : Option Addr} {sl22 : Array (Option Value)} {oc22 kV22 dc22 pm22 cd22 ct22 : Value}
    {f23 : Addr} {od23 an23 : Option Addr} {sl23 : Array (Option Value)} {oc23 kV23 dc23 pm23 cd23 ct23 : Value}
    {f24 : Addr} {od24 an24 : Option Addr} {sl24 : Array (Option Value)} {oc24 kV24 dc24 pm24 cd24 ct24 : Value}
    {f25 : Addr} {od25 an25 : Option Addr} {sl25 : Array (Option Value)} {oc25 kV25 dc25 pm25 cd25 ct25 : Value}
    {f26 : Addr} {od26 an26 : Option Addr} {sl26 : Array (Option Value)} {oc26 kV26 dc26 pm26 cd26 ct26 : Value}
    {f27 : Addr} {od27 an27 : Option Addr} {sl27 : Array (Option Value)} {oc27 kV27 dc27 pm27 cd27 ct27 : Value}
    {f28 : Addr} {od28 an28 : Option Addr} {sl28 : Array (Option Value)} {oc28 kV28 dc28 pm28 cd28 ct28 : Value}
    {f29 : Addr} {od29 an29 : Option Addr} {sl29 : Array (Option Value)} {oc29 kV29 dc29 pm29 cd29 ct29 : Value}
    {f30 : Addr} {od30 an30 : Option Addr} {sl30 : Array (Option Value)} {oc30 kV30 dc30 pm30 cd30 ct30 : Value}
    {f31 : Addr} {od31 an31 : Option Addr} {sl31 : Array (Option Value)} {oc31 kV31 dc31 pm31 cd31 ct31 : Value}
    {f32 : Addr} {od32 an32 : Option Addr} {sl32 : Array (Option Value)} {oc32 kV32 dc32 pm32 cd32 ct32 : Value}
    {t_MOST_LENGTH : Tok}
    {t_MOST_RADIUS : Tok}
    {t_MOST_SWEEPS : Tok}
    {C_Window : Addr}
    {C_BadNumber : Addr}
    {C_LabelError : Addr}
    {C_BadRow : Addr}
    {C_BadWindow : Addr}
    {nm_BadNumber qn_BadNumber : Str} {N_BadNumber : Addr} {bs_BadNumber : List Value} {sn_BadNumber : List Str} {sub_BadNumber : List Value} {ab_BadNumber : Bool} {col_BadNumber : Option Bool} {dd_BadNumber : Option Addr} {m0_BadNumber m1_BadNumber m2_BadNumber m3_BadNumber m5_BadNumber : Option Value}
    {fi_BadNumber : Addr} {odi_BadNumber ani_BadNumber : Option Addr} {sli_BadNumber : Array (Option Value)} {oci_BadNumber kVi_BadNumber dci_BadNumber pmi_BadNumber cdi_BadNumber cti_BadNumber : Value}
    {nm_BadRow qn_BadRow : Str} {N_BadRow : Addr} {bs_BadRow : List Value} {sn_BadRow : List Str} {sub_BadRow : List Value} {ab_BadRow : Bool} {col_BadRow : Option Bool} {dd_BadRow : Option Addr} {m0_BadRow m1_BadRow m2_BadRow m3_BadRow m5_BadRow : Option Value}
    {fi_BadRow : Addr} {odi_BadRow ani_BadRow : Option Addr} {sli_BadRow : Array (Option Value)} {oci_BadRow kVi_BadRow dci_BadRow pmi_BadRow cdi_BadRow cti_BadRow : Value}
    {nm_BadWindow qn_BadWindow : Str} {N_BadWindow : Addr} {bs_BadWindow : List Value} {sn_BadWindow : List Str} {sub_BadWindow : List Value} {ab_BadWindow : Bool} {col_BadWindow : Option Bool} {dd_BadWindow : Option Addr} {m0_BadWindow m1_BadWindow m2_BadWindow m3_BadWindow m5_BadWindow : Option Value}
    {fi_BadWindow : Addr} {odi_BadWindow ani_BadWindow : Option Addr} {sli_BadWindow : Array (Option Value)} {oci_BadWindow kVi_BadWindow dci_BadWindow pmi_BadWindow cdi_BadWindow cti_BadWindow : Value}
    (g_Window : PySem.W.nsIn K mainGlobals "Window" = some (some (.ref C_Window)))
    (g_BadNumber : PySem.W.nsIn K mainGlobals "BadNumber" = some (some (.ref C_BadNumber)))
    (g_LabelError : PySem.W.nsIn K mainGlobals "LabelError" = some (some (.ref C_LabelError)))
    (g_BadRow : PySem.W.nsIn K mainGlobals "BadRow" = some (some (.ref C_BadRow)))
    (g_BadWindow : PySem.W.nsIn K mainGlobals "BadWindow" = some (some (.ref C_BadWindow)))
    (a0 : PySem.W.nsIn K mainGlobals "is_integer" = some (some (.ref f0)))
    (l0 : K.lookup f0 = some ⟨oc0, od0, .func (PySem.W.fnOf "is_integer" "is_integer" (defArgs s_is_integer) (defBody s_is_integer) (defScope s_is_integer) .none kV0 dc0 pm0 an0 cd0 ct0), sl0⟩)
    (c0 : PySem.W.codeIn K cd0 "is_integer" = true)
    (k0 : PySem.W.keepIn K (.ref f0) = true)
    (a1 : PySem.W.nsIn K mainGlobals "is_between" = some (some (.ref f1)))
    (l1 : K.lookup f1 = some ⟨oc1, od1, .func (PySem.W.fnOf "is_between" "is_between" (defArgs s_is_between) (defBody s_is_between) (defScope s_is_between) .none kV1 dc1 pm1 an1 cd1 ct1), sl1⟩)
    (c1 : PySem.W.codeIn K cd1 "is_between" = true)
    (k1 : PySem.W.keepIn K (.ref f1) = true)
    (a2 : PySem.W.nsIn K mainGlobals "count_rows" = some (some (.ref f2)))
    (l2 : K.lookup f2 = some ⟨oc2, od2, .func (PySem.W.fnOf "count_rows" "count_rows" (defArgs s_count_rows) (defBody s_count_rows) (defScope s_count_rows) .none kV2 dc2 pm2 an2 cd2 ct2), sl2⟩)
    (c2 : PySem.W.codeIn K cd2 "count_rows" = true)
    (k2 : PySem.W.keepIn K (.ref f2) = true)
    (a3 : PySem.W.nsIn K mainGlobals "is_items" = some (some (.ref f3)))
    (l3 : K.lookup f3 = some ⟨oc3, od3, .func (PySem.W.fnOf "is_items" "is_items" (defArgs s_is_items) (defBody s_is_items) (defScope s_is_items) .none kV3 dc3 pm3 an3 cd3 ct3), sl3⟩)
    (c3 : PySem.W.codeIn K cd3 "is_items" = true)
    (k3 : PySem.W.keepIn K (.ref f3) = true)
    (a4 : PySem.W.nsIn K mainGlobals "span_of" = some (some (.ref f4)))
    (l4 : K.lookup f4 = some ⟨oc4, od4, .func (PySem.W.fnOf "span_of" "span_of" (defArgs s_span_of) (defBody s_span_of) (defScope s_span_of) .none kV4 dc4 pm4 an4 cd4 ct4), sl4⟩)
    (c4 : PySem.W.codeIn K cd4 "span_of" = true)
    (k4 : PySem.W.keepIn K (.ref f4) = true)
    (a5 : PySem.W.nsIn K mainGlobals "is_table" = some (some (.ref f5)))
    (l5 : K.lookup f5 = some ⟨oc5, od5, .func (PySem.W.fnOf "is_table" "is_table" (defArgs s_is_table) (defBody s_is_table) (defScope s_is_table) .none kV5 dc5 pm5 an5 cd5 ct5), sl5⟩)
    (c5 : PySem.W.codeIn K cd5 "is_table" = true)
    (k5 : PySem.W.keepIn K (.ref f5) = true)
    (a6 : PySem.W.findIn K (.ref C_Window) "__init__" = some (some (.ref f6)))
    (i6 : PySem.W.isFn K (.ref f6) = true)
    (l6 : K.lookup f6 = some ⟨oc6, od6, .func (PySem.W.fnOf "__init__" "Window.__init__" (defArgs s_Window___init__) (defBody s_Window___init__) (defScope s_Window___init__) .none kV6 dc6 pm6 an6 cd6 ct6), sl6⟩)
    (c6 : PySem.W.codeIn K cd6 "Window.__init__" = true)
    (k6 : PySem.W.keepIn K (.ref f6) = true)
    (a7 : PySem.W.nsIn K mainGlobals "longer_tails" = some (some (.ref f7)))
    (l7 : K.lookup f7 = some ⟨oc7, od7, .func (PySem.W.fnOf "longer_tails" "longer_tails" (defArgs s_longer_tails) (defBody s_longer_tails) (defScope s_longer_tails) .none kV7 dc7 pm7 an7 cd7 ct7), sl7⟩)
    (c7 : PySem.W.codeIn K cd7 "longer_tails" = true)
    (k7 : PySem.W.keepIn K (.ref f7) = true)
    (a8 : PySem.W.nsIn K mainGlobals "cell_number" = some (some (.ref f8)))
    (l8 : K.lookup f8 = some ⟨oc8, od8, .func (PySem.W.fnOf "cell_number" "cell_number" (defArgs s_cell_number) (defBody s_cell_number) (defScope s_cell_number) .none kV8 dc8 pm8 an8 cd8 ct8), sl8⟩)
    (c8 : PySem.W.codeIn K cd8 "cell_number" = true)
    (k8 : PySem.W.keepIn K (.ref f8) = true)
    (a9 : PySem.W.nsIn K mainGlobals "filtered" = some (some (.ref f9)))
    (l9 : K.lookup f9 = some ⟨oc9, od9, .func (PySem.W.fnOf "filtered" "filtered" (defArgs s_filtered) (defBody s_filtered) (defScope s_filtered) .none kV9 dc9 pm9 an9 cd9 ct9), sl9⟩)
    (c9 : PySem.W.codeIn K cd9 "filtered" = true)
    (k9 : PySem.W.keepIn K (.ref f9) = true)
    (a10 : PySem.W.nsIn K mainGlobals "resting_behind" = some (some (.ref f10)))
    (l10 : K.lookup f10 = some ⟨oc10, od10, .func (PySem.W.fnOf "resting_behind" "resting_behind" (defArgs s_resting_behind) (defBody s_resting_behind) (defScope s_resting_behind) .none kV10 dc10 pm10 an10 cd10 ct10), sl10⟩)
    (c10 : PySem.W.codeIn K cd10 "resting_behind" = true)
    (k10 : PySem.W.keepIn K (.ref f10) = true)
    (a11 : PySem.W.nsIn K mainGlobals "many_rest" = some (some (.ref f11)))
    (l11 : K.lookup f11 = some ⟨oc11, od11, .func (PySem.W.fnOf "many_rest" "many_rest" (defArgs s_many_rest) (defBody s_many_rest) (defScope s_many_rest) .none kV11 dc11 pm11 an11 cd11 ct11), sl11⟩)
    (c11 : PySem.W.codeIn K cd11 "many_rest" = true)
    (k11 : PySem.W.keepIn K (.ref f11) = true)
    (a12 : PySem.W.nsIn K mainGlobals "is_row" = some (some (.ref f12)))
    (l12 : K.lookup f12 = some ⟨oc12, od12, .func (PySem.W.fnOf "is_row" "is_row" (defArgs s_is_row) (defBody s_is_row) (defScope s_is_row) .none kV12 dc12 pm12 an12 cd12 ct12), sl12⟩)
    (c12 : PySem.W.codeIn K cd12 "is_row" = true)
    (k12 : PySem.W.keepIn K (.ref f12) = true)
    (a13 : PySem.W.nsIn K mainGlobals "check_row" = some (some (.ref f13)))
    (l13 : K.lookup f13 = some ⟨oc13, od13, .func (PySem.W.fnOf "check_row" "check_row" (defArgs s_check_row) (defBody s_check_row) (defScope s_check_row) .none kV13 dc13 pm13 an13 cd13 ct13), sl13⟩)
    (c13 : PySem.W.codeIn K cd13 "check_row" = true)
    (k13 : PySem.W.keepIn K (.ref f13) = true)
    (a14 : PySem.W.nsIn K mainGlobals "swept_row" = some (some (.ref f14)))
    (l14 : K.lookup f14 = some ⟨oc14, od14, .func (PySem.W.fnOf "swept_row" "swept_row" (defArgs s_swept_row) (defBody s_swept_row) (defScope s_swept_row) .none kV14 dc14 pm14 an14 cd14 ct14), sl14⟩)
    (c14 : PySem.W.codeIn K cd14 "swept_row" = true)
    (k14 : PySem.W.keepIn K (.ref f14) = true)
    (a15 : PySem.W.nsIn K mainGlobals "rests" = some (some (.ref f15)))
    (l15 : K.lookup f15 = some ⟨oc15, od15, .func (PySem.W.fnOf "rests" "rests" (defArgs s_rests) (defBody s_rests) (defScope s_rests) .none kV15 dc15 pm15 an15 cd15 ct15), sl15⟩)
    (c15 : PySem.W.codeIn K cd15 "rests" = true)
    (k15 : PySem.W.keepIn K (.ref f15) = true)
    (a16 : PySem.W.nsIn K mainGlobals "swept_till" = some (some (.ref f16)))
    (l16 : K.lookup f16 = some ⟨oc16, od16, .func (PySem.W.fnOf "swept_till" "swept_till" (defArgs s_swept_till) (defBody s_swept_till) (defScope s_swept_till) .none kV16 dc16 pm16 an16 cd16 ct16), sl16⟩)
    (c16 : PySem.W.codeIn K cd16 "swept_till" = true)
    (k16 : PySem.W.keepIn K (.ref f16) = true)
    (a17 : PySem.W.nsIn K mainGlobals "_law_asked" = some (some (.ref f17)))
    (l17 : K.lookup f17 = some ⟨oc17, od17, .func (PySem.W.fnOf "_law_asked" "_law_asked" (defArgs s_law_asked) (defBody s_law_asked) (defScope s_law_asked) .none kV17 dc17 pm17 an17 cd17 ct17), sl17⟩)
    (c17 : PySem.W.codeIn K cd17 "_law_asked" = true)
    (k17 : PySem.W.keepIn K (.ref f17) = true)
    (a18 : PySem.W.nsIn K mainGlobals "_law_number" = some (some (.ref f18)))
    (l18 : K.lookup f18 = some ⟨oc18, od18, .func (PySem.W.fnOf "_law_number" "_law_number" (defArgs s_law_number) (defBody s_law_number) (defScope s_law_number) .none kV18 dc18 pm18 an18 cd18 ct18), sl18⟩)
    (c18 : PySem.W.codeIn K cd18 "_law_number" = true)
    (k18 : PySem.W.keepIn K (.ref f18) = true)
    (a19 : PySem.W.nsIn K mainGlobals "_law_count" = some (some (.ref f19)))
    (l19 : K.lookup f19 = some ⟨oc19, od19, .func (PySem.W.fnOf "_law_count" "_law_count" (defArgs s_law_count) (defBody s_law_count) (defScope s_law_count) .none kV19 dc19 pm19 an19 cd19 ct19), sl19⟩)
    (c19 : PySem.W.codeIn K cd19 "_law_count" = true)
    (k19 : PySem.W.keepIn K (.ref f19) = true)
    (a20 : PySem.W.nsIn K mainGlobals "_law_draw" = some (some (.ref f20)))
    (l20 : K.lookup f20 = some ⟨oc20, od20, .func (PySem.W.fnOf "_law_draw" "_law_draw" (defArgs s_law_draw) (defBody s_law_draw) (defScope s_law_draw) .none kV20 dc20 pm20 an20 cd20 ct20), sl20⟩)
    (c20 : PySem.W.codeIn K cd20 "_law_draw" = true)
    (k20 : PySem.W.keepIn K (.ref f20) = true)
    (a21 : PySem.W.nsIn K mainGlobals "_law_hand" = some (some (.ref f21)))
    (l21 : K.lookup f21 = some ⟨oc21, od21, .func (PySem.W.fnOf "_law_hand" "_law_hand" (defArgs s_law_hand) (defBody s_law_hand) (defScope s_law_hand) .none kV21 dc21 pm21 an21 cd21 ct21), sl21⟩)
    (c21 : PySem.W.codeIn K cd21 "_law_hand" = true)
    (k21 : PySem.W.keepIn K (.ref f21) = true)
    (a22 : PySem.W.nsIn K mainGlobals "_law_rows" = some (some (.ref f22)))
    (l22 : K.lookup f22 = some ⟨oc22, od22, .func (PySem.W.fnOf "_law_rows" "_law_rows" (defArgs s_law_rows) (defBody s_law_rows) (defScope s_law_rows) .none kV22 dc22 pm22 an22 cd22 ct22), sl22⟩)
    (c22 : PySem.W.codeIn K cd22 "_law_rows" = true)
    (k22 : PySem.W.keepIn K (.ref f22) = true)
    (a23 : PySem.W.nsIn K mainGlobals "_law_is_same" = some (some (.ref f23)))
    (l23 : K.lookup f23 = some ⟨oc23, od23, .func (PySem.W.fnOf "_law_is_same" "_law_is_same" (defArgs s_law_is_same) (defBody s_law_is_same) (defScope s_law_is_same) .none kV23 dc23 pm23 an23 cd23 ct23), sl23⟩)
    (c23 : PySem.W.codeIn K cd23 "_law_is_same" = true)
    (k23 : PySem.W.keepIn K (.ref f23) = true)
    (a24 : PySem.W.nsIn K mainGlobals "_law_radius" = some (some (.ref f24)))
    (l24 : K.lookup f24 = some ⟨oc24, od24, .func (PySem.W.fnOf "_law_radius" "_law_radius" (defArgs s_law_radius) (defBody s_law_radius) (defScope s_law_radius) .none kV24 dc24 pm24 an24 cd24 ct24), sl24⟩)
    (c24 : PySem.W.codeIn K cd24 "_law_radius" = true)
    (k24 : PySem.W.keepIn K (.ref f24) = true)
    (a25 : PySem.W.nsIn K mainGlobals "_law_row" = some (some (.ref f25)))
    (l25 : K.lookup f25 = some ⟨oc25, od25, .func (PySem.W.fnOf "_law_row" "_law_row" (defArgs s_law_row) (defBody s_law_row) (defScope s_law_row) .none kV25 dc25 pm25 an25 cd25 ct25), sl25⟩)
    (c25 : PySem.W.codeIn K cd25 "_law_row" = true)
    (k25 : PySem.W.keepIn K (.ref f25) = true)
    (a26 : PySem.W.nsIn K mainGlobals "_law_same" = some (some (.ref f26)))
    (l26 : K.lookup f26 = some ⟨oc26, od26, .func (PySem.W.fnOf "_law_same" "_law_same" (defArgs s_law_same) (defBody s_law_same) (defScope s_law_same) .none kV26 dc26 pm26 an26 cd26 ct26), sl26⟩)
    (c26 : PySem.W.codeIn K cd26 "_law_same" = true)
    (k26 : PySem.W.keepIn K (.ref f26) = true)
    (a27 : PySem.W.nsIn K mainGlobals "_law_filtered" = some (some (.ref f27)))
    (l27 : K.lookup f27 = some ⟨oc27, od27, .func (PySem.W.fnOf "_law_filtered" "_law_filtered" (defArgs s_law_filtered) (defBody s_law_filtered) (defScope s_law_filtered) .none kV27 dc27 pm27 an27 cd27 ct27), sl27⟩)
    (c27 : PySem.W.codeIn K cd27 "_law_filtered" = true)
    (k27 : PySem.W.keepIn K (.ref f27) = true)
    (a28 : PySem.W.nsIn K mainGlobals "_law_swept" = some (some (.ref f28)))
    (l28 : K.lookup f28 = some ⟨oc28, od28, .func (PySem.W.fnOf "_law_swept" "_law_swept" (defArgs s_law_swept) (defBody s_law_swept) (defScope s_law_swept) .none kV28 dc28 pm28 an28 cd28 ct28), sl28⟩)
    (c28 : PySem.W.codeIn K cd28 "_law_swept" = true)
    (k28 : PySem.W.keepIn K (.ref f28) = true)
    (a29 : PySem.W.nsIn K mainGlobals "_law_table" = some (some (.ref f29)))
    (l29 : K.lookup f29 = some ⟨oc29, od29, .func (PySem.W.fnOf "_law_table" "_law_table" (defArgs s_law_table) (defBody s_law_table) (defScope s_law_table) .none kV29 dc29 pm29 an29 cd29 ct29), sl29⟩)
    (c29 : PySem.W.codeIn K cd29 "_law_table" = true)
    (k29 : PySem.W.keepIn K (.ref f29) = true)
    (a30 : PySem.W.nsIn K mainGlobals "_law_till" = some (some (.ref f30)))
    (l30 : K.lookup f30 = some ⟨oc30, od30, .func (PySem.W.fnOf "_law_till" "_law_till" (defArgs s_law_till) (defBody s_law_till) (defScope s_law_till) .none kV30 dc30 pm30 an30 cd30 ct30), sl30⟩)
    (c30 : PySem.W.codeIn K cd30 "_law_till" = true)
    (k30 : PySem.W.keepIn K (.ref f30) = true)
    (a31 : PySem.W.nsIn K mainGlobals "same" = some (some (.ref f31)))
    (l31 : K.lookup f31 = some ⟨oc31, od31, .func (PySem.W.fnOf "same" "same" (defArgs s_same) (defBody s_same) (defScope s_same) .none kV31 dc31 pm31 an31 cd31 ct31), sl31⟩)
    (c31 : PySem.W.codeIn K cd31 "same" = true)
    (k31 : PySem.W.keepIn K (.ref f31) = true)
    (a32 : PySem.W.nsIn K mainGlobals "law" = some (some (.ref f32)))
    (l32 : K.lookup f32 = some ⟨oc32, od32, .func (PySem.W.fnOf "law" "law" (defArgs s_law) (defBody s_law) (defScope s_law) .none kV32 dc32 pm32 an32 cd32 ct32), sl32⟩)
    (c32 : PySem.W.codeIn K cd32 "law" = true)
    (k32 : PySem.W.keepIn K (.ref f32) = true)
    (z_all : PySem.W.nsIn K mainGlobals "all" = some none)
    (z_bool : PySem.W.nsIn K mainGlobals "bool" = some none)
    (z_int : PySem.W.nsIn K mainGlobals "int" = some none)
    (z_isinstance : PySem.W.nsIn K mainGlobals "isinstance" = some none)
    (z_len : PySem.W.nsIn K mainGlobals "len" = some none)
    (z_list : PySem.W.nsIn K mainGlobals "list" = some none)
    (z_range : PySem.W.nsIn K mainGlobals "range" = some none)
    (z_sorted : PySem.W.nsIn K mainGlobals "sorted" = some none)
    (z_str : PySem.W.nsIn K mainGlobals "str" = some none)
    (z_sum : PySem.W.nsIn K mainGlobals "sum" = some none)
    (z_tuple : PySem.W.nsIn K mainGlobals "tuple" = some none)
    (q_MOST_LENGTH : PySem.W.nsIn K mainGlobals "MOST_LENGTH" = some (some (.int 200 t_MOST_LENGTH)))
    (q_MOST_RADIUS : PySem.W.nsIn K mainGlobals "MOST_RADIUS" = some (some (.int 3 t_MOST_RADIUS)))
    (q_MOST_SWEEPS : PySem.W.nsIn K mainGlobals "MOST_SWEEPS" = some (some (.int 200 t_MOST_SWEEPS)))
    (pg_Window : PySem.W.plainGet K C_Window Str.empty = true)
    (d_Window : PySem.W.hasDictIn K C_Window = true)
    (po_Window : PySem.W.plainOver K C_Window = true)
    (sa_Window : PySem.W.findIn K (.ref C_Window) "__setattr__" = some (some (.builtin "object.__setattr__")))
    (ha_Window : PySem.W.findIn K (.ref C_Window) "__class__" = some (some (.builtin "object.__class__")))
    (mo_Window : PySem.W.mroIn K C_Window (.type "object") = some true)
    (ic_Window : PySem.W.isClsIn K C_Window = true)
    (y_Window : PySem.W.typeIn K (.ref C_Window) = some (.type "type"))
    (mk_Window : PySem.W.makesIn K C_Window = true)
    (kc_Window : PySem.W.keepIn K (.ref C_Window) = true)
    (nf_Window_radius : PySem.W.findIn K (.ref C_Window) "radius" = some none)
    (nf_Window_table : PySem.W.findIn K (.ref C_Window) "table" = some none)
    (ocn : PySem.W.specialIn K (.builtin "object.__class__") "__get__" = some (some (.builtin "getset_descriptor.__get__")))
    (oct : PySem.W.takesIn K (.builtin "object.__class__") = some true)
    (e_BadNumber : PySem.W.subIn K (.ref C_BadNumber) (.type "BaseException") = some true)
    (y_BadNumber : PySem.W.typeIn K (.ref C_BadNumber) = some (.type "type"))
    (d_BadNumber : PySem.W.hasDictIn K C_BadNumber = true)
    (e_LabelError : PySem.W.subIn K (.ref C_LabelError) (.type "BaseException") = some true)
    (y_LabelError : PySem.W.typeIn K (.ref C_LabelError) = some (.type "type"))
    (d_LabelError : PySem.W.hasDictIn K C_LabelError = true)
    (e_BadRow : PySem.W.subIn K (.ref C_BadRow) (.type "BaseException") = some true)
    (y_BadRow : PySem.W.typeIn K (.ref C_BadRow) = some (.type "type"))
    (d_BadRow : PySem.W.hasDictIn K C_BadRow = true)
    (e_BadWindow : PySem.W.subIn K (.ref C_BadWindow) (.type "BaseException") = some true)
    (y_BadWindow : PySem.W.typeIn K (.ref C_BadWindow) = some (.type "type"))
    (d_BadWindow : PySem.W.hasDictIn K C_BadWindow = true)
    (x_BadNumber : K.lookup C_BadNumber = some (excClassObj nm_BadNumber qn_BadNumber C_BadNumber N_BadNumber bs_BadNumber [.ref C_LabelError, .type "ValueError", .type "Exception", .type "BaseException", .type "object"] true sn_BadNumber sub_BadNumber ab_BadNumber col_BadNumber dd_BadNumber m0_BadNumber m1_BadNumber m2_BadNumber m3_BadNumber m5_BadNumber "ValueError.__new__"))
    (sa_BadNumber : PySem.W.findIn K (.ref C_BadNumber) "__setattr__" = some (some (.builtin "object.__setattr__")))
    (kC_BadNumber : PySem.W.keepIn K (.ref C_BadNumber) = true)
    (nb_BadNumber_part : PySem.W.findIn K (.ref C_BadNumber) "part" = some none)
    (ia_BadNumber : PySem.W.findIn K (.ref C_BadNumber) "__init__" = some (some (.ref fi_BadNumber)))
    (it_BadNumber : PySem.W.typeIn K (.ref fi_BadNumber) = some (.type "function"))
    (il_BadNumber : K.lookup fi_BadNumber = some ⟨oci_BadNumber, odi_BadNumber, .func (PySem.W.fnOf "__init__" "BadNumber.__init__" (defArgs s_init_BadNumber) (defBody s_init_BadNumber) (defScope s_init_BadNumber) .none kVi_BadNumber dci_BadNumber pmi_BadNumber ani_BadNumber cdi_BadNumber cti_BadNumber), sli_BadNumber⟩)
    (ic_BadNumber : PySem.W.codeIn K cdi_BadNumber "BadNumber.__init__" = true)
    (ik_BadNumber : PySem.W.keepIn K (.ref fi_BadNumber) = true)
    (x_BadRow : K.lookup C_BadRow = some (excClassObj nm_BadRow qn_BadRow C_BadRow N_BadRow bs_BadRow [.ref C_LabelError, .type "ValueError", .type "Exception", .type "BaseException", .type "object"] true sn_BadRow sub_BadRow ab_BadRow col_BadRow dd_BadRow m0_BadRow m1_BadRow m2_BadRow m3_BadRow m5_BadRow "ValueError.__new__"))
    (sa_BadRow : PySem.W.findIn K (.ref C_BadRow) "__setattr__" = some (some (.builtin "object.__setattr__")))
    (kC_BadRow : PySem.W.keepIn K (.ref C_BadRow) = true)
    (nb_BadRow_part : PySem.W.findIn K (.ref C_BadRow) "part" = some none)
    (ia_BadRow : PySem.W.findIn K (.ref C_BadRow) "__init__" = some (some (.ref fi_BadRow)))
    (it_BadRow : PySem.W.typeIn K (.ref fi_BadRow) = some (.type "function"))
    (il_BadRow : K.lookup fi_BadRow = some ⟨oci_BadRow, odi_BadRow, .func (PySem.W.fnOf "__init__" "BadRow.__init__" (defArgs s_init_BadRow) (defBody s_init_BadRow) (defScope s_init_BadRow) .none kVi_BadRow dci_BadRow pmi_BadRow ani_BadRow cdi_BadRow cti_BadRow), sli_BadRow⟩)
    (ic_BadRow : PySem.W.codeIn K cdi_BadRow "BadRow.__init__" = true)
    (ik_BadRow : PySem.W.keepIn K (.ref fi_BadRow) = true)
    (x_BadWindow : K.lookup C_BadWindow = some (excClassObj nm_BadWindow qn_BadWindow C_BadWindow N_BadWindow bs_BadWindow [.ref C_LabelError, .type "ValueError", .type "Exception", .type "BaseException", .type "object"] true sn_BadWindow sub_BadWindow ab_BadWindow col_BadWindow dd_BadWindow m0_BadWindow m1_BadWindow m2_BadWindow m3_BadWindow m5_BadWindow "ValueError.__new__"))
    (sa_BadWindow : PySem.W.findIn K (.ref C_BadWindow) "__setattr__" = some (some (.builtin "object.__setattr__")))
    (kC_BadWindow : PySem.W.keepIn K (.ref C_BadWindow) = true)
    (nb_BadWindow_part : PySem.W.findIn K (.ref C_BadWindow) "part" = some none)
    (ia_BadWindow : PySem.W.findIn K (.ref C_BadWindow) "__init__" = some (some (.ref fi_BadWindow)))
    (it_BadWindow : PySem.W.typeIn K (.ref fi_BadWindow) = some (.type "function"))
    (il_BadWindow : K.lookup fi_BadWindow = some ⟨oci_BadWindow, odi_BadWindow, .func (PySem.W.fnOf "__init__" "BadWindow.__init__" (defArgs s_init_BadWindow) (defBody s_init_BadWindow) (defScope s_init_BadWindow) .none kVi_BadWindow dci_BadWindow pmi_BadWindow ani_BadWindow cdi_BadWindow cti_BadWindow), sli_BadWindow⟩)
    (ic_BadWindow : PySem.W.codeIn K cdi_BadWindow "BadWindow.__init__" = true)
    (ik_BadWindow : PySem.W.keepIn K (.ref fi_BadWindow) = true)
    (ga_BadNumber : PySem.W.findIn K (.ref C_BadNumber) "__getattribute__" = some (some (.builtin "BaseException.__getattribute__")))
    (gg_BadNumber : PySem.W.findIn K (.ref C_BadNumber) "__getattr__" = some none)
    (ga_BadRow : PySem.W.findIn K (.ref C_BadRow) "__getattribute__" = some (some (.builtin "BaseException.__getattribute__")))
    (gg_BadRow : PySem.W.findIn K (.ref C_BadRow) "__getattr__" = some none)
    (p_BadNumber_BadNumber : PySem.W.subIn K (.ref C_BadNumber) (.ref C_BadNumber) = some true)
    (p_BadNumber_BadRow : PySem.W.subIn K (.ref C_BadNumber) (.ref C_BadRow) = some false)
    (p_BadNumber_LabelError : PySem.W.subIn K (.ref C_BadNumber) (.ref C_LabelError) = some true)
    (p_BadRow_BadNumber : PySem.W.subIn K (.ref C_BadRow) (.ref C_BadNumber) = some false)
    (p_BadRow_BadRow : PySem.W.subIn K (.ref C_BadRow) (.ref C_BadRow) = some true)
    (p_BadRow_LabelError : PySem.W.subIn K (.ref C_BadRow) (.ref C_LabelError) = some true)
    (p_BadWindow_BadNumber : PySem.W.subIn K (.ref C_BadWindow) (.ref C_BadNumber) = some false)
    (p_BadWindow_BadRow : PySem.W.subIn K (.ref C_BadWindow) (.ref C_BadRow) = some false)
    (p_BadWindow_LabelError : PySem.W.subIn K (.ref C_BadWindow) (.ref C_LabelError) = some true)
    : ∃ fd : FuncData, (∀ (s : Shared) (v : Value), BindsTo s fd ⟨[v], []⟩ [("_law_script", v)]) ∧ ∀ base : Heap, K.In base → base.Ns mainGlobals mg → FnOk l.prog w K mg base (L2.CX l.prog w) 7 fa fd ["_law_script"] (spLaw K) := by
  have e := hfa.symm.trans (PySem.W.mg_of X G a32)
  cases e
  have gg_BadNumber_ := PySem.W.mg_of X G g_BadNumber
  have gg_LabelError_ := PySem.W.mg_of X G g_LabelError
  have gg_BadRow_ := PySem.W.mg_of X G g_BadRow
  have gg_BadWindow_ := PySem.W.mg_of X G g_BadWindow
  have gg_Window_ := PySem.W.mg_of X G g_Window
  have xt : ExTOk K mg exT := exT_ok gg_BadNumber_ gg_LabelError_ gg_BadRow_ gg_BadWindow_ (PySem.W.exm_ref e_BadNumber d_BadNumber y_BadNumber p_BadNumber_BadNumber) (PySem.W.exm_ref e_BadRow d_BadRow y_BadRow p_BadNumber_BadRow) (PySem.W.exm_ref e_LabelError d_LabelError y_LabelError p_BadNumber_LabelError) (PySem.W.exm_ref e_BadNumber d_BadNumber y_BadNumber p_BadRow_BadNumber) (PySem.W.exm_ref e_BadRow d_BadRow y_BadRow p_BadRow_BadRow) (PySem.W.exm_ref e_LabelError d_LabelError y_LabelError p_BadRow_LabelError) (PySem.W.exm_ref e_BadNumber d_BadNumber y_BadNumber p_BadWindow_BadNumber) (PySem.W.exm_ref e_BadRow d_BadRow y_BadRow p_BadWindow_BadRow) (PySem.W.exm_ref e_LabelError d_LabelError y_LabelError p_BadWindow_LabelError)
  have T : ∀ base : Heap, Txt l.prog w K mg base C_BadNumber C_LabelError C_BadRow C_BadWindow C_Window := fun base =>
    { n_all := PySem.W.mg_none_of X G z_all,
      n_bool := PySem.W.mg_none_of X G z_bool,
      n_int := PySem.W.mg_none_of X G z_int,
      n_isinstance := PySem.W.mg_none_of X G z_isinstance,
      n_len := PySem.W.mg_none_of X G z_len,
      n_list := PySem.W.mg_none_of X G z_list,
      n_range := PySem.W.mg_none_of X G z_range,
      n_sorted := PySem.W.mg_none_of X G z_sorted,
      n_str := PySem.W.mg_none_of X G z_str,
      n_sum := PySem.W.mg_none_of X G z_sum,
      n_tuple := PySem.W.mg_none_of X G z_tuple,
      c_MOST_LENGTH := ⟨_, PySem.W.mg_of X G q_MOST_LENGTH⟩,
      c_MOST_RADIUS := ⟨_, PySem.W.mg_of X G q_MOST_RADIUS⟩,
      c_MOST_SWEEPS := ⟨_, PySem.W.mg_of X G q_MOST_SWEEPS⟩,
      g_BadNumber := gg_BadNumber_,
      g_LabelError := gg_LabelError_,
      g_BadRow := gg_BadRow_,
      g_BadWindow := gg_BadWindow_,
      g_Window := gg_Window_,
      k_Window := ⟨⟨pg_Window, d_Window, po_Window, sa_Window⟩, ha_Window, ocn, oct, mo_Window, ic_Window, y_Window⟩,
      nf_Window_radius := nf_Window_radius,
      nf_Window_table := nf_Window_table,
      E_BadNumber := ⟨⟨_, _, _, _, ⟨⟨_, _, _, _, _, _, _, _, _, _, _, _, _, _, _, x_BadNumber, rfl⟩, sa_BadNumber, e_BadNumber, y_BadNumber, kC_BadNumber⟩, ia_BadNumber, it_BadNumber, init1 (fun_mk (st := s_init_BadNumber) il_BadNumber ic_BadNumber ik_BadNumber) ⟨rfl, rfl, rfl, by decide +kernel, rfl, by decide +kernel, by decide +kernel⟩ rfl ⟨⟨_, _, _, _, _, _, _, _, _, _, _, _, _, _, _, x_BadNumber, rfl⟩, sa_BadNumber, e_BadNumber, y_BadNumber, kC_BadNumber⟩ nb_BadNumber_part (by decide) (by decide), (fun_mk (st := s_init_BadNumber) il_BadNumber ic_BadNumber ik_BadNumber).binds (fun _ _ _ _ _ _ us hl => match us, hl with | [_, _], _ => rfl), gg_BadNumber_⟩⟩,
      E_BadRow := ⟨⟨_, _, _, _, ⟨⟨_, _, _, _, _, _, _, _, _, _, _, _, _, _, _, x_BadRow, rfl⟩, sa_BadRow, e_BadRow, y_BadRow, kC_BadRow⟩, ia_BadRow, it_BadRow, init1 (fun_mk (st := s_init_BadRow) il_BadRow ic_BadRow ik_BadRow) ⟨rfl, rfl, rfl, by decide +kernel, rfl, by decide +kernel, by decide +kernel⟩ rfl ⟨⟨_, _, _, _, _, _, _, _, _, _, _, _, _, _, _, x_BadRow, rfl⟩, sa_BadRow, e_BadRow, y_BadRow, kC_BadRow⟩ nb_BadRow_part (by decide) (by decide), (fun_mk (st := s_init_BadRow) il_BadRow ic_BadRow ik_BadRow).binds (fun _ _ _ _ _ _ us hl => match us, hl with | [_, _], _ => rfl), gg_BadRow_⟩⟩,
      E_BadWindow := ⟨⟨_, _, _, _, ⟨⟨_, _, _, _, _, _, _, _, _, _, _, _, _, _, _, x_BadWindow, rfl⟩, sa_BadWindow, e_BadWindow, y_BadWindow, kC_BadWindow⟩, ia_BadWindow, it_BadWindow, init1 (fun_mk (st := s_init_BadWindow) il_BadWindow ic_BadWindow ik_BadWindow) ⟨rfl, rfl, rfl, by decide +kernel, rfl, by decide +kernel, by decide +kernel⟩ rfl ⟨⟨_, _, _, _, _, _, _, _, _, _, _, _, _, _, _, x_BadWindow, rfl⟩, sa_BadWindow, e_BadWindow, y_BadWindow, kC_BadWindow⟩ nb_BadWindow_part (by decide) (by decide), (fun_mk (st := s_init_BadWindow) il_BadWindow ic_BadWindow ik_BadWindow).binds (fun _ _ _ _ _ _ us hl => match us, hl with | [_, _], _ => rfl), gg_BadWindow_⟩⟩,
      xf_BadNumber := ⟨ga_BadNumber, gg_BadNumber, e_BadNumber, d_BadNumber⟩,
      xn_BadNumber_part := nb_BadNumber_part,
      xf_BadRow := ⟨ga_BadRow, gg_BadRow, e_BadRow, d_BadRow⟩,
      xn_BadRow_part := nb_BadRow_part,
      ext := xt }
  have I0 := fun base => I_is_integer (T base) (fun_mk (st := s_is_integer) l0 c0 k0) (PySem.W.mg_of X G a0) ((fun_mk (st := s_is_integer) l0 c0 k0).binds (ps := ["value"]) fun _ _ _ _ _ _ us hl => match us, hl with | [_], _ => rfl)
  have I1 := fun base => I_is_between (T base) (I0 base) (fun_mk (st := s_is_between) l1 c1 k1) (PySem.W.mg_of X G a1) ((fun_mk (st := s_is_between) l1 c1 k1).binds (ps := ["value", "low", "high"]) fun _ _ _ _ _ _ us hl => match us, hl with | [_, _, _], _ => rfl)
  have I2 := fun base => I_count_rows (T base) (fun_mk (st := s_count_rows) l2 c2 k2) (PySem.W.mg_of X G a2) ((fun_mk (st := s_count_rows) l2 c2 k2).binds (ps := ["width"]) fun _ _ _ _ _ _ us hl => match us, hl with | [_], _ => rfl)
  have I3 := fun base => I_is_items (T base) (fun_mk (st := s_is_items) l3 c3 k3) (PySem.W.mg_of X G a3) ((fun_mk (st := s_is_items) l3 c3 k3).binds (ps := ["value"]) fun _ _ _ _ _ _ us hl => match us, hl with | [_], _ => rfl)
  have I4 := fun base => I_span_of (T base) (fun_mk (st := s_span_of) l4 c4 k4) (PySem.W.mg_of X G a4) ((fun_mk (st := s_span_of) l4 c4 k4).binds (ps := ["radius"]) fun _ _ _ _ _ _ us hl => match us, hl with | [_], _ => rfl)
  have I5 := fun base => I_is_table (T base) (I2 base) (I1 base) (I3 base) (I4 base) (fun_mk (st := s_is_table) l5 c5 k5) (PySem.W.mg_of X G a5) ((fun_mk (st := s_is_table) l5 c5 k5).binds (ps := ["value", "radius"]) fun _ _ _ _ _ _ us hl => match us, hl with | [_, _], _ => rfl)
  have I6 := fun base => MK_Window (T base) (I1 base) (I5 base) (fun_mk (st := s_Window___init__) l6 c6 k6) ⟨mk_Window, a6, i6, kc_Window⟩ ((fun_mk (st := s_Window___init__) l6 c6 k6).binds (ps := ["self", "radius", "table"]) fun _ _ _ _ _ _ us hl => match us, hl with | [_, _, _], _ => rfl)
  have I7 := fun base => I_longer_tails (T base) (fun_mk (st := s_longer_tails) l7 c7 k7) (PySem.W.mg_of X G a7) ((fun_mk (st := s_longer_tails) l7 c7 k7).binds (ps := ["counts", "cells"]) fun _ _ _ _ _ _ us hl => match us, hl with | [_, _], _ => rfl)
  have I8 := fun base => I_cell_number (T base) (fun_mk (st := s_cell_number) l8 c8 k8) (PySem.W.mg_of X G a8) ((fun_mk (st := s_cell_number) l8 c8 k8).binds (ps := ["row"]) fun _ _ _ _ _ _ us hl => match us, hl with | [_], _ => rfl)
  have I9 := fun base => I_filtered (T base) (I8 base) (I4 base) (fun_mk (st := s_filtered) l9 c9 k9) (PySem.W.mg_of X G a9) ((fun_mk (st := s_filtered) l9 c9 k9).binds (ps := ["window", "cells"]) fun _ _ _ _ _ _ us hl => match us, hl with | [_, _], _ => rfl)
  have I10 := fun base => I_resting_behind (T base) (I9 base) (fun_mk (st := s_resting_behind) l10 c10 k10) (PySem.W.mg_of X G a10) ((fun_mk (st := s_resting_behind) l10 c10 k10).binds (ps := ["window", "counts", "cells"]) fun _ _ _ _ _ _ us hl => match us, hl with | [_, _, _], _ => rfl)
  have I11 := fun base => I_many_rest (T base) (I1 base) (I7 base) (I10 base) (fun_mk (st := s_many_rest) l11 c11 k11) (PySem.W.mg_of X G a11) ((fun_mk (st := s_many_rest) l11 c11 k11).binds (ps := ["window", "length"]) fun _ _ _ _ _ _ us hl => match us, hl with | [_, _], _ => rfl)
  have I12 := fun base => I_is_row (T base) (I1 base) (fun_mk (st := s_is_row) l12 c12 k12) (PySem.W.mg_of X G a12) ((fun_mk (st := s_is_row) l12 c12 k12).binds (ps := ["thing"]) fun _ _ _ _ _ _ us hl => match us, hl with | [_], _ => rfl)
  have I13 := fun base => I_check_row (T base) (I12 base) (fun_mk (st := s_check_row) l13 c13 k13) (PySem.W.mg_of X G a13) ((fun_mk (st := s_check_row) l13 c13 k13).binds (ps := ["row", "part"]) fun _ _ _ _ _ _ us hl => match us, hl with | [_, _], _ => rfl)
  have I14 := fun base => I_swept_row (T base) (I9 base) (fun_mk (st := s_swept_row) l14 c14 k14) (PySem.W.mg_of X G a14) ((fun_mk (st := s_swept_row) l14 c14 k14).binds (ps := ["window", "row"]) fun _ _ _ _ _ _ us hl => match us, hl with | [_, _], _ => rfl)
  have I15 := fun base => I_rests (T base) (I13 base) (I14 base) (fun_mk (st := s_rests) l15 c15 k15) (PySem.W.mg_of X G a15) ((fun_mk (st := s_rests) l15 c15 k15).binds (ps := ["window", "row"]) fun _ _ _ _ _ _ us hl => match us, hl with | [_, _], _ => rfl)
  have I16 := fun base => I_swept_till (T base) (I13 base) (I1 base) (I14 base) (fun_mk (st := s_swept_till) l16 c16 k16) (PySem.W.mg_of X G a16) ((fun_mk (st := s_swept_till) l16 c16 k16).binds (ps := ["window", "row", "most"]) fun _ _ _ _ _ _ us hl => match us, hl with | [_, _, _], _ => rfl)
  have I17 := fun base => I_law_asked (T base) (I11 base) (I15 base) (I16 base) (fun_mk (st := s_law_asked) l17 c17 k17) (PySem.W.mg_of X G a17) ((fun_mk (st := s_law_asked) l17 c17 k17).binds (ps := ["_law_which", "_law_window", "_law_row_here", "_law_many"]) fun _ _ _ _ _ _ us hl => match us, hl with | [_, _, _, _], _ => rfl)
  have I18 := fun base => I_law_number (T base) (fun_mk (st := s_law_number) l18 c18 k18) (PySem.W.mg_of X G a18) ((fun_mk (st := s_law_number) l18 c18 k18).binds (ps := ["_law_row_here"]) fun _ _ _ _ _ _ us hl => match us, hl with | [_], _ => rfl)
  have I19 := fun base => I_law_count (T base) (I18 base) (fun_mk (st := s_law_count) l19 c19 k19) (PySem.W.mg_of X G a19) ((fun_mk (st := s_law_count) l19 c19 k19).binds (ps := ["_law_radius_here", "_law_table_here", "_law_length"]) fun _ _ _ _ _ _ us hl => match us, hl with | [_, _, _], _ => rfl)
  have I20 := fun base => I_law_draw (T base) (fun_mk (st := s_law_draw) l20 c20 k20) (PySem.W.mg_of X G a20) ((fun_mk (st := s_law_draw) l20 c20 k20).binds (ps := ["_law_hand_here", "_law_many"]) fun _ _ _ _ _ _ us hl => match us, hl with | [_, _], _ => rfl)
  have I21 := fun base => I_law_hand (T base) (fun_mk (st := s_law_hand) l21 c21 k21) (PySem.W.mg_of X G a21) ((fun_mk (st := s_law_hand) l21 c21 k21).binds (ps := ["_law_script"]) fun _ _ _ _ _ _ us hl => match us, hl with | [_], _ => rfl)
  have I22 := fun base => I_law_rows (T base) (fun_mk (st := s_law_rows) l22 c22 k22) (PySem.W.mg_of X G a22) ((fun_mk (st := s_law_rows) l22 c22 k22).binds (ps := ["_law_length"]) fun _ _ _ _ _ _ us hl => match us, hl with | [_], _ => rfl)
  have I23 := fun base => I_law_is_same (T base) (I22 base) (fun_mk (st := s_law_is_same) l23 c23 k23) (PySem.W.mg_of X G a23) ((fun_mk (st := s_law_is_same) l23 c23 k23).binds (ps := ["_law_table_here", "_law_radius_here"]) fun _ _ _ _ _ _ us hl => match us, hl with | [_, _], _ => rfl)
  have I24 := fun base => I_law_radius (T base) (I20 base) (fun_mk (st := s_law_radius) l24 c24 k24) (PySem.W.mg_of X G a24) ((fun_mk (st := s_law_radius) l24 c24 k24).binds (ps := ["_law_hand_here"]) fun _ _ _ _ _ _ us hl => match us, hl with | [_], _ => rfl)
  have I25 := fun base => I_law_row (T base) (I20 base) (fun_mk (st := s_law_row) l25 c25 k25) (PySem.W.mg_of X G a25) ((fun_mk (st := s_law_row) l25 c25 k25).binds (ps := ["_law_hand_here", "_law_length"]) fun _ _ _ _ _ _ us hl => match us, hl with | [_, _], _ => rfl)
  have I26 := fun base => I_law_same (T base) (fun_mk (st := s_law_same) l26 c26 k26) (PySem.W.mg_of X G a26) ((fun_mk (st := s_law_same) l26 c26 k26).binds (ps := ["_law_told", "_law_due"]) fun _ _ _ _ _ _ us hl => match us, hl with | [_, _], _ => rfl) 5
  have I27 := fun base => I_law_filtered (T base) (I18 base) (fun_mk (st := s_law_filtered) l27 c27 k27) (PySem.W.mg_of X G a27) ((fun_mk (st := s_law_filtered) l27 c27 k27).binds (ps := ["_law_radius_here", "_law_table_here", "_law_row_here"]) fun _ _ _ _ _ _ us hl => match us, hl with | [_, _, _], _ => rfl)
  have I28 := fun base => I_law_swept (T base) (I27 base) (fun_mk (st := s_law_swept) l28 c28 k28) (PySem.W.mg_of X G a28) ((fun_mk (st := s_law_swept) l28 c28 k28).binds (ps := ["_law_radius_here", "_law_table_here", "_law_row_here"]) fun _ _ _ _ _ _ us hl => match us, hl with | [_, _, _], _ => rfl)
  have I29 := fun base => I_law_table (T base) (I20 base) (I22 base) (fun_mk (st := s_law_table) l29 c29 k29) (PySem.W.mg_of X G a29) ((fun_mk (st := s_law_table) l29 c29 k29).binds (ps := ["_law_hand_here", "_law_radius_here"]) fun _ _ _ _ _ _ us hl => match us, hl with | [_, _], _ => rfl)
  have I30 := fun base => I_law_till (T base) (I28 base) (fun_mk (st := s_law_till) l30 c30 k30) (PySem.W.mg_of X G a30) ((fun_mk (st := s_law_till) l30 c30 k30).binds (ps := ["_law_radius_here", "_law_table_here", "_law_row_here", "_law_most"]) fun _ _ _ _ _ _ us hl => match us, hl with | [_, _, _, _], _ => rfl)
  have I31 := fun base => I_same (T base) (I6 base) (fun_mk (st := s_same) l31 c31 k31) (PySem.W.mg_of X G a31) ((fun_mk (st := s_same) l31 c31 k31).binds (ps := []) fun _ _ _ _ _ _ us hl => match us, hl with | [], _ => rfl)
  exact ⟨_, fun s v => .of_eq rfl, fun base _ _ => FnOk.imp (ok_law (T base) (I6 base) (I17 base) (I19 base) (I20 base) (I21 base) (I23 base) (I24 base) (I25 base) (I22 base) (I26 base) (I28 base) (I29 base) (I30 base) (I11 base) (I15 base) (I31 base) (I16 base) (fun_mk (st := s_law) l32 c32 k32)) (sp_law law_true)⟩
end SL
open PySem PySem.W PyProof.Rows
set_option maxRecDepth 100000 in
set_option maxHeartbeats 0 in
theorem PySem.Challenge.cw_surelabels_k33_rows_that_rest_holds : PySem.Challenge.rw_surelabels_k33_rows_that_rest.Holds := by
  w_on; o_law; k_head; (case hw => w_witness2)
  k_fill
  refine L2.walk_ofB (l := PySem.Challenge.rw_surelabels_k33_rows_that_rest) (n := 63) (k := 7) (x := "_law_script") (CX := fun w => L2.CX (PySem.Challenge.rw_surelabels_k33_rows_that_rest).prog w) (sp := fun w => SL.spLaw _) rfl (by decide) rfl ⟨rfl, by decide, by decide⟩ (fun w h Y => PySem.W.kIn_of Y) ?F (fun w H a ns h1 h2 _ hS => ⟨a, ns, rfl, hS, h1, h2, fun _ => rfl⟩) SL.cx_no
  case F =>
    intro w mg fa h KX G hmg
    refine' SL.all_mk KX G hmg ?g_Window ?g_BadNumber ?g_LabelError ?g_BadRow ?g_BadWindow ?a0 ?l0 ?c0 ?k0 ?a1 ?l1 ?c1 ?k1 ?a2 ?l2 ?c2 ?k2 ?a3 ?l3 ?c3 ?k3 ?a4 ?l4 ?c4 ?k4 ?a5 ?l5 ?c5 ?k5 ?a6 ?i6 ?l6 ?c6 ?k6 ?a7 ?l7 ?c7 ?k7 ?a8 ?l8 ?c8 ?k8 ?a9 ?l9 ?c9 ?k9 ?a10 ?l10 ?c10 ?k10 ?a11 ?l11 ?c11 ?k11 ?a12 ?l12 ?c12 ?k12 ?a13 ?l13 ?c13 ?k13 ?a14 ?l14 ?c14 ?k14 ?a15 ?l15 ?c15 ?k15 ?a16 ?l16 ?c16 ?k16 ?a17 ?l17 ?c17 ?k17 ?a18 ?l18 ?c18 ?k18 ?a19 ?l19 ?c19 ?k19 ?a20 ?l20 ?c20 ?k20 ?a21 ?l21 ?c21 ?k21 ?a22 ?l22 ?c22 ?k22 ?a23 ?l23 ?c23 ?k23 ?a24 ?l24 ?c24 ?k24 ?a25 ?l25 ?c25 ?k25 ?a26 ?l26 ?c26 ?k26 ?a27 ?l27 ?c27 ?k27 ?a28 ?l28 ?c28 ?k28 ?a29 ?l29 ?c29 ?k29 ?a30 ?l30 ?c30 ?k30 ?a31 ?l31 ?c31 ?k31 ?a32 ?l32 ?c32 ?k32 ?z_all ?z_bool ?z_int ?z_isinstance ?z_len ?z_list ?z_range ?z_sorted ?z_str ?z_sum ?z_tuple ?q_MOST_LENGTH ?q_MOST_RADIUS ?q_MOST_SWEEPS ?pg_Window ?d_Window ?po_Window ?sa_Window ?ha_Window ?mo_Window ?ic_Window ?y_Window ?mk_Window ?kc_Window ?nf_Window_radius ?nf_Window_table ?ocn ?oct ?e_BadNumber ?y_BadNumber ?d_BadNumber ?e_LabelError ?y_LabelError ?d_LabelError ?e_BadRow ?y_BadRow ?d_BadRow ?e_BadWindow ?y_BadWindow ?d_BadWindow ?x_BadNumber ?sa_BadNumber ?kC_BadNumber ?nb_BadNumber_part ?ia_BadNumber ?it_BadNumber ?il_BadNumber ?ic_BadNumber ?ik_BadNumber ?x_BadRow ?sa_BadRow ?kC_BadRow ?nb_BadRow_part ?ia_BadRow ?it_BadRow ?il_BadRow ?ic_BadRow ?ik_BadRow ?x_BadWindow ?sa_BadWindow ?kC_BadWindow ?nb_BadWindow_part ?ia_BadWindow ?it_BadWindow ?il_BadWindow ?ic_BadWindow ?ik_BadWindow ?ga_BadNumber ?gg_BadNumber ?ga_BadRow ?gg_BadRow ?p_BadNumber_BadNumber ?p_BadNumber_BadRow ?p_BadNumber_LabelError ?p_BadRow_BadNumber ?p_BadRow_BadRow ?p_BadRow_LabelError ?p_BadWindow_BadNumber ?p_BadWindow_BadRow ?p_BadWindow_LabelError
    (case g_Window => k_is)
    (case g_BadNumber => k_is)
    (case g_LabelError => k_is)
    (case g_BadRow => k_is)
    (case g_BadWindow => k_is)
    (case a0 => k_is)
    (case l0 => k_is)
    (case c0 => k_is)
    (case k0 => k_is)
    (case a1 => k_is)
    (case l1 => k_is)
    (case c1 => k_is)
    (case k1 => k_is)
    (case a2 => k_is)
    (case l2 => k_is)
    (case c2 => k_is)
    (case k2 => k_is)
    (case a3 => k_is)
    (case l3 => k_is)
    (case c3 => k_is)
    (case k3 => k_is)
    (case a4 => k_is)
    (case l4 => k_is)
    (case c4 => k_is)
    (case k4 => k_is)
    (case a5 => k_is)
    (case l5 => k_is)
    (case c5 => k_is)
    (case k5 => k_is)
    (case a6 => k_is)
    (case i6 => k_is)
    (case l6 => k_is)
    (case c6 => k_is)
    (case k6 => k_is)
    (case a7 => k_is)
    (case l7 => k_is)
    (case c7 => k_is)
    (case k7 => k_is)
    (case a8 => k_is)
    (case l8 => k_is)
    (case c8 => k_is)
    (case k8 => k_is)
    (case a9 => k_is)
    (case l9 => k_is)
    (case c9 => k_is)
    (case k9 => k_is)
    (case a10 => k_is)
    (case l10 => k_is)
    (case c10 => k_is)
    (case k10 => k_is)
    (case a11 => k_is)
    (case l11 => k_is)
    (case c11 => k_is)
    (case k11 => k_is)
    (case a12 => k_is)
    (case l12 => k_is)
    (case c12 => k_is)
    (case k12 => k_is)
    (case a13 => k_is)
    (case l13 => k_is)
    (case c13 => k_is)
    (case k13 => k_is)
    (case a14 => k_is)
    (case l14 => k_is)
    (case c14 => k_is)
    (case k14 => k_is)
    (case a15 => k_is)
    (case l15 => k_is)
    (case c15 => k_is)
    (case k15 => k_is)
    (case a16 => k_is)
    (case l16 => k_is)
    (case c16 => k_is)
    (case k16 => k_is)
    (case a17 => k_is)
    (case l17 => k_is)
    (case c17 => k_is)
    (case k17 => k_is)
    (case a18 => k_is)
    (case l18 => k_is)
    (case c18 => k_is)
    (case k18 => k_is)
    (case a19 => k_is)
    (case l19 => k_is)
    (case c19 => k_is)
    (case k19 => k_is)
    (case a20 => k_is)
    (case l20 => k_is)
    (case c20 => k_is)
    (case k20 => k_is)
    (case a21 => k_is)
    (case l21 => k_is)
    (case c21 => k_is)
    (case k21 => k_is)
    (case a22 => k_is)
    (case l22 => k_is)
    (case c22 => k_is)
    (case k22 => k_is)
    (case a23 => k_is)
    (case l23 => k_is)
    (case c23 => k_is)
    (case k23 => k_is)
    (case a24 => k_is)
    (case l24 => k_is)
    (case c24 => k_is)
    (case k24 => k_is)
    (case a25 => k_is)
    (case l25 => k_is)
    (case c25 => k_is)
    (case k25 => k_is)
    (case a26 => k_is)
    (case l26 => k_is)
    (case c26 => k_is)
    (case k26 => k_is)
    (case a27 => k_is)
    (case l27 => k_is)
    (case c27 => k_is)
    (case k27 => k_is)
    (case a28 => k_is)
    (case l28 => k_is)
    (case c28 => k_is)
    (case k28 => k_is)
    (case a29 => k_is)
    (case l29 => k_is)
    (case c29 => k_is)
    (case k29 => k_is)
    (case a30 => k_is)
    (case l30 => k_is)
    (case c30 => k_is)
    (case k30 => k_is)
    (case a31 => k_is)
    (case l31 => k_is)
    (case c31 => k_is)
    (case k31 => k_is)
    (case a32 => k_is)
    (case l32 => k_is)
    (case c32 => k_is)
    (case k32 => k_is)
    (case z_all => k_is)
    (case z_bool => k_is)
    (case z_int => k_is)
    (case z_isinstance => k_is)
    (case z_len => k_is)
    (case z_list => k_is)
    (case z_range => k_is)
    (case z_sorted => k_is)
    (case z_str => k_is)
    (case z_sum => k_is)
    (case z_tuple => k_is)
    (case q_MOST_LENGTH => k_is)
    (case q_MOST_RADIUS => k_is)
    (case q_MOST_SWEEPS => k_is)
    (case pg_Window => k_is)
    (case d_Window => k_is)
    (case po_Window => k_is)
    (case sa_Window => k_is)
    (case ha_Window => k_is)
    (case mo_Window => k_is)
    (case ic_Window => k_is)
    (case y_Window => k_is)
    (case mk_Window => k_is)
    (case kc_Window => k_is)
    (case nf_Window_radius => k_is)
    (case nf_Window_table => k_is)
    (case ocn => k_is)
    (case oct => k_is)
    (case e_BadNumber => k_is)
    (case y_BadNumber => k_is)
    (case d_BadNumber => k_is)
    (case e_LabelError => k_is)
    (case y_LabelError => k_is)
    (case d_LabelError => k_is)
    (case e_BadRow => k_is)
    (case y_BadRow => k_is)
    (case d_BadRow => k_is)
    (case e_BadWindow => k_is)
    (case y_BadWindow => k_is)
    (case d_BadWindow => k_is)
    (case x_BadNumber => k_is)
    (case sa_BadNumber => k_is)
    (case kC_BadNumber => k_is)
    (case nb_BadNumber_part => k_is)
    (case ia_BadNumber => k_is)
    (case it_BadNumber => k_is)
    (case il_BadNumber => k_is)
    (case ic_BadNumber => k_is)
    (case ik_BadNumber => k_is)
    (case x_BadRow => k_is)
    (case sa_BadRow => k_is)
    (case kC_BadRow => k_is)
    (case nb_BadRow_part => k_is)
    (case ia_BadRow => k_is)
    (case it_BadRow => k_is)
    (case il_BadRow => k_is)
    (case ic_BadRow => k_is)
    (case ik_BadRow => k_is)
    (case x_BadWindow => k_is)
    (case sa_BadWindow => k_is)
    (case kC_BadWindow => k_is)
    (case nb_BadWindow_part => k_is)
    (case ia_BadWindow => k_is)
    (case it_BadWindow => k_is)
    (case il_BadWindow => k_is)
    (case ic_BadWindow => k_is)
    (case ik_BadWindow => k_is)
    (case ga_BadNumber => k_is)
    (case gg_BadNumber => k_is)
    (case ga_BadRow => k_is)
    (case gg_BadRow => k_is)
    (case p_BadNumber_BadNumber => k_is)
    (case p_BadNumber_BadRow => k_is)
    (case p_BadNumber_LabelError => k_is)
    (case p_BadRow_BadNumber => k_is)
    (case p_BadRow_BadRow => k_is)
    (case p_BadRow_LabelError => k_is)
    (case p_BadWindow_BadNumber => k_is)
    (case p_BadWindow_BadRow => k_is)
    (case p_BadWindow_LabelError => k_is)
