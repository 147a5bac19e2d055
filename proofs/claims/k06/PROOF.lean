import PyProof.Rows.All
import Wide.All
import OpenK.AllK
import Wide.FinOn
import PyProof.EqAt
import PyProof.EqKinds
import PyProof.TupleCall
import HandS.ForMost
import HandS.ForExc
import HandS.TryMany
import HandS.CallSlots
import HandS.Wide
import HandS.EndBits
import HandS.ExcInit
import HandS.IsInst
import HandS.TupAny
import HandS.Rev
import HandS.TupMul
import HandS.Conv
import HandS.Style
import HandS.More
import HandS.ExcField
import HandS.ExcIs
import HandS.OwnEq
import HandS.Codes
import HandS.TupSets
import HandS.SortOrd
import HandS.SortRule
import PyProof.WalksMore
import PyProof.SumWalkG
import HandS.SortInts
import PyProof.Rows.SortShell
import HandS.NoneIn
import PyProof.EnumMake
import HandS.Small
import HandS.Iter
import PyProof.DictFindH
import PyProof.DictTable
import HandS.Strs
import HandS.Deep
import PyProof.ListStr
import HandS.Defaults
import HandS.SortKw
import PyProof.Rows.SortKeyStr
import PyProof.ExcBaseAll.ValueError
import HandS.Zip
import HandS.TupLe
import HandS.SetFor
import PyProof.FString5
import PyProof.StrBlock2
import HandS.ListItems
import KE.GoesMore
import KE.GoesZip
import PySem.Challenge.RW_surelabels_k06_patterns_apart
set_option Elab.async false
set_option linter.all false
set_option maxRecDepth 100000
set_option maxHeartbeats 4000000
/-! # Values without addresses, and what stands for them in the heap -/
namespace SL
open PySem PySem.Spec PyProof.Rows L2

/-- a value of a running def: data, or the k-th cell of the store (an object that may change) -/
inductive W where
  | non | bl (b : Bool) | int (i : Int) | str (x : Str)
  | tup (xs : List W) | lst (xs : List W) | dct (ks vs : List W)
  | ins (c : Str) (ns : List Str) (vs : List W)
  | cell (k : Nat)
  /-- a list that is locked (the script); a built-in class; an own class -/
  | ro (xs : List W) | ty (n : String) | cls (c : Str)
  /-- a tuple that is known to be plain -/
  | tpn (xs : List W)
  deriving Inhabited

inductive Cel where
  | lst (ws : List W) | dct (ks vs : List W) | ins (c : Str) (ns : List Str) (ws : List W) | frz (w : W)
def Cel.live : Cel → Bool
  | .frz _ => false
  | _ => true
abbrev Sto := List Cel
abbrev Fr := List (Option W)

/-- an exception: its class and its fields -/
structure Exc where
  c : Str
  ns : List Str
  vs : List W

inductive Out (α : Type) where
  | ok (a : α) (st : Sto) | err (x : Exc) (st : Sto) | bad
abbrev Sem := Fr → Sto → Out W
abbrev SemL := Fr → Sto → Out (List W)
abbrev SemB := Fr → Sto → Out Bool
abbrev Fn := List W → Sto → Out W
def Out.bind {α β : Type} (o : Out α) (f : α → Sto → Out β) : Out β := match o with
  | .ok a st => f a st
  | .err x st => .err x st
  | .bad => .bad
@[simp] theorem Out.bind_ok {α β : Type} (a : α) (st : Sto) (f : α → Sto → Out β) : (Out.ok a st).bind f = f a st := rfl
@[simp] theorem Out.bind_err {α β : Type} (x : Exc) (st : Sto) (f : α → Sto → Out β) : (Out.err x st).bind f = .err x st := rfl
@[simp] theorem Out.bind_bad {α β : Type} (f : α → Sto → Out β) : (Out.bad).bind f = .bad := rfl

/-! ## what stands for a value -/
def keyW : W → Option Key
  | .int i => some (.inl i)
  | .str x => some (.inr x)
  | _ => none
def keysW : List W → Option (List Key)
  | [] => some []
  | w :: r => match keyW w, keysW r with
    | some k, some ks => some (k :: ks)
    | _, _ => none
def keyT : W → Option (List Key)
  | .tup ws => keysW ws
  | _ => none
def mapO {α β : Type} (f : α → Option β) : List α → Option (List β)
  | [] => some []
  | a :: r => match f a, mapO f r with
    | some b, some bs => some (b :: bs)
    | _, _ => none
/-- how the keys of a dict are told: "L": it is locked (walked); "T": its keys are tuples; "TL": both -/
def kindW : List W → Option (Bool × (List Key ⊕ List (List Key)))
  | .ty t :: ks => if t = "L" then (mapO keyW ks).map fun kk => (true, .inl kk) else if t = "T" then (mapO keyT ks).map fun kk => (false, .inr kk) else if t = "TL" then (mapO keyT ks).map fun kk => (true, .inr kk) else none
  | ks => (mapO keyW ks).map fun kk => (false, .inl kk)
def dObj : (List Key ⊕ List (List Key)) → List V → HO
  | .inl kk, vs => .dK (kk.zip vs)
  | .inr kk, vs => .dT (kk.zip vs)
def dLen : (List Key ⊕ List (List Key)) → Nat
  | .inl kk => kk.length
  | .inr kk => kk.length
/-- a dict of these keys and values stands at a -/
def DctAt (F : Hp) (a : Addr) (ks : List W) (vs : List V) : Prop := ∃ l q, kindW ks = some (l, q) ∧ dLen q = vs.length ∧ Rd F a (dObj q vs) ∧ (l = false → ∀ kk, q = .inr kk → F a = some (.dT (kk.zip vs)))

/-- a tuple: tracked -/
def TupAt (K : PySem.W.Frag) (F : Hp) (a : Addr) (xs : List V) : Prop :=
  F a = some (.tup xs)
/-- a plain tuple, known to the object -/
def TpnAt (F : Hp) (a : Addr) (xs : List V) : Prop := ∃ o : Obj, o.dict = none ∧ F a = some (.frz o (.tup xs))
theorem TpnAt.sq {K : PySem.W.Frag} {F : Hp} {a : Addr} {xs : List V} (h : TpnAt F a xs) : SqT K F a xs := let ⟨o, _, e⟩ := h; .inl (.inr ⟨o, e⟩)
theorem TupAt.sq {K : PySem.W.Frag} {F : Hp} {a : Addr} {xs : List V} (h : TupAt K F a xs) : SqT K F a xs := .inl (.inl h)

section
variable (K : PySem.W.Frag) (mg : Str → Option Value) (F : Hp) (μ : List Addr)
mutual
def Rep : W → V → Prop
  | .non, v => v = .non
  | .bl b, v => v = .bl b
  | .int i, v => v = .int i
  | .str x, v => v = .str x
  | .tup ws, v => ∃ a vs, v = .ref a ∧ TupAt K F a vs ∧ Reps ws vs
  | .lst ws, v => ∃ a vs, v = .ref a ∧ F a = some (.lst vs) ∧ Reps ws vs
  | .ro ws, v => ∃ a vs, v = .ref a ∧ SqL K F a vs ∧ Reps ws vs
  | .tpn ws, v => ∃ a vs, v = .ref a ∧ TpnAt F a vs ∧ Reps ws vs
  | .ty n, v => v = .ty n
  | .cls c, v => ∃ C, mg c = some (.ref C) ∧ v = .ref C
  | .dct ks ws, v => ∃ a vs, v = .ref a ∧ DctAt F a ks vs ∧ Reps ws vs
  | .ins c ns ws, v => ∃ a C dx vs, v = .ref a ∧ mg c = some (.ref C) ∧ ns.length = vs.length ∧ F a = some (.ins C dx (ns.zip vs)) ∧ Reps ws vs
  | .cell k, v => ∃ a, μ[k]? = some a ∧ v = .ref a
def Reps : List W → List V → Prop
  | [], vs => vs = []
  | w :: ws, vs => ∃ v r, vs = v :: r ∧ Rep w v ∧ Reps ws r
end
end

/-- what is never locked -/
def Fix : HO → Prop
  | .dK _ => False
  | .frz _ (.tup _) => True
  | .frz _ _ => False
  | _ => True
/-- what could be read can be read; all but dicts stands as it stood -/
structure Le (F F' : Hp) : Prop where
  rd : ∀ a u, Rd F a u → Rd F' a u
  fix : ∀ a u, Fix u → F a = some u → F' a = some u
theorem Le.refl (F : Hp) : Le F F := ⟨fun _ _ h => h, fun _ _ _ h => h⟩
theorem Le.trans {F F' F'' : Hp} (x : Le F F') (y : Le F' F'') : Le F F'' := ⟨fun a u h => y.rd a u (x.rd a u h), fun a u f h => y.fix a u f (x.fix a u f h)⟩
theorem Le.of {F F' : Hp} (h : ∀ a o, F a = some o → F' a = some o) : Le F F' := by
  refine ⟨fun a u r => ?_, fun a u _ q => h _ _ q⟩
  rcases r with r | ⟨o, r⟩
  · exact .inl (h _ _ r)
  · exact .inr ⟨o, h _ _ r⟩
theorem Le.lst {F F' : Hp} (x : Le F F') {a : Addr} {vs : List V} (h : F a = some (.lst vs)) : F' a = some (.lst vs) := x.fix _ _ trivial h
theorem Le.ins {F F' : Hp} (x : Le F F') {a C dx : Addr} {fs : List (Str × V)} (h : F a = some (.ins C dx fs)) : F' a = some (.ins C dx fs) := x.fix _ _ trivial h
theorem Le.xd {F F' : Hp} (x : Le F F') {a : Addr} {fs : List (Str × V)} (h : F a = some (.xd fs)) : F' a = some (.xd fs) := x.fix _ _ trivial h
theorem TupAt.le {K : PySem.W.Frag} {F F' : Hp} {a : Addr} {xs : List V} (x : Le F F') (h : TupAt K F a xs) : TupAt K F' a xs := x.fix _ _ trivial h
theorem TpnAt.le {F F' : Hp} {a : Addr} {xs : List V} (x : Le F F') (h : TpnAt F a xs) : TpnAt F' a xs := let ⟨o, d, e⟩ := h; ⟨o, d, x.fix _ _ trivial e⟩
theorem SqT.le {K : PySem.W.Frag} {F F' : Hp} {a : Addr} {xs : List V} (x : Le F F') (h : SqT K F a xs) : SqT K F' a xs := by
  rcases h with h | h
  · exact .inl (x.rd _ _ h)
  · exact .inr h
theorem SqL.le {K : PySem.W.Frag} {F F' : Hp} {a : Addr} {xs : List V} (x : Le F F') (h : SqL K F a xs) : SqL K F' a xs := by
  rcases h with h | h
  · exact .inl (x.rd _ _ h)
  · exact .inr h
theorem DctAt.le {F F' : Hp} {a : Addr} {ks : List W} {vs : List V} (x : Le F F') (h : DctAt F a ks vs) : DctAt F' a ks vs := by
  obtain ⟨l, q, h1, h2, h3, h4⟩ := h
  exact ⟨l, q, h1, h2, x.rd _ _ h3, fun e kk eq => x.fix _ _ trivial (h4 e kk eq)⟩

def Pre (μ μ' : List Addr) : Prop := ∃ e, μ' = μ ++ e
theorem Pre.refl (μ : List Addr) : Pre μ μ := ⟨[], by simp⟩
theorem Pre.trans {a b c : List Addr} (x : Pre a b) (y : Pre b c) : Pre a c := by
  obtain ⟨e, rfl⟩ := x
  obtain ⟨f, rfl⟩ := y
  exact ⟨e ++ f, by simp⟩
theorem Pre.get {a b : List Addr} (x : Pre a b) {k : Nat} {p : Addr} (h : a[k]? = some p) : b[k]? = some p := by
  obtain ⟨e, rfl⟩ := x
  have hk : k < a.length := by
    rcases Nat.lt_or_ge k a.length with q | q
    · exact q
    · rw [List.getElem?_eq_none q] at h; cases h
  rw [List.getElem?_append_left hk]
  exact h

section
variable {K : PySem.W.Frag} {mg : Str → Option Value} {F F' : Hp} {μ μ' : List Addr}
mutual
theorem Rep.mono (x : Le F F') (p : Pre μ μ') : ∀ (w : W) (v : V), Rep K mg F μ w v → Rep K mg F' μ' w v
  | .non, v, h => by unfold Rep at h ⊢; exact h
  | .bl b, v, h => by unfold Rep at h ⊢; exact h
  | .int i, v, h => by unfold Rep at h ⊢; exact h
  | .str s, v, h => by unfold Rep at h ⊢; exact h
  | .tup ws, v, h => by
    unfold Rep at h ⊢
    obtain ⟨a, vs, e, s, r⟩ := h
    exact ⟨a, vs, e, s.le x, Reps.mono x p ws vs r⟩
  | .lst ws, v, h => by
    unfold Rep at h ⊢
    obtain ⟨a, vs, e, s, r⟩ := h
    exact ⟨a, vs, e, x.lst s, Reps.mono x p ws vs r⟩
  | .ro ws, v, h => by
    unfold Rep at h ⊢
    obtain ⟨a, vs, e, s, r⟩ := h
    exact ⟨a, vs, e, SqL.le x s, Reps.mono x p ws vs r⟩
  | .tpn ws, v, h => by
    unfold Rep at h ⊢
    obtain ⟨a, vs, e, s, r⟩ := h
    exact ⟨a, vs, e, s.le x, Reps.mono x p ws vs r⟩
  | .ty n, v, h => by unfold Rep at h ⊢; exact h
  | .cls c, v, h => by unfold Rep at h ⊢; exact h
  | .dct ks ws, v, h => by
    unfold Rep at h ⊢
    obtain ⟨a, vs, e, s, r⟩ := h
    exact ⟨a, vs, e, s.le x, Reps.mono x p ws vs r⟩
  | .ins c ns ws, v, h => by
    unfold Rep at h ⊢
    obtain ⟨a, C, dx, vs, e, g, l, s, r⟩ := h
    exact ⟨a, C, dx, vs, e, g, l, x.ins s, Reps.mono x p ws vs r⟩
  | .cell k, v, h => by
    unfold Rep at h ⊢
    obtain ⟨a, g, e⟩ := h
    exact ⟨a, p.get g, e⟩
theorem Reps.mono (x : Le F F') (p : Pre μ μ') : ∀ (ws : List W) (vs : List V), Reps K mg F μ ws vs → Reps K mg F' μ' ws vs
  | [], vs, h => by unfold Reps at h ⊢; exact h
  | w :: ws, vs, h => by
    unfold Reps at h ⊢
    obtain ⟨v, r, e, h1, h2⟩ := h
    exact ⟨v, r, e, Rep.mono x p w v h1, Reps.mono x p ws r h2⟩
end
theorem Reps.length : ∀ {ws : List W} {vs : List V}, Reps K mg F μ ws vs → ws.length = vs.length
  | [], vs, h => by unfold Reps at h; subst h; rfl
  | w :: ws, vs, h => by
    unfold Reps at h
    obtain ⟨v, r, rfl, _, h2⟩ := h
    simp [Reps.length h2]
theorem Reps.nil_iff {vs : List V} : Reps K mg F μ [] vs ↔ vs = [] := by unfold Reps; exact Iff.rfl
theorem Reps.nil : Reps K mg F μ [] [] := by unfold Reps; rfl
theorem Reps.cons {w : W} {ws : List W} {v : V} {vs : List V} (h : Rep K mg F μ w v) (r : Reps K mg F μ ws vs) : Reps K mg F μ (w :: ws) (v :: vs) := by
  unfold Reps; exact ⟨v, vs, rfl, h, r⟩
theorem Reps.cons_inv {w : W} {ws : List W} {vs : List V} (h : Reps K mg F μ (w :: ws) vs) : ∃ v r, vs = v :: r ∧ Rep K mg F μ w v ∧ Reps K mg F μ ws r := by
  unfold Reps at h; exact h
theorem Reps.get : ∀ {ws : List W} {vs : List V} {i : Nat} {w : W}, Reps K mg F μ ws vs → ws[i]? = some w → ∃ v, vs[i]? = some v ∧ Rep K mg F μ w v
  | [], _, _, _, _, e => by simp at e
  | w0 :: ws, vs, 0, w, h, e => by
    obtain ⟨v, r, rfl, h1, _⟩ := h.cons_inv
    simp at e; subst e; exact ⟨v, rfl, h1⟩
  | w0 :: ws, vs, i + 1, w, h, e => by
    obtain ⟨v, r, rfl, _, h2⟩ := h.cons_inv
    obtain ⟨v', e1, e2⟩ := Reps.get (i := i) h2 (by simpa using e)
    exact ⟨v', by simpa using e1, e2⟩
theorem Reps.get' : ∀ {ws : List W} {vs : List V} {i : Nat} {v : V}, Reps K mg F μ ws vs → vs[i]? = some v → ∃ w, ws[i]? = some w ∧ Rep K mg F μ w v := fun {ws vs i v} h e => by
  have hl := h.length
  have hi : i < vs.length := by
    rcases Nat.lt_or_ge i vs.length with q | q
    · exact q
    · rw [List.getElem?_eq_none q] at e; cases e
  have hw : ws[i]? = some (ws[i]'(by omega)) := by simp
  obtain ⟨v', e1, e2⟩ := h.get hw
  rw [e] at e1; cases e1
  exact ⟨_, hw, e2⟩
theorem Reps.append : ∀ {ws us : List W} {vs xs : List V}, Reps K mg F μ ws vs → Reps K mg F μ us xs → Reps K mg F μ (ws ++ us) (vs ++ xs)
  | [], us, vs, xs, h, r => by rw [Reps.nil_iff] at h; subst h; exact r
  | w :: ws, us, vs, xs, h, r => by
    obtain ⟨v, t, rfl, h1, h2⟩ := h.cons_inv
    exact .cons h1 (h2.append r)
theorem Reps.set : ∀ {ws : List W} {vs : List V} {w : W} {v : V} (i : Nat), Reps K mg F μ ws vs → Rep K mg F μ w v → Reps K mg F μ (ws.set i w) (vs.set i v)
  | [], vs, _, _, _, h, _ => by rw [Reps.nil_iff] at h; subst h; exact .nil
  | w0 :: ws, vs, _, _, 0, h, r => by
    obtain ⟨v, t, rfl, h1, h2⟩ := h.cons_inv
    exact .cons r h2
  | w0 :: ws, vs, _, _, i + 1, h, r => by
    obtain ⟨v, t, rfl, h1, h2⟩ := h.cons_inv
    exact .cons h1 (h2.set i r)
theorem Reps.take : ∀ {ws : List W} {vs : List V} (n : Nat), Reps K mg F μ ws vs → Reps K mg F μ (ws.take n) (vs.take n)
  | ws, vs, 0, h => by simp; exact .nil
  | [], vs, n + 1, h => by rw [Reps.nil_iff] at h; subst h; exact .nil
  | w :: ws, vs, n + 1, h => by
    obtain ⟨v, t, rfl, h1, h2⟩ := h.cons_inv
    exact .cons h1 (h2.take n)
theorem Reps.drop : ∀ {ws : List W} {vs : List V} (n : Nat), Reps K mg F μ ws vs → Reps K mg F μ (ws.drop n) (vs.drop n)
  | ws, vs, 0, h => h
  | [], vs, n + 1, h => by rw [Reps.nil_iff] at h; subst h; exact .nil
  | w :: ws, vs, n + 1, h => by
    obtain ⟨v, t, rfl, h1, h2⟩ := h.cons_inv
    exact h2.drop n
theorem Reps.reverse : ∀ {ws : List W} {vs : List V}, Reps K mg F μ ws vs → Reps K mg F μ ws.reverse vs.reverse
  | [], vs, h => by rw [Reps.nil_iff] at h; subst h; exact .nil
  | w :: ws, vs, h => by
    obtain ⟨v, t, rfl, h1, h2⟩ := h.cons_inv
    rw [List.reverse_cons, List.reverse_cons]
    exact h2.reverse.append (.cons h1 .nil)
theorem Reps.of_get {ws : List W} {vs : List V} (hl : ws.length = vs.length) (h : ∀ (i : Nat) w v, ws[i]? = some w → vs[i]? = some v → Rep K mg F μ w v) : Reps K mg F μ ws vs := by
  induction ws generalizing vs with
  | nil => cases vs with
    | nil => exact .nil
    | cons => simp at hl
  | cons w ws ih => cases vs with
    | nil => simp at hl
    | cons v vs => exact .cons (h 0 w v rfl rfl) (ih (by simpa using hl) fun i w v a b => h (i + 1) w v (by simpa using a) (by simpa using b))
end

/-! ## the store -/
def LiveA (μ : List Addr) (st : Sto) (hid : List Addr) (a : Addr) : Prop := a ∈ hid ∨ ∃ (k : Nat) (c : Cel), μ[k]? = some a ∧ st[k]? = some c ∧ c.live = true
open Classical in
/-- what no cell of the store holds: read, never changed -/
noncomputable def Fz (μ : List Addr) (st : Sto) (hid : List Addr) (H : Hp) : Hp := fun a => if LiveA μ st hid a then none else H a
theorem Fz.sub {μ : List Addr} {st : Sto} {hid : List Addr} {H : Hp} {a : Addr} {o : HO} (h : Fz μ st hid H a = some o) : H a = some o ∧ ¬ LiveA μ st hid a := by
  unfold Fz at h
  split at h
  · cases h
  · rename_i n; exact ⟨h, n⟩
theorem Fz.mk {μ : List Addr} {st : Sto} {hid : List Addr} {H : Hp} {a : Addr} {o : HO} (h : H a = some o) (n : ¬ LiveA μ st hid a) : Fz μ st hid H a = some o := by
  unfold Fz
  rw [if_neg n]; exact h
theorem Fz.le {μ : List Addr} {st : Sto} {hid : List Addr} {H : Hp} : Le (Fz μ st hid H) H := Le.of fun _ _ h => (Fz.sub h).1

/-- a dict that may be changed -/
def DctM (H : Hp) (a : Addr) (ks : List W) (vs : List V) : Prop := ∃ l q, kindW ks = some (l, q) ∧ dLen q = vs.length ∧ (if l = true then ∃ o, H a = some (.frz o (dObj q vs)) else H a = some (dObj q vs))
theorem DctM.rd {H : Hp} {a : Addr} {ks : List W} {vs : List V} (h : DctM H a ks vs) : DctAt H a ks vs := by
  obtain ⟨l, q, h1, h2, h3⟩ := h
  refine ⟨l, q, h1, h2, ?_⟩
  cases l with
  | true => exact ⟨.inr h3, fun e => nomatch e⟩
  | false => exact ⟨.inl h3, fun _ kk e => by subst e; exact h3⟩
theorem DctM.at {H F : Hp} {a : Addr} {ks : List W} {vs : List V} (h : DctM H a ks vs) (e : F a = H a) : DctAt F a ks vs := by
  obtain ⟨l, q, h1, h2, h3, h4⟩ := h.rd
  refine ⟨l, q, h1, h2, ?_⟩
  unfold Rd at h3 ⊢
  rw [e]; exact ⟨h3, h4⟩
theorem DctM.some {H : Hp} {a : Addr} {ks : List W} {vs : List V} (h : DctM H a ks vs) : ∃ o, H a = .some o := by
  obtain ⟨l, q, h1, h2, h3⟩ := h
  cases l with
  | true => obtain ⟨o, h3⟩ := h3; exact ⟨_, h3⟩
  | false => exact ⟨_, h3⟩
theorem DctM.of_eq {H H' : Hp} {a : Addr} {ks : List W} {vs : List V} (h : DctM H a ks vs) (e : H' a = H a) : DctM H' a ks vs := by
  obtain ⟨l, q, h1, h2, h3⟩ := h
  exact ⟨l, q, h1, h2, by rw [e]; exact h3⟩

section
variable (K : PySem.W.Frag) (mg : Str → Option Value)
def CelOk (F : Hp) (μ : List Addr) (H : Hp) (a : Addr) : Cel → Prop
  | .lst ws => ∃ vs, H a = some (.lst vs) ∧ Reps K mg F μ ws vs
  | .dct ks ws => ∃ vs, DctM H a ks vs ∧ Reps K mg F μ ws vs
  | .ins c ns ws => ∃ C dx vs, mg c = some (.ref C) ∧ ns.length = vs.length ∧ H a = some (.ins C dx (ns.zip vs)) ∧ Reps K mg F μ ws vs
  | .frz w => Rep K mg F μ w (.ref a)
structure StOk (μ : List Addr) (st : Sto) (hid : List Addr) (H : Hp) : Prop where
  len : μ.length = st.length
  inj : ∀ (j k : Nat) (a : Addr) (c d : Cel), μ[j]? = some a → μ[k]? = some a → st[j]? = some c → st[k]? = some d → c.live = true → d.live = true → j = k
  hidn : ∀ (k : Nat) (a : Addr) (c : Cel), μ[k]? = some a → st[k]? = some c → c.live = true → a ∉ hid
  hidt : ∀ a ∈ hid, H a ≠ none ∧ ∀ vs, H a ≠ some (.tup vs)
  ok : ∀ (k : Nat) (a : Addr) (c : Cel), μ[k]? = some a → st[k]? = some c → CelOk K mg (Fz μ st hid H) μ H a c
end
/-- what is locked stays as it is -/
def Lk (H H' : Hp) : Prop := ∀ a o u, H a = some (.frz o u) → H' a = some (.frz o u)
theorem Lk.refl (H : Hp) : Lk H H := fun _ _ _ h => h
theorem Lk.trans {H H' H'' : Hp} (x : Lk H H') (y : Lk H' H'') : Lk H H'' := fun a o u h => y a o u (x a o u h)
/-- from one state to a later one: what stands beside the cells stands -/
structure Grow (hid : List Addr) (μ : List Addr) (st : Sto) (H : Hp) (μ' : List Addr) (st' : Sto) (H' : Hp) : Prop where
  pre : Pre μ μ'
  le : Le (Fz μ st hid H) (Fz μ' st' hid H')
  hid : ∀ a ∈ hid, H' a = H a
  lck : Lk H H'
theorem Grow.refl {hid μ : List Addr} {st : Sto} {H : Hp} : Grow hid μ st H μ st H := ⟨.refl _, .refl _, fun _ _ => rfl, fun _ _ _ h => h⟩
theorem Grow.trans {hid μ μ' μ'' : List Addr} {st st' st'' : Sto} {H H' H'' : Hp} (x : Grow hid μ st H μ' st' H') (y : Grow hid μ' st' H' μ'' st'' H'') : Grow hid μ st H μ'' st'' H'' :=
  ⟨x.pre.trans y.pre, x.le.trans y.le, fun a h => (y.hid a h).trans (x.hid a h), fun a o u h => y.lck a o u (x.lck a o u h)⟩

section
variable {K : PySem.W.Frag} {mg : Str → Option Value} {μ μ' : List Addr} {st st' : Sto} {hid : List Addr} {H H' : Hp}
theorem CelOk.there {F : Hp} {a : Addr} {c : Cel} (h : CelOk K mg F μ H a c) (l : c.live = true) : ∃ o, H a = some o := by
  cases c with
  | lst ws => obtain ⟨vs, h, _⟩ := h; exact ⟨_, h⟩
  | dct ks ws => obtain ⟨vs, h, _⟩ := h; exact h.some
  | ins c ns ws => obtain ⟨C, dx, vs, _, _, h, _⟩ := h; exact ⟨_, h⟩
  | frz w => cases l
theorem StOk.liveT (s : StOk K mg μ st hid H) {a : Addr} (h : LiveA μ st hid a) : H a ≠ none := by
  rcases h with h | ⟨k, c, h1, h2, h3⟩
  · exact (s.hidt a h).1
  · obtain ⟨o, e⟩ := (s.ok k a c h1 h2).there h3
    rw [e]; exact fun z => nomatch z
theorem StOk.notLive (s : StOk K mg μ st hid H) {a : Addr} (h : H a = none) : ¬ LiveA μ st hid a := fun z => s.liveT z h
/-- a new object beside the cells -/
theorem StOk.laid (s : StOk K mg μ st hid H) {p : Addr} {o : HO} (hp : H p = none) : StOk K mg μ st hid (upd H p o) ∧ Grow hid μ st H μ st (upd H p o) ∧ Fz μ st hid (upd H p o) p = some o := by
  have nl := s.notLive hp
  have hne : ∀ a, LiveA μ st hid a → a ≠ p := fun a h e => nl (e ▸ h)
  have le : Le (Fz μ st hid H) (Fz μ st hid (upd H p o)) := Le.of fun a u h => by
    obtain ⟨h1, h2⟩ := Fz.sub h
    exact Fz.mk (by rw [upd_ne (ne_of_none h1 hp)]; exact h1) h2
  refine ⟨⟨s.len, s.inj, s.hidn, fun a h => ?_, fun k a c h1 h2 => ?_⟩, ⟨.refl _, le, fun a h => ?_, fun a o u h => by rw [upd_ne (ne_of_none h hp)]; exact h⟩, Fz.mk upd_same nl⟩
  · rw [upd_ne (hne a (Or.inl h))]; exact s.hidt a h
  · have q := s.ok k a c h1 h2
    cases c with
    | lst ws =>
      obtain ⟨vs, e, r⟩ := q
      exact ⟨vs, by rw [upd_ne (ne_of_none e hp)]; exact e, r.mono le (.refl _)⟩
    | dct ks ws =>
      obtain ⟨vs, e, r⟩ := q
      exact ⟨vs, e.of_eq (upd_ne (hne a (Or.inr ⟨k, _, h1, h2, rfl⟩))), r.mono le (.refl _)⟩
    | ins c ns ws =>
      obtain ⟨C, dx, vs, g, l, e, r⟩ := q
      exact ⟨C, dx, vs, g, l, by rw [upd_ne (ne_of_none e hp)]; exact e, r.mono le (.refl _)⟩
    | frz w => exact Rep.mono le (.refl _) _ _ q
  · rw [upd_ne (hne a (Or.inl h))]
end

/-! ## a body's state -/
/-- what is wished of an exception, and what is known besides (of a caught one) -/
structure Wish where
  w : WX
  /-- slots that stay as they are -/
  lock : List Nat
  y : L2.St → Hp → List Addr → Prop
  mono : ∀ σ F F' μ μ', Le F F' → Pre μ μ' → y σ F μ → y σ F' μ'
  slot : ∀ σ σ' F μ, (∀ i ∈ lock, σ'[i]? = σ[i]?) → y σ F μ → y σ' F μ
def Wish.of (w : WX) : Wish := ⟨w, [], fun _ _ _ => True, fun _ _ _ _ _ _ _ _ => trivial, fun _ _ _ _ _ _ => trivial⟩
structure SI (K : PySem.W.Frag) (mg : Str → Option Value) (Wx : Wish) (μ : List Addr) (st : Sto) (hid : List Addr) (fr : Fr) (σ : L2.St) (H : Hp) : Prop where
  sto : StOk K mg μ st hid H
  len : fr.length = σ.length
  loc : ∀ (i : Nat) (w : W), fr[i]? = some (some w) → ∃ v, σ[i]? = some (some v) ∧ Rep K mg (Fz μ st hid H) μ w v
  ex : Wx.y σ (Fz μ st hid H) μ
theorem SI.next {Wx : Wish} {K : PySem.W.Frag} {mg : Str → Option Value} {μ μ' : List Addr} {st st' : Sto} {hid : List Addr} {fr : Fr} {σ : L2.St} {H H' : Hp} (s : SI K mg Wx μ st hid fr σ H) (k : StOk K mg μ' st' hid H') (x : Grow hid μ st H μ' st' H') : SI K mg Wx μ' st' hid fr σ H' :=
  ⟨k, s.len, fun i w h => by
    obtain ⟨v, e, r⟩ := s.loc i w h
    exact ⟨v, e, Rep.mono x.le x.pre _ _ r⟩, Wx.mono _ _ _ _ _ x.le x.pre s.ex⟩
theorem SI.set {Wx : Wish} {K : PySem.W.Frag} {mg : Str → Option Value} {μ : List Addr} {st : Sto} {hid : List Addr} {fr : Fr} {σ : L2.St} {H : Hp} (s : SI K mg Wx μ st hid fr σ H) {w : W} {v : V} (i : Nat) (hi : i ∉ Wx.lock) (r : Rep K mg (Fz μ st hid H) μ w v) : SI K mg Wx μ st hid (fr.set i (some w)) (σ.set i (some v)) H :=
  ⟨s.sto, by simpa using s.len, fun j u h => by
    by_cases e : i = j
    · subst e
      have hi : i < fr.length := by
        rcases Nat.lt_or_ge i fr.length with q | q
        · exact q
        · rw [List.set_eq_of_length_le q, List.getElem?_eq_none q] at h; cases h
      rw [List.getElem?_set_self hi] at h
      cases h
      exact ⟨v, by rw [List.getElem?_set_self (by rw [← s.len]; exact hi)], r⟩
    · rw [List.getElem?_set_ne e] at h
      rw [List.getElem?_set_ne e]
      exact s.loc j u h, Wx.slot _ _ _ _ (fun j hj => List.getElem?_set_ne (fun z : i = j => hi (z ▸ hj))) s.ex⟩

/-- an exception's own part -/
def XRep (K : PySem.W.Frag) (mg : Str → Option Value) (F : Hp) (μ : List Addr) (x : Exc) (c : Value) (d : Option Addr) : Prop :=
  ∃ C, mg x.c = some (.ref C) ∧ c = .ref C ∧ (x.ns = [] ∨ ∃ dx vs, d = some dx ∧ x.ns.length = vs.length ∧ F dx = some (.xd (x.ns.zip vs)) ∧ Reps K mg F μ x.vs vs)

section
variable (K : PySem.W.Frag) (mg : Str → Option Value)
/-- what is wanted behind an expression -/
def EPost (Wx : WX) (hid μ : List Addr) (st : Sto) (σ : L2.St) (H : Hp) (Q : VK) : Out W → Prop
  | .ok w st' => ∀ μ' H' v, StOk K mg μ' st' hid H' → Grow hid μ st H μ' st' H' → Rep K mg (Fz μ' st' hid H') μ' w v → Q v H'
  | .err x st' => ∀ μ' H' c d, StOk K mg μ' st' hid H' → Grow hid μ st H μ' st' H' → XRep K mg (Fz μ' st' hid H') μ' x c d → Wx c d σ H'
  | .bad => False
def LPost (Wx : WX) (hid μ : List Addr) (st : Sto) (σ : L2.St) (H : Hp) (Q : List V → Hp → Prop) : Out (List W) → Prop
  | .ok ws st' => ∀ μ' H' vs, StOk K mg μ' st' hid H' → Grow hid μ st H μ' st' H' → Reps K mg (Fz μ' st' hid H') μ' ws vs → Q vs H'
  | .err x st' => ∀ μ' H' c d, StOk K mg μ' st' hid H' → Grow hid μ st H μ' st' H' → XRep K mg (Fz μ' st' hid H') μ' x c d → Wx c d σ H'
  | .bad => False
def BPost (Wx : WX) (hid μ : List Addr) (st : Sto) (σ : L2.St) (H : Hp) (Q : Bool → Hp → Prop) : Out Bool → Prop
  | .ok b st' => ∀ μ' H', StOk K mg μ' st' hid H' → Grow hid μ st H μ' st' H' → Q b H'
  | .err x st' => ∀ μ' H' c d, StOk K mg μ' st' hid H' → Grow hid μ st H μ' st' H' → XRep K mg (Fz μ' st' hid H') μ' x c d → Wx c d σ H'
  | .bad => False
def tE (Wx : Wish) (f : Sem) : TE := fun σ H Q => ∃ μ st hid fr, SI K mg Wx μ st hid fr σ H ∧ EPost K mg Wx.w hid μ st σ H Q (f fr st)
def tA (Wx : Wish) (f : SemL) : TA := fun σ H Q => ∃ μ st hid fr, SI K mg Wx μ st hid fr σ H ∧ LPost K mg Wx.w hid μ st σ H Q (f fr st)
def tB' (Wx : Wish) (f : SemB) : TT := fun σ H Q => ∃ μ st hid fr, SI K mg Wx μ st hid fr σ H ∧ BPost K mg Wx.w hid μ st σ H Q (f fr st)
end
section
variable {K : PySem.W.Frag} {mg : Str → Option Value} {Wx : WX} {hid μ μ' : List Addr} {st st' : Sto} {σ : L2.St} {H H' : Hp}
theorem EPost.from {Q : VK} {o : Out W} (x : Grow hid μ st H μ' st' H') (h : EPost K mg Wx hid μ st σ H Q o) : EPost K mg Wx hid μ' st' σ H' Q o := by
  cases o with
  | ok w s => exact fun μ2 H2 v a b c => h μ2 H2 v a (x.trans b) c
  | err e s => exact fun μ2 H2 c d a b r => h μ2 H2 c d a (x.trans b) r
  | bad => exact h
theorem LPost.from {Q : List V → Hp → Prop} {o : Out (List W)} (x : Grow hid μ st H μ' st' H') (h : LPost K mg Wx hid μ st σ H Q o) : LPost K mg Wx hid μ' st' σ H' Q o := by
  cases o with
  | ok w s => exact fun μ2 H2 v a b c => h μ2 H2 v a (x.trans b) c
  | err e s => exact fun μ2 H2 c d a b r => h μ2 H2 c d a (x.trans b) r
  | bad => exact h
theorem BPost.from {Q : Bool → Hp → Prop} {o : Out Bool} (x : Grow hid μ st H μ' st' H') (h : BPost K mg Wx hid μ st σ H Q o) : BPost K mg Wx hid μ' st' σ H' Q o := by
  cases o with
  | ok w s => exact fun μ2 H2 a b => h μ2 H2 a (x.trans b)
  | err e s => exact fun μ2 H2 c d a b r => h μ2 H2 c d a (x.trans b) r
  | bad => exact h
end
theorem PEm {X : Cx} {e : Expr} {t t' : TE} (h : PE X e t) (i : ∀ σ H Q, t' σ H Q → t σ H Q) : PE X e t' := ⟨fun pins s σ H Q I q => h.run pins s σ H Q I (i σ H Q q)⟩
theorem PTm {X : Cx} {e : Expr} {t t' : TT} (h : PT X e t) (i : ∀ σ H Q, t' σ H Q → t σ H Q) : PT X e t' := ⟨fun pins s σ H Q I q => h.run pins s σ H Q I (i σ H Q q)⟩
theorem PWm {X : Cx} {e : Expr} {t t' : TT} (h : PW X e t) (i : ∀ σ H Q, t' σ H Q → t σ H Q) : PW X e t' := ⟨fun wh pins s σ H Q I q => h.run wh pins s σ H Q I (i σ H Q q)⟩
theorem PAm {X : Cx} {e : List Expr} {t t' : TA} (h : PA X e t) (i : ∀ σ H Q, t' σ H Q → t σ H Q) : PA X e t' := ⟨fun pos pins s σ H Q I q => h.run pos pins s σ H Q I (i σ H Q q)⟩
theorem PSm {X : Cx} {e : Stmt} {t t' : TS} (h : PS X e t) (i : ∀ D σ H, t' D σ H → t D σ H) : PS X e t' := ⟨fun pins s σ H D I q => h.run pins s σ H D I (i D σ H q)⟩
theorem PSsm {X : Cx} {e : List Stmt} {t t' : TS} (h : PSs X e t) (i : ∀ D σ H, t' D σ H → t D σ H) : PSs X e t' := ⟨fun pins s σ H D I q => h.run pins s σ H D I (i D σ H q)⟩

/-- the judgements: Wx is what is wished of an exception -/
abbrev EV (X : Cx) (Wx : Wish) (e : Expr) (f : Sem) : Prop := PE X e (tE X.K X.mg Wx f)
abbrev TV (X : Cx) (Wx : Wish) (e : Expr) (f : SemB) : Prop := PT X e (tB' X.K X.mg Wx f)
abbrev AV (X : Cx) (Wx : Wish) (es : List Expr) (f : SemL) : Prop := PA X es (tA X.K X.mg Wx f)
end SL

namespace SL
open PySem PySem.Spec PyProof.Rows L2
section
variable {X : Cx} {Wx : Wish}

/-! ## names and constants -/
def eVar (i : Nat) : Sem := fun fr st => match fr[i]? with
  | some (some w) => .ok w st
  | _ => .bad
theorem ev_var {i : Nat} {x : Str} {pos : Pos} (hN : X.N[i]? = some x := by rfl) (hv : Vis X.env.scope x := by first | exact Or.inl rfl | exact Or.inr (Or.inl rfl) | exact Or.inr (Or.inr rfl)) (hd : (x == ("__debug__" : Str)) = false := by decide)
    (hcd : (x == ("__classdict__" : Str)) = false := by decide) : EV X Wx (.Name x pos) (eVar i) :=
  PEm (pe_var hN hv hd hcd) fun σ H Q ⟨μ, st, hid, fr, S, P⟩ => by
    unfold eVar at P
    split at P
    · rename_i w h
      obtain ⟨v, e, r⟩ := S.loc i w h
      exact ⟨v, e, P μ H v S.sto .refl r⟩
    · exact P.elim
def eC (w : W) : Sem := fun _ st => .ok w st
theorem ev_c {e : Expr} {w : W} {v : V} (h : PE X e (tC v)) (r : ∀ F μ, Rep X.K X.mg F μ w v) : EV X Wx e (eC w) :=
  PEm h fun σ H Q ⟨μ, st, hid, fr, S, P⟩ => P μ H v S.sto .refl (r _ _)
theorem ev_int {i : Int} {j pos} : EV X Wx (.Constant (.int i) j pos) (eC (.int i)) := ev_c pe_int fun F μ => by unfold Rep; rfl
theorem ev_bl {i : Bool} {j pos} : EV X Wx (.Constant (.bool i) j pos) (eC (.bl i)) := ev_c pe_bl fun F μ => by unfold Rep; rfl
theorem ev_str {i : Str} {j pos} : EV X Wx (.Constant (.str i) j pos) (eC (.str i)) := ev_c pe_str fun F μ => by unfold Rep; rfl
theorem ev_non {j pos} : EV X Wx (.Constant .none j pos) (eC .non) := ev_c pe_non fun F μ => by unfold Rep; rfl
theorem ev_globI {x : Str} {i : Int} {t : Tok} {pos : Pos} (hm : X.mg x = some (.int i t)) (hg : Gl X x := by rfl) (hd : (x == ("__debug__" : Str)) = false := by decide) : EV X Wx (.Name x pos) (eC (.int i)) := ev_c (v := .int i) (pe_glob hg hm ⟨t, rfl⟩ hd) fun F μ => by unfold Rep; rfl
theorem ev_globS {x : Str} {i : Str} {t : Tok} {pos : Pos} (hm : X.mg x = some (.str i t)) (hg : Gl X x := by rfl) (hd : (x == ("__debug__" : Str)) = false := by decide) : EV X Wx (.Name x pos) (eC (.str i)) := ev_c (v := .str i) (pe_glob hg hm ⟨t, rfl⟩ hd) fun F μ => by unfold Rep; rfl

/-! ## operations by values -/
abbrev Op2 := W → W → Sto → Out W
abbrev Op1 := W → Sto → Out W
abbrev OpN := List W → Sto → Out W
def Op2S (X : Cx) (op : Op2) (r : R2) : Prop := ∀ (Wx : WX) (hid μ : List Addr) (st : Sto) (σ : L2.St) (H : Hp) (Q : VK) (w u : W) (x y : V), StOk X.K X.mg μ st hid H → Rep X.K X.mg (Fz μ st hid H) μ w x → Rep X.K X.mg (Fz μ st hid H) μ u y →
  EPost X.K X.mg Wx hid μ st σ H Q (op w u st) → r x y H Q
def e2 (op : Op2) (f g : Sem) : Sem := fun fr st => (f fr st).bind fun w st1 => (g fr st1).bind fun u st2 => op w u st2
theorem e2_read {op : Op2} {r : R2} {f g : Sem} (hs : Op2S X op r) : ∀ σ H Q, tE X.K X.mg Wx (e2 op f g) σ H Q → tOp r (tE X.K X.mg Wx f) (tE X.K X.mg Wx g) σ H Q := fun σ H Q ⟨μ, st, hid, fr, S, P⟩ => by
  refine ⟨μ, st, hid, fr, S, ?_⟩
  unfold e2 at P
  cases h : f fr st with
  | bad => rw [h] at P; exact P
  | err x s => rw [h] at P; exact P
  | ok w st1 =>
    rw [h] at P
    intro μ1 H1 v k1 g1 r1
    refine ⟨μ1, st1, hid, fr, S.next k1 g1, ?_⟩
    have P1 := EPost.from g1 P
    rw [Out.bind_ok] at P1
    cases h2 : g fr st1 with
    | bad => rw [h2] at P1; exact P1
    | err x s => rw [h2] at P1; exact P1
    | ok u st2 =>
      rw [h2] at P1
      intro μ2 H2 y k2 g2 r2
      exact hs Wx.w hid μ2 st2 σ H2 Q w u v y k2 (Rep.mono g2.le g2.pre _ _ r1) r2 (EPost.from g2 P1)
theorem ev_op {op : Operator} {o : Op2} {r : R2} {a b : Expr} {f g : Sem} {pos : Pos} (ho : OpR X (binaryOp op) r) (hs : Op2S X o r) (ha : EV X Wx a f) (hb : EV X Wx b g) : EV X Wx (.BinOp a op b pos) (e2 o f g) :=
  PEm (pe_op ho ha hb) (e2_read hs)
theorem ev_cmp {op : CmpOp} {o : Op2} {r : R2} {a b : Expr} {f g : Sem} {pos : Pos} (ho : OpR X (compareOp op) r) (hs : Op2S X o r) (ha : EV X Wx a f) (hb : EV X Wx b g) (hm : behindInMarks op b = false) : EV X Wx (.Compare a [op] [b] pos) (e2 o f g) :=
  PEm (pe_cmpR ho ha hb hm) (e2_read hs)
theorem ev_ix {o : Op2} {r : R2} {a b : Expr} {f g : Sem} {pos : Pos} (ho : IxR X r) (hs : Op2S X o r) (ha : EV X Wx a f) (hb : EV X Wx b g) (hp : PlainIx b) : EV X Wx (.Subscript a b pos) (e2 o f g) :=
  PEm (pe_ix ho ha hb hp) (e2_read hs)
/-- a value as a test -/
def bOf (f : Sem) : SemB := fun fr st => (f fr st).bind fun w st1 => match w with
  | .bl b => .ok b st1
  | _ => .bad
theorem bOf_read {f : Sem} {t : TE} (ht : ∀ σ H Q, tE X.K X.mg Wx f σ H Q → t σ H Q) : ∀ σ H Q, tB' X.K X.mg Wx (bOf f) σ H Q → tTest t σ H Q := fun σ H Q ⟨μ, st, hid, fr, S, P⟩ => by
  refine ht σ H _ ⟨μ, st, hid, fr, S, ?_⟩
  unfold bOf at P
  cases h : f fr st with
  | bad => rw [h] at P; exact P
  | err x s => rw [h] at P; exact P
  | ok w st1 =>
    rw [h, Out.bind_ok] at P
    intro μ1 H1 v k1 g1 r1
    cases w with
    | bl b =>
      unfold Rep at r1
      exact ⟨b, r1, P μ1 H1 k1 g1⟩
    | _ => exact P.elim
theorem tv_cmp {op : CmpOp} {o : Op2} {r : R2} {a b : Expr} {f g : Sem} {pos : Pos} (ho : OpR X (compareOp op) r) (hs : Op2S X o r) (ha : EV X Wx a f) (hb : EV X Wx b g) (hm : behindInMarks op b = false) : TV X Wx (.Compare a [op] [b] pos) (bOf (e2 o f g)) :=
  PTm (pt_cmpR ho ha hb hm) (bOf_read (e2_read hs))
theorem tv_val {e : Expr} {f : Sem} (h : EV X Wx e f) (he : ∀ whole, isTrue e X.env whole = (do let v ← whole; standAt e.pos; holding [v] (truthy v)) := by intro _; rfl) : TV X Wx e (bOf f) :=
  PTm (pt_val h he) fun σ H Q P => bOf_read (fun _ _ _ z => z) σ H Q P
/-! ### not, and, or -/
def bNot (f : SemB) : SemB := fun fr st => (f fr st).bind fun b st1 => .ok (!b) st1
theorem tv_not {a : Expr} {f : SemB} {pos : Pos} (ha : TV X Wx a f) : TV X Wx (.UnaryOp .Not a pos) (bNot f) := PTm (pt_not ha) fun σ H Q ⟨μ, st, hid, fr, S, P⟩ => by
  refine ⟨μ, st, hid, fr, S, ?_⟩
  unfold bNot at P
  cases h : f fr st with
  | bad => rw [h] at P; exact P
  | err x s => rw [h] at P; exact P
  | ok w st1 => rw [h] at P; exact P
def bAnd (f g : SemB) : SemB := fun fr st => (f fr st).bind fun b st1 => if b = true then g fr st1 else .ok false st1
def bOr (f g : SemB) : SemB := fun fr st => (f fr st).bind fun b st1 => if b = true then .ok true st1 else g fr st1
theorem bAnd_read {f g : SemB} : ∀ σ H Q, tB' X.K X.mg Wx (bAnd f g) σ H Q → tAnd (tB' X.K X.mg Wx f) (tB' X.K X.mg Wx g) σ H Q := fun σ H Q ⟨μ, st, hid, fr, S, P⟩ => by
  refine ⟨μ, st, hid, fr, S, ?_⟩
  unfold bAnd at P
  cases h : f fr st with
  | bad => rw [h] at P; exact P
  | err x s => rw [h] at P; exact P
  | ok b st1 =>
    rw [h, Out.bind_ok] at P
    intro μ1 H1 k1 g1
    cases b with
    | true => exact iteT ⟨μ1, st1, hid, fr, S.next k1 g1, BPost.from g1 (by simpa using P)⟩
    | false => exact iteF ((by simpa using P : BPost X.K X.mg Wx.w hid μ st σ H Q (.ok false st1)) μ1 H1 k1 g1)
theorem bOr_read {f g : SemB} : ∀ σ H Q, tB' X.K X.mg Wx (bOr f g) σ H Q → tOr (tB' X.K X.mg Wx f) (tB' X.K X.mg Wx g) σ H Q := fun σ H Q ⟨μ, st, hid, fr, S, P⟩ => by
  refine ⟨μ, st, hid, fr, S, ?_⟩
  unfold bOr at P
  cases h : f fr st with
  | bad => rw [h] at P; exact P
  | err x s => rw [h] at P; exact P
  | ok b st1 =>
    rw [h, Out.bind_ok] at P
    intro μ1 H1 k1 g1
    cases b with
    | false => exact iteF ⟨μ1, st1, hid, fr, S.next k1 g1, BPost.from g1 (by simpa using P)⟩
    | true => exact iteT ((by simpa using P : BPost X.K X.mg Wx.w hid μ st σ H Q (.ok true st1)) μ1 H1 k1 g1)
abbrev WV (X : Cx) (Wx : Wish) (e : Expr) (f : SemB) : Prop := PW X e (tB' X.K X.mg Wx f)
theorem wv_and1 {a : Expr} {f : SemB} {pos : Pos} (ha : TV X Wx a f) : WV X Wx (.BoolOp .And [a] pos) f := pw_and1 ha
theorem wv_or1 {a : Expr} {f : SemB} {pos : Pos} (ha : TV X Wx a f) : WV X Wx (.BoolOp .Or [a] pos) f := pw_or1 ha
theorem wv_and {a b : Expr} {rest : List Expr} {f g : SemB} {pos : Pos} (ha : TV X Wx a f) (hb : WV X Wx (.BoolOp .And (b :: rest) pos) g) : WV X Wx (.BoolOp .And (a :: b :: rest) pos) (bAnd f g) := PWm (pw_and ha hb) bAnd_read
theorem wv_or {a b : Expr} {rest : List Expr} {f g : SemB} {pos : Pos} (ha : TV X Wx a f) (hb : WV X Wx (.BoolOp .Or (b :: rest) pos) g) : WV X Wx (.BoolOp .Or (a :: b :: rest) pos) (bOr f g) := PWm (pw_or ha hb) bOr_read
theorem tv_w {e : Expr} {f : SemB} (h : WV X Wx e f) : TV X Wx e f := h.pt
/-- .. as values -/
def eAnd (f g : Sem) : Sem := fun fr st => (f fr st).bind fun w st1 => match w with
  | .bl b => if b = true then g fr st1 else .ok (.bl false) st1
  | _ => .bad
def eOr (f g : Sem) : Sem := fun fr st => (f fr st).bind fun w st1 => match w with
  | .bl b => if b = true then .ok (.bl true) st1 else g fr st1
  | _ => .bad
def eNot (f : Sem) : Sem := fun fr st => (f fr st).bind fun w st1 => match w with
  | .bl b => .ok (.bl (!b)) st1
  | _ => .bad
theorem rep_bl {K : PySem.W.Frag} {mg : Str → Option Value} {F : Hp} {μ : List Addr} {b : Bool} : Rep K mg F μ (.bl b) (.bl b) := by unfold Rep; rfl
theorem rep_int {K : PySem.W.Frag} {mg : Str → Option Value} {F : Hp} {μ : List Addr} {b : Int} : Rep K mg F μ (.int b) (.int b) := by unfold Rep; rfl
theorem rep_str {K : PySem.W.Frag} {mg : Str → Option Value} {F : Hp} {μ : List Addr} {b : Str} : Rep K mg F μ (.str b) (.str b) := by unfold Rep; rfl
theorem rep_non {K : PySem.W.Frag} {mg : Str → Option Value} {F : Hp} {μ : List Addr} : Rep K mg F μ .non .non := by unfold Rep; rfl
theorem rep_bl_inv {K : PySem.W.Frag} {mg : Str → Option Value} {F : Hp} {μ : List Addr} {b : Bool} {v : V} (h : Rep K mg F μ (.bl b) v) : v = .bl b := by unfold Rep at h; exact h
theorem rep_int_inv {K : PySem.W.Frag} {mg : Str → Option Value} {F : Hp} {μ : List Addr} {b : Int} {v : V} (h : Rep K mg F μ (.int b) v) : v = .int b := by unfold Rep at h; exact h
theorem rep_str_inv {K : PySem.W.Frag} {mg : Str → Option Value} {F : Hp} {μ : List Addr} {b : Str} {v : V} (h : Rep K mg F μ (.str b) v) : v = .str b := by unfold Rep at h; exact h
theorem rep_non_inv {K : PySem.W.Frag} {mg : Str → Option Value} {F : Hp} {μ : List Addr} {v : V} (h : Rep K mg F μ .non v) : v = .non := by unfold Rep at h; exact h
theorem rep_tup_inv {K : PySem.W.Frag} {mg : Str → Option Value} {F : Hp} {μ : List Addr} {ws : List W} {v : V} (h : Rep K mg F μ (.tup ws) v) : ∃ a vs, v = .ref a ∧ TupAt K F a vs ∧ Reps K mg F μ ws vs := by unfold Rep at h; exact h
theorem rep_tpn_inv {K : PySem.W.Frag} {mg : Str → Option Value} {F : Hp} {μ : List Addr} {ws : List W} {v : V} (h : Rep K mg F μ (.tpn ws) v) : ∃ a vs, v = .ref a ∧ TpnAt F a vs ∧ Reps K mg F μ ws vs := by unfold Rep at h; exact h
theorem rep_lst_inv {K : PySem.W.Frag} {mg : Str → Option Value} {F : Hp} {μ : List Addr} {ws : List W} {v : V} (h : Rep K mg F μ (.lst ws) v) : ∃ a vs, v = .ref a ∧ F a = some (.lst vs) ∧ Reps K mg F μ ws vs := by unfold Rep at h; exact h
theorem rep_ro_inv {K : PySem.W.Frag} {mg : Str → Option Value} {F : Hp} {μ : List Addr} {ws : List W} {v : V} (h : Rep K mg F μ (.ro ws) v) : ∃ a vs, v = .ref a ∧ SqL K F a vs ∧ Reps K mg F μ ws vs := by unfold Rep at h; exact h
theorem rep_ty_inv {K : PySem.W.Frag} {mg : Str → Option Value} {F : Hp} {μ : List Addr} {n : String} {v : V} (h : Rep K mg F μ (.ty n) v) : v = .ty n := by unfold Rep at h; exact h
theorem rep_cls_inv {K : PySem.W.Frag} {mg : Str → Option Value} {F : Hp} {μ : List Addr} {n : Str} {v : V} (h : Rep K mg F μ (.cls n) v) : ∃ C, mg n = some (.ref C) ∧ v = .ref C := by unfold Rep at h; exact h
theorem rep_cell_inv {K : PySem.W.Frag} {mg : Str → Option Value} {F : Hp} {μ : List Addr} {k : Nat} {v : V} (h : Rep K mg F μ (.cell k) v) : ∃ a, μ[k]? = some a ∧ v = .ref a := by unfold Rep at h; exact h
theorem rep_tup {K : PySem.W.Frag} {mg : Str → Option Value} {F : Hp} {μ : List Addr} {ws : List W} {a : Addr} {vs : List V} (h : F a = some (.tup vs)) (r : Reps K mg F μ ws vs) : Rep K mg F μ (.tup ws) (.ref a) := by unfold Rep; exact ⟨a, vs, rfl, h, r⟩
theorem rep_tpn {K : PySem.W.Frag} {mg : Str → Option Value} {F : Hp} {μ : List Addr} {ws : List W} {a : Addr} {vs : List V} (h : TpnAt F a vs) (r : Reps K mg F μ ws vs) : Rep K mg F μ (.tpn ws) (.ref a) := by unfold Rep; exact ⟨a, vs, rfl, h, r⟩
theorem rep_lst {K : PySem.W.Frag} {mg : Str → Option Value} {F : Hp} {μ : List Addr} {ws : List W} {a : Addr} {vs : List V} (h : F a = some (.lst vs)) (r : Reps K mg F μ ws vs) : Rep K mg F μ (.lst ws) (.ref a) := by unfold Rep; exact ⟨a, vs, rfl, h, r⟩
theorem ev_and {a b : Expr} {rest : List Expr} {f g : Sem} {pos : Pos} (ha : EV X Wx a f) (hb : EV X Wx (.BoolOp .And (b :: rest) pos) g) : EV X Wx (.BoolOp .And (a :: b :: rest) pos) (eAnd f g) := PEm (pe_and ha hb) fun σ H Q ⟨μ, st, hid, fr, S, P⟩ => by
  refine ⟨μ, st, hid, fr, S, ?_⟩
  unfold eAnd at P
  cases h : f fr st with
  | bad => rw [h] at P; exact P
  | err x s => rw [h] at P; exact P
  | ok w st1 =>
    rw [h, Out.bind_ok] at P
    intro μ1 H1 v k1 g1 r1
    cases w with
    | bl c =>
      refine ⟨c, rep_bl_inv r1, ?_⟩
      cases c with
      | true => exact iteT ⟨μ1, st1, hid, fr, S.next k1 g1, EPost.from g1 (by simpa using P)⟩
      | false => exact iteF ((by simpa using P : EPost X.K X.mg Wx.w hid μ st σ H Q (.ok (.bl false) st1)) μ1 H1 _ k1 g1 rep_bl)
    | _ => exact P.elim
theorem ev_or {a b : Expr} {rest : List Expr} {f g : Sem} {pos : Pos} (ha : EV X Wx a f) (hb : EV X Wx (.BoolOp .Or (b :: rest) pos) g) : EV X Wx (.BoolOp .Or (a :: b :: rest) pos) (eOr f g) := PEm (pe_or ha hb) fun σ H Q ⟨μ, st, hid, fr, S, P⟩ => by
  refine ⟨μ, st, hid, fr, S, ?_⟩
  unfold eOr at P
  cases h : f fr st with
  | bad => rw [h] at P; exact P
  | err x s => rw [h] at P; exact P
  | ok w st1 =>
    rw [h, Out.bind_ok] at P
    intro μ1 H1 v k1 g1 r1
    cases w with
    | bl c =>
      refine ⟨c, rep_bl_inv r1, ?_⟩
      cases c with
      | false => exact iteF ⟨μ1, st1, hid, fr, S.next k1 g1, EPost.from g1 (by simpa using P)⟩
      | true => exact iteT ((by simpa using P : EPost X.K X.mg Wx.w hid μ st σ H Q (.ok (.bl true) st1)) μ1 H1 _ k1 g1 rep_bl)
    | _ => exact P.elim
theorem ev_one {op : BoolOp} {a : Expr} {f : Sem} {pos : Pos} (ha : EV X Wx a f) : EV X Wx (.BoolOp op [a] pos) f := pe_one ha
theorem ev_not {a : Expr} {f : Sem} {pos : Pos} (ha : EV X Wx a f) : EV X Wx (.UnaryOp .Not a pos) (eNot f) := PEm (pe_not ha) fun σ H Q ⟨μ, st, hid, fr, S, P⟩ => by
  refine ⟨μ, st, hid, fr, S, ?_⟩
  unfold eNot at P
  cases h : f fr st with
  | bad => rw [h] at P; exact P
  | err x s => rw [h] at P; exact P
  | ok w st1 =>
    rw [h, Out.bind_ok] at P
    intro μ1 H1 v k1 g1 r1
    cases w with
    | bl c => exact ⟨c, rep_bl_inv r1, P μ1 H1 _ k1 g1 rep_bl⟩
    | _ => exact P.elim
def eIf (c : SemB) (f g : Sem) : Sem := fun fr st => (c fr st).bind fun b st1 => if b = true then f fr st1 else g fr st1
theorem ev_if {c a b : Expr} {fc : SemB} {f g : Sem} {pos : Pos} (hc : TV X Wx c fc) (ha : EV X Wx a f) (hb : EV X Wx b g) : EV X Wx (.IfExp c a b pos) (eIf fc f g) := PEm (pe_ifExp hc ha hb) fun σ H Q ⟨μ, st, hid, fr, S, P⟩ => by
  refine ⟨μ, st, hid, fr, S, ?_⟩
  unfold eIf at P
  cases h : fc fr st with
  | bad => rw [h] at P; exact P
  | err x s => rw [h] at P; exact P
  | ok b st1 =>
    rw [h, Out.bind_ok] at P
    intro μ1 H1 k1 g1
    cases b with
    | true => exact iteT ⟨μ1, st1, hid, fr, S.next k1 g1, EPost.from g1 (by simpa using P)⟩
    | false => exact iteF ⟨μ1, st1, hid, fr, S.next k1 g1, EPost.from g1 (by simpa using P)⟩
/-- a op b op' c -/
def eChain (op op' : Op2) (f g h : Sem) : Sem := fun fr st => (f fr st).bind fun x st1 => (g fr st1).bind fun y st2 => (op x y st2).bind fun z st3 => match z with
  | .bl b => if b = true then (h fr st3).bind fun w st4 => op' y w st4 else .ok (.bl false) st3
  | _ => .bad
theorem eChain_read {op op' : Op2} {r r' : R2} {f g h : Sem} (hs : Op2S X op r) (hs' : Op2S X op' r') : ∀ σ H Q, tE X.K X.mg Wx (eChain op op' f g h) σ H Q → tChain r r' (tE X.K X.mg Wx f) (tE X.K X.mg Wx g) (tE X.K X.mg Wx h) σ H Q := fun σ H Q ⟨μ, st, hid, fr, S, P⟩ => by
  refine ⟨μ, st, hid, fr, S, ?_⟩
  unfold eChain at P
  cases h1 : f fr st with
  | bad => rw [h1] at P; exact P
  | err x s => rw [h1] at P; exact P
  | ok x st1 =>
    rw [h1, Out.bind_ok] at P
    intro μ1 H1 vx k1 g1 r1
    refine ⟨μ1, st1, hid, fr, S.next k1 g1, ?_⟩
    have P1 := EPost.from g1 P
    cases h2 : g fr st1 with
    | bad => rw [h2] at P1; exact P1
    | err x s => rw [h2] at P1; exact P1
    | ok y st2 =>
      rw [h2, Out.bind_ok] at P1
      intro μ2 H2 vy k2 g2 r2
      have P2 := EPost.from g2 P1
      refine hs Wx.w hid μ2 st2 σ H2 _ x y vx vy k2 (Rep.mono g2.le g2.pre _ _ r1) r2 ?_
      cases h3 : op x y st2 with
      | bad => rw [h3] at P2; exact P2
      | err x s => rw [h3] at P2; exact P2
      | ok z st3 =>
        rw [h3, Out.bind_ok] at P2
        intro μ3 H3 vz k3 g3 r3
        have P3 := EPost.from g3 P2
        cases z with
        | bl b =>
          refine ⟨b, rep_bl_inv r3, ?_⟩
          cases b with
          | false => exact iteF ((by simpa using P3 : EPost X.K X.mg Wx.w hid μ3 st3 σ H3 Q (.ok (.bl false) st3)) μ3 H3 _ k3 .refl rep_bl)
          | true =>
            refine iteT ⟨μ3, st3, hid, fr, S.next k3 ((g1.trans g2).trans g3), ?_⟩
            simp only [if_true] at P3
            cases h4 : h fr st3 with
            | bad => rw [h4] at P3; exact P3
            | err x s => rw [h4] at P3; exact P3
            | ok w st4 =>
              rw [h4, Out.bind_ok] at P3
              intro μ4 H4 vw k4 g4 r4
              exact hs' Wx.w hid μ4 st4 σ H4 Q y w vy vw k4 (Rep.mono (g3.trans g4).le (g3.trans g4).pre _ _ r2) r4 (EPost.from g4 P3)
        | _ => exact P3.elim
theorem ev_chain {op op' : CmpOp} {o o' : Op2} {r r' : R2} {a b c : Expr} {f g h : Sem} {pos : Pos} (ho : OpR X (compareOp op) r) (ho' : OpR X (compareOp op') r') (hs : Op2S X o r) (hs' : Op2S X o' r') (ha : EV X Wx a f) (hb : EV X Wx b g) (hc : EV X Wx c h)
    (hm : lastMarks [op, op'] [b, c] = false := by with_unfolding_all rfl) : EV X Wx (.Compare a [op, op'] [b, c] pos) (eChain o o' f g h) := PEm (pe_chain ho ho' ha hb hc hm) (eChain_read hs hs')
theorem tv_chain {op op' : CmpOp} {o o' : Op2} {r r' : R2} {a b c : Expr} {f g h : Sem} {pos : Pos} (ho : OpR X (compareOp op) r) (ho' : OpR X (compareOp op') r') (hs : Op2S X o r) (hs' : Op2S X o' r') (ha : EV X Wx a f) (hb : EV X Wx b g) (hc : EV X Wx c h)
    (hm : lastMarks [op, op'] [b, c] = false := by with_unfolding_all rfl) : TV X Wx (.Compare a [op, op'] [b, c] pos) (bOf (eChain o o' f g h)) := PTm (pt_chain ho ho' ha hb hc hm) (bOf_read (eChain_read hs hs'))
/-- an operator with one side -/
def Op1S (X : Cx) (op : Op1) (r : V → Hp → VK → Prop) : Prop := ∀ (Wx : WX) (hid μ : List Addr) (st : Sto) (σ : L2.St) (H : Hp) (Q : VK) (w : W) (x : V), StOk X.K X.mg μ st hid H → Rep X.K X.mg (Fz μ st hid H) μ w x →
  EPost X.K X.mg Wx hid μ st σ H Q (op w st) → r x H Q
def e1 (op : Op1) (f : Sem) : Sem := fun fr st => (f fr st).bind fun w st1 => op w st1
theorem e1_read {op : Op1} {r : V → Hp → VK → Prop} {f : Sem} (hs : Op1S X op r) : ∀ σ H Q, tE X.K X.mg Wx (e1 op f) σ H Q → tE X.K X.mg Wx f σ H (fun x H1 => r x H1 Q) := fun σ H Q ⟨μ, st, hid, fr, S, P⟩ => by
  refine ⟨μ, st, hid, fr, S, ?_⟩
  unfold e1 at P
  cases h : f fr st with
  | bad => rw [h] at P; exact P
  | err x s => rw [h] at P; exact P
  | ok w st1 =>
    rw [h, Out.bind_ok] at P
    intro μ1 H1 v k1 g1 r1
    exact hs Wx.w hid μ1 st1 σ H1 Q w v k1 r1 (EPost.from g1 P)
theorem ev_un {op : UnaryOp} {o : Op1} {r : V → Hp → VK → Prop} {a : Expr} {f : Sem} {pos : Pos} (ho : UnR X (unaryOp op) r) (hs : Op1S X o r) (ha : EV X Wx a f) : EV X Wx (.UnaryOp op a pos) (e1 o f) := PEm (pe_un ho ha) (e1_read hs)

/-! ## arguments -/
def aNil : SemL := fun _ st => .ok [] st
def aCons (f : Sem) (g : SemL) : SemL := fun fr st => (f fr st).bind fun w st1 => (g fr st1).bind fun ws st2 => .ok (w :: ws) st2
theorem av_nil : AV X Wx [] aNil := PAm pa_nil fun σ H Q ⟨μ, st, hid, fr, S, P⟩ => P μ H [] S.sto .refl .nil
theorem av_cons {e : Expr} {es : List Expr} {f : Sem} {g : SemL} (he : EV X Wx e f) (hr : AV X Wx es g) (hs : starEach (e :: es) X.env = (false, eval e X.env) :: starEach es X.env := by rfl) : AV X Wx (e :: es) (aCons f g) := PAm (pa_cons he hr hs) fun σ H Q ⟨μ, st, hid, fr, S, P⟩ => by
  refine ⟨μ, st, hid, fr, S, ?_⟩
  unfold aCons at P
  cases h : f fr st with
  | bad => rw [h] at P; exact P
  | err x s => rw [h] at P; exact P
  | ok w st1 =>
    rw [h, Out.bind_ok] at P
    intro μ1 H1 v k1 g1 r1
    have P1 := LPost.from g1 P
    refine ⟨μ1, st1, hid, fr, S.next k1 g1, ?_⟩
    cases h2 : g fr st1 with
    | bad => rw [h2] at P1; exact P1
    | err x s => rw [h2] at P1; exact P1
    | ok ws st2 =>
      rw [h2, Out.bind_ok] at P1
      intro μ2 H2 vs k2 g2 r2
      exact P1 μ2 H2 _ k2 g2 (.cons (Rep.mono g2.le g2.pre _ _ r1) r2)
def OpNS (X : Cx) (op : OpN) (r : List V → Hp → VK → Prop) : Prop := ∀ (Wx : WX) (hid μ : List Addr) (st : Sto) (σ : L2.St) (H : Hp) (Q : VK) (ws : List W) (vs : List V), StOk X.K X.mg μ st hid H → Reps X.K X.mg (Fz μ st hid H) μ ws vs →
  EPost X.K X.mg Wx hid μ st σ H Q (op ws st) → r vs H Q
def eN (op : OpN) (f : SemL) : Sem := fun fr st => (f fr st).bind fun ws st1 => op ws st1
theorem eN_read {op : OpN} {r : List V → Hp → VK → Prop} {f : SemL} (hs : OpNS X op r) : ∀ σ H Q, tE X.K X.mg Wx (eN op f) σ H Q → tA X.K X.mg Wx f σ H (fun vs H1 => r vs H1 Q) := fun σ H Q ⟨μ, st, hid, fr, S, P⟩ => by
  refine ⟨μ, st, hid, fr, S, ?_⟩
  unfold eN at P
  cases h : f fr st with
  | bad => rw [h] at P; exact P
  | err x s => rw [h] at P; exact P
  | ok w st1 =>
    rw [h, Out.bind_ok] at P
    intro μ1 H1 v k1 g1 r1
    exact hs Wx.w hid μ1 st1 σ H1 Q w v k1 r1 (EPost.from g1 P)
theorem ev_callB {id : String} {o : OpN} {r : List V → Hp → VK → Prop} {x : Str} {p pos : Pos} {e : Expr} {es : List Expr} {f : SemL} (hc : CallR X (.builtin id) r) (hs : OpNS X o r) (hm : X.mg x = none) (ha : AV X Wx (e :: es) f) (hv : bootBuiltins x = some (.builtin id) := by decide +kernel) (hg : Gl X x := by rfl)
    (hn : x ≠ "__name__" := by decide) (hdb : (x == ("__debug__" : Str)) = false := by decide) (he : starEach (e :: es) X.env = (false, eval e X.env) :: starEach es X.env := by rfl) (hpl : (backTo pos (starEach es X.env)).any (·.1) = false := by rfl) :
    EV X Wx (.Call (.Name x p) (e :: es) [] pos) (eN o f) := PEm (pe_callB hc hg hm hv ha hn hdb he hpl) (eN_read hs)
theorem ev_callTy {T : String} {o : OpN} {r : List V → Hp → VK → Prop} {x : Str} {p pos : Pos} {e : Expr} {es : List Expr} {f : SemL} (hc : CallR X (.type T) r) (hs : OpNS X o r) (hm : X.mg x = none) (ha : AV X Wx (e :: es) f) (hv : bootBuiltins x = some (.type T) := by decide +kernel) (hg : Gl X x := by rfl)
    (hn : x ≠ "__name__" := by decide) (hdb : (x == ("__debug__" : Str)) = false := by decide) (he : starEach (e :: es) X.env = (false, eval e X.env) :: starEach es X.env := by rfl) (hpl : (backTo pos (starEach es X.env)).any (·.1) = false := by rfl) :
    EV X Wx (.Call (.Name x p) (e :: es) [] pos) (eN o f) := PEm (pe_callTy hc hg hm hv ha hn hdb he hpl) (eN_read hs)

/-! ## an own def -/
def spF (K : PySem.W.Frag) (mg : Str → Option Value) (n : Nat) (F : Fn) : Sp := fun vs H Q E => ∃ hid μ st ws, vs.length = n ∧ StOk K mg μ st hid H ∧ Reps K mg (Fz μ st hid H) μ ws vs ∧ EPost K mg (fun c d _ H => E c d H) hid μ st [] H Q (F ws st)
def eCall (F : Fn) (f : SemL) : Sem := eN F f
theorem LPost.len {Wx : WX} {K : PySem.W.Frag} {mg : Str → Option Value} {hid μ : List Addr} {st : Sto} {σ : L2.St} {H : Hp} {Q Q' : List V → Hp → Prop} {o : Out (List W)} (h : LPost K mg Wx hid μ st σ H Q o) (i : ∀ vs H', Q vs H' → Q' vs H') : LPost K mg Wx hid μ st σ H Q' o := by
  cases o with
  | ok w s => exact fun μ2 H2 v a b c => i _ _ (h μ2 H2 v a b c)
  | err e s => exact h
  | bad => exact h
/-- an argument list of n -/
def ArN (n : Nat) (f : SemL) : Prop := ∀ fr st ws st', f fr st = .ok ws st' → ws.length = n
theorem arN_nil : ArN 0 aNil := fun _ _ _ _ h => by
  unfold aNil at h
  injection h with h1 _
  subst h1; rfl
theorem arN_cons {n : Nat} {f : Sem} {g : SemL} (h : ArN n g) : ArN (n + 1) (aCons f g) := fun fr st ws st' e => by
  unfold aCons at e
  cases h1 : f fr st with
  | bad => rw [h1] at e; cases e
  | err x s => rw [h1] at e; cases e
  | ok w st1 =>
    rw [h1, Out.bind_ok] at e
    cases h2 : g fr st1 with
    | bad => rw [h2] at e; cases e
    | err x s => rw [h2] at e; cases e
    | ok us st2 =>
      rw [h2, Out.bind_ok] at e
      injection e with e1 _
      subst e1
      simp [h _ _ _ _ h2]
theorem eCall_read {n : Nat} {F : Fn} {f : SemL} (ar : ArN n f) : ∀ σ H Q, tE X.K X.mg Wx (eCall F f) σ H Q → tCallS (spF X.K X.mg n F) (WE Wx.w) (tA X.K X.mg Wx f) σ H Q := fun σ H Q ⟨μ, st, hid, fr, S, P⟩ => by
  refine ⟨μ, st, hid, fr, S, ?_⟩
  unfold eCall eN at P
  cases h : f fr st with
  | bad => rw [h] at P; exact P
  | err x s => rw [h] at P; exact P
  | ok ws st1 =>
    rw [h, Out.bind_ok] at P
    intro μ1 H1 vs k1 g1 r1
    refine ⟨hid, μ1, st1, ws, by rw [← r1.length]; exact ar _ _ _ _ h, k1, r1, ?_⟩
    have P1 := EPost.from g1 P
    cases h2 : F ws st1 with
    | bad => rw [h2] at P1; exact P1
    | err x s => rw [h2] at P1; exact P1
    | ok u st2 => rw [h2] at P1; exact P1
theorem ev_call {k n : Nat} {g : Addr} {fd : FuncData} {ps : List Str} {F : Fn} {x : Str} {p pos : Pos} {e : Expr} {es : List Expr} {f : SemL} (G : FnOk X.prog X.w X.K X.mg X.base (L2.CX X.prog X.w) k g fd ps (spF X.K X.mg n F)) (hr : Room k X.A) (hm : X.mg x = some (.ref g)) (hk : PySem.W.keepIn X.K (.ref g) = true) (hb : Binds X.K fd ps [])
    (tk : Takes X Wx.w) (ha : AV X Wx (e :: es) f) (ar : ArN n f) (hg : Gl X x := by rfl) (hdb : (x == ("__debug__" : Str)) = false := by decide) (he : starEach (e :: es) X.env = (false, eval e X.env) :: starEach es X.env := by rfl) (hpl : (backTo pos (starEach es X.env)).any (·.1) = false := by rfl) :
    EV X Wx (.Call (.Name x p) (e :: es) [] pos) (eCall F f) := PEm (pe_callS G hr hg hm hk hb (fun σ => passAt tk σ) ha hdb he hpl) (eCall_read ar)

/-! ## displays -/
def small (ws : List W) : Bool := decide (ws.length ≤ 1000)
theorem small_line {ws : List W} {K : PySem.W.Frag} {mg : Str → Option Value} {F : Hp} {μ : List Addr} {vs : List V} (h : small ws = true) (r : Reps K mg F μ ws vs) : vs.length ≤ sizeLine := by
  rw [← r.length]
  exact Nat.le_of_lt (small1000 (of_decide_eq_true h))
def oTup : OpN := fun ws st => if small ws = true then .ok (.tup ws) st else .bad
def oLst : OpN := fun ws st => if small ws = true then .ok (.lst ws) st else .bad
/-- a new frozen object -/
theorem ok_new {Wx : WX} {K : PySem.W.Frag} {mg : Str → Option Value} {hid μ : List Addr} {st : Sto} {σ : L2.St} {H : Hp} {Q : VK} {w : W} {o : HO} (P : EPost K mg Wx hid μ st σ H Q (.ok w st)) (k : StOk K mg μ st hid H) {p : Addr} (hp : H p = none) (r : ∀ F, Le (Fz μ st hid H) F → F p = some o → Rep K mg F μ w (.ref p)) : Q (.ref p) (upd H p o) := by
  obtain ⟨k1, g1, e1⟩ := k.laid (o := o) hp
  exact P μ _ _ k1 g1 (r _ g1.le e1)
theorem ev_tup {es : List Expr} {f : SemL} {x1} {pos : Pos} (h : AV X Wx es f) : EV X Wx (.Tuple es x1 pos) (eN oTup f) := PEm (pe_tup h) fun σ H Q P => by
  refine eN_read (r := fun vs H1 Q => vs.length ≤ sizeLine ∧ ∀ p, H1 p = none → Q (.ref p) (upd H1 p (.tup vs))) ?_ σ H Q P
  intro Wx hid μ st σ H Q ws vs k r P
  unfold oTup at P
  split at P
  · rename_i hs
    exact ⟨small_line hs r, fun p hp => ok_new P k hp fun F l e => rep_tup e (r.mono l (.refl _))⟩
  · exact P.elim
theorem ev_lst {es : List Expr} {f : SemL} {pos : Pos} (h : AV X Wx es f) : EV X Wx (.List es pos) (eN oLst f) := PEm (pe_lst h) fun σ H Q P => by
  refine eN_read (r := fun vs H1 Q => vs.length ≤ sizeLine ∧ ∀ p, H1 p = none → Q (.ref p) (upd H1 p (.lst vs))) ?_ σ H Q P
  intro Wx hid μ st σ H Q ws vs k r P
  unfold oLst at P
  split at P
  · rename_i hs
    exact ⟨small_line hs r, fun p hp => ok_new P k hp fun F l e => rep_lst e (r.mono l (.refl _))⟩
  · exact P.elim
end
end SL

namespace SL
open PySem PySem.Spec PyProof.Rows L2

/-! ## what a cell or a value holds -/
def lstW (st : Sto) : W → Option (List W)
  | .lst ws => some ws
  | .ro ws => some ws
  | .cell k => match st[k]? with
    | some (.lst ws) => some ws
    | some (.frz (.lst ws)) => some ws
    | _ => none
  | _ => none
def tupW (st : Sto) : W → Option (List W)
  | .tup ws => some ws
  | .tpn ws => some ws
  | .cell k => match st[k]? with
    | some (.frz (.tup ws)) => some ws
    | some (.frz (.tpn ws)) => some ws
    | _ => none
  | _ => none
section
variable {K : PySem.W.Frag} {mg : Str → Option Value} {μ : List Addr} {st : Sto} {hid : List Addr} {H : Hp}
theorem SqL.fz {a : Addr} {vs : List V} (h : Fz μ st hid H a = some (.lst vs)) : SqL K H a vs := .of (Fz.sub h).1
theorem SqL.fz' {a : Addr} {vs : List V} (h : SqL K (Fz μ st hid H) a vs) : SqL K H a vs := SqL.le Fz.le h
theorem TupAt.fz {a : Addr} {vs : List V} (h : TupAt K (Fz μ st hid H) a vs) : SqT K H a vs := SqT.le Fz.le h.sq
theorem TpnAt.fz {a : Addr} {vs : List V} (h : TpnAt (Fz μ st hid H) a vs) : SqT K H a vs := SqT.le Fz.le h.sq
theorem StOk.cell (s : StOk K mg μ st hid H) {k : Nat} {c : Cel} {v : V} (h : st[k]? = some c) (r : Rep K mg (Fz μ st hid H) μ (.cell k) v) : ∃ a, v = .ref a ∧ μ[k]? = some a ∧ CelOk K mg (Fz μ st hid H) μ H a c := by
  obtain ⟨a, h1, h2⟩ := rep_cell_inv r
  exact ⟨a, h2, h1, s.ok k a c h1 h⟩
theorem lstW_at (s : StOk K mg μ st hid H) {w : W} {ws : List W} {v : V} (h : lstW st w = some ws) (r : Rep K mg (Fz μ st hid H) μ w v) : ∃ a vs, v = .ref a ∧ SqL K H a vs ∧ Reps K mg (Fz μ st hid H) μ ws vs := by
  cases w with
  | lst us =>
    unfold lstW at h; cases h
    obtain ⟨a, vs, e, h1, h2⟩ := rep_lst_inv r
    exact ⟨a, vs, e, SqL.fz h1, h2⟩
  | ro us =>
    unfold lstW at h; cases h
    obtain ⟨a, vs, e, h1, h2⟩ := rep_ro_inv r
    exact ⟨a, vs, e, SqL.fz' h1, h2⟩
  | cell k =>
    unfold lstW at h
    simp only at h
    split at h
    · rename_i us e
      cases h
      obtain ⟨a, e1, e2, vs, h1, h2⟩ := s.cell e r
      exact ⟨a, vs, e1, .of h1, h2⟩
    · rename_i us e
      cases h
      obtain ⟨a, e1, e2, h1⟩ := s.cell e r
      obtain ⟨b, vs, e3, h1, h2⟩ := rep_lst_inv h1
      cases e3
      exact ⟨a, vs, e1, SqL.fz h1, h2⟩
    · cases h
  | _ => cases h
theorem tupW_at (s : StOk K mg μ st hid H) {w : W} {ws : List W} {v : V} (h : tupW st w = some ws) (r : Rep K mg (Fz μ st hid H) μ w v) : ∃ a vs, v = .ref a ∧ SqT K H a vs ∧ Reps K mg (Fz μ st hid H) μ ws vs := by
  cases w with
  | tup us =>
    unfold tupW at h; cases h
    obtain ⟨a, vs, e, h1, h2⟩ := rep_tup_inv r
    exact ⟨a, vs, e, h1.fz, h2⟩
  | tpn us =>
    unfold tupW at h; cases h
    obtain ⟨a, vs, e, h1, h2⟩ := rep_tpn_inv r
    exact ⟨a, vs, e, h1.fz, h2⟩
  | cell k =>
    unfold tupW at h
    simp only at h
    split at h
    · rename_i us e
      cases h
      obtain ⟨a, e1, e2, h1⟩ := s.cell e r
      obtain ⟨b, vs, e3, h1, h2⟩ := rep_tup_inv h1
      cases e3
      exact ⟨a, vs, e1, h1.fz, h2⟩
    · rename_i us e
      cases h
      obtain ⟨a, e1, e2, h1⟩ := s.cell e r
      obtain ⟨b, vs, e3, h1, h2⟩ := rep_tpn_inv h1
      cases e3
      exact ⟨a, vs, e1, h1.fz, h2⟩
    · cases h
  | _ => cases h
/-- a tuple that is tracked -/
def trkW (st : Sto) : W → Option (List W)
  | .tup ws => some ws
  | .cell k => match st[k]? with
    | some (.frz (.tup ws)) => some ws
    | _ => none
  | _ => none
theorem trkW_at (s : StOk K mg μ st hid H) {w : W} {ws : List W} {v : V} (h : trkW st w = some ws) (r : Rep K mg (Fz μ st hid H) μ w v) : ∃ a vs, v = .ref a ∧ TupAt K (Fz μ st hid H) a vs ∧ Reps K mg (Fz μ st hid H) μ ws vs := by
  cases w with
  | tup us =>
    unfold trkW at h; cases h
    exact rep_tup_inv r
  | cell k =>
    unfold trkW at h
    simp only at h
    split at h
    · rename_i us e
      cases h
      obtain ⟨a, e1, e2, h1⟩ := s.cell e r
      obtain ⟨b, vs, e3, h1, h2⟩ := rep_tup_inv h1
      cases e3
      exact ⟨a, vs, e1, h1, h2⟩
    · cases h
  | _ => cases h
/-- a list or a tuple -/
def seqW (st : Sto) (w : W) : Option (List W) := match lstW st w with
  | some ws => some ws
  | none => tupW st w
theorem seqW_at (s : StOk K mg μ st hid H) {w : W} {ws : List W} {v : V} (h : seqW st w = some ws) (r : Rep K mg (Fz μ st hid H) μ w v) : ∃ a vs, v = .ref a ∧ (SqL K H a vs ∨ SqT K H a vs) ∧ Reps K mg (Fz μ st hid H) μ ws vs := by
  unfold seqW at h
  split at h
  · rename_i us e
    cases h
    obtain ⟨a, vs, e1, e2, e3⟩ := lstW_at s e r
    exact ⟨a, vs, e1, .inl e2, e3⟩
  · obtain ⟨a, vs, e1, e2, e3⟩ := tupW_at s h r
    exact ⟨a, vs, e1, .inr e2, e3⟩
end
section
variable {X : Cx}

/-! ## ints -/
def LINE : Nat := 16777216
theorem le_line {n : Nat} (h : n ≤ LINE) : n ≤ sizeLine := by rw [sizeLine_eq]; exact h
def oAdd : Op2 := fun x y st => match x, y with
  | .int i, .int j => .ok (.int (i + j)) st
  | .str a, .str b => if a.length + b.length ≤ LINE then .ok (.str (a ++ b)) st else .bad
  | .tup a, .tup b => if a.length + b.length ≤ LINE then .ok (.tup (a ++ b)) st else .bad
  | .lst a, .lst b => if a.length + b.length ≤ LINE then .ok (.lst (a ++ b)) st else .bad
  | _, _ => .bad
def rAddAll (K : PySem.W.Frag) : R2 := fun x y H Q => rI0 (fun i j => .int (i + j)) x y H Q ∨ (∃ i j, x = .str i ∧ y = .str j ∧ i.length + j.length ≤ sizeLine ∧ Q (.str (i ++ j)) H) ∨ rCatA K x y H Q ∨ rCat x y H Q
theorem or_add : OpR X (binaryOp .Add) (rAddAll X.K) := op_add.or (op_add_str.or (op_catA.or op_cat))
theorem os_add : Op2S X oAdd (rAddAll X.K) := by
  intro Wx hid μ st σ H Q w u x y k rx ry P
  unfold oAdd at P
  split at P
  · cases rep_int_inv rx; cases rep_int_inv ry
    exact .inl ⟨_, _, rfl, rfl, P μ H _ k .refl rep_int⟩
  · cases rep_str_inv rx; cases rep_str_inv ry
    split at P
    · rename_i hz
      exact .inr (.inl ⟨_, _, rfl, rfl, le_line hz, P μ H _ k .refl rep_str⟩)
    · exact P.elim
  · split at P
    · rename_i a b hz
      obtain ⟨p, vs, rfl, h1, h2⟩ := rep_tup_inv rx
      obtain ⟨q, zs, rfl, h3, h4⟩ := rep_tup_inv ry
      refine .inr (.inr (.inl ⟨p, q, vs, zs, rfl, rfl, h1.fz, h3.fz, by rw [← h2.length, ← h4.length]; exact le_line hz, fun e => ?_, fun _ e => ?_, fun _ _ t ht => ?_⟩))
      · subst e
        have : a = [] := List.eq_nil_of_length_eq_zero (by rw [h2.length]; rfl)
        subst this
        exact P μ H _ k .refl (by simpa using ry)
      · subst e
        have : b = [] := List.eq_nil_of_length_eq_zero (by rw [h4.length]; rfl)
        subst this
        exact P μ H _ k .refl (by simpa using rx)
      · exact ok_new P k ht fun F l e => rep_tup e ((h2.append h4).mono l (.refl _))
    · exact P.elim
  · split at P
    · rename_i a b hz
      obtain ⟨p, vs, rfl, h1, h2⟩ := rep_lst_inv rx
      obtain ⟨q, zs, rfl, h3, h4⟩ := rep_lst_inv ry
      refine .inr (.inr (.inr ⟨p, q, vs, zs, rfl, rfl, (Fz.sub h1).1, (Fz.sub h3).1, by rw [← h2.length, ← h4.length]; exact le_line hz, fun t ht => ?_⟩))
      exact ok_new P k ht fun F l e => rep_lst e ((h2.append h4).mono l (.refl _))
    · exact P.elim
  · exact P.elim
def oSub : Op2 := fun x y st => match x, y with
  | .int i, .int j => .ok (.int (i - j)) st
  | _, _ => .bad
theorem os_sub : Op2S X oSub (rI0 fun i j => .int (i - j)) := by
  intro Wx hid μ st σ H Q w u x y k rx ry P
  unfold oSub at P
  split at P
  · cases rep_int_inv rx; cases rep_int_inv ry
    exact ⟨_, _, rfl, rfl, P μ H _ k .refl rep_int⟩
  · exact P.elim
/-- a condition that nothing reckons out -/
noncomputable def dec (p : Prop) : Bool := @decide p (Classical.propDecidable p)
theorem dec_of {p : Prop} (h : dec p = true) : p := @of_decide_eq_true p (Classical.propDecidable p) h
theorem dec_mk {p : Prop} (h : p) : dec p = true := @decide_eq_true p (Classical.propDecidable p) h
noncomputable def mulOk (i j : Int) : Bool := dec ((-(2 ^ 64) < i ∧ i < 2 ^ 64) ∨ (-(2 ^ 64) < j ∧ j < 2 ^ 64)) || dec (i.natAbs.log2 + j.natAbs.log2 < 1000000)
noncomputable def oMul : Op2 := fun x y st => match x, y with
  | .int i, .int j => if mulOk i j = true then .ok (.int (i * j)) st else .bad
  | _, _ => .bad
def rMulAll : R2 := fun x y H Q => rI CMul (fun i j => .int (i * j)) x y H Q ∨ rI CMulW (fun i j => .int (i * j)) x y H Q
theorem or_mul : OpR X (binaryOp .Mult) rMulAll := op_mul.or op_mulW
theorem os_mul : Op2S X oMul rMulAll := by
  intro Wx hid μ st σ H Q w u x y k rx ry P
  unfold oMul at P
  split at P
  · cases rep_int_inv rx; cases rep_int_inv ry
    split at P
    · rename_i hz
      unfold mulOk at hz
      rw [Bool.or_eq_true] at hz
      rcases hz with hz | hz
      · have hz' := dec_of hz
        exact .inl ⟨_, _, rfl, rfl, hz', P μ H _ k .refl rep_int⟩
      · have hz' := dec_of hz
        exact .inr ⟨_, _, rfl, rfl, hz', P μ H _ k .refl rep_int⟩
    · exact P.elim
  · exact P.elim
noncomputable def oDiv : Op2 := fun x y st => match x, y with
  | .int i, .int j => if dec (0 < j ∧ j.natAbs.log2 < 9000) = true then .ok (.int (i / j)) st else .bad
  | _, _ => .bad
theorem os_div : Op2S X oDiv (rI CDivW fun i j => .int (i / j)) := by
  intro Wx hid μ st σ H Q w u x y k rx ry P
  unfold oDiv at P
  split at P
  · cases rep_int_inv rx; cases rep_int_inv ry
    split at P
    · rename_i hz
      exact ⟨_, _, rfl, rfl, dec_of hz, P μ H _ k .refl rep_int⟩
    · exact P.elim
  · exact P.elim
def oMod : Op2 := fun x y st => match x, y with
  | .int i, .int j => if 0 < j then .ok (.int (i % j)) st else .bad
  | _, _ => .bad
theorem os_mod : Op2S X oMod (rI (fun _ j => 0 < j) fun i j => .int (i % j)) := by
  intro Wx hid μ st σ H Q w u x y k rx ry P
  unfold oMod at P
  split at P
  · cases rep_int_inv rx; cases rep_int_inv ry
    split at P
    · rename_i hz
      exact ⟨_, _, rfl, rfl, hz, P μ H _ k .refl rep_int⟩
    · exact P.elim
  · exact P.elim
noncomputable def oPow : Op2 := fun x y st => match x, y with
  | .int i, .int j => if dec (0 ≤ j ∧ j ≤ 1000000 ∧ i.natAbs < 2 ^ 64) = true then .ok (.int (i ^ j.toNat)) st else .bad
  | _, _ => .bad
theorem os_pow : Op2S X oPow (rI CPow fun i j => .int (i ^ j.toNat)) := by
  intro Wx hid μ st σ H Q w u x y k rx ry P
  unfold oPow at P
  split at P
  · cases rep_int_inv rx; cases rep_int_inv ry
    split at P
    · rename_i hz
      exact ⟨_, _, rfl, rfl, dec_of hz, P μ H _ k .refl rep_int⟩
    · exact P.elim
  · exact P.elim
def oNeg : Op1 := fun x st => match x with
  | .int i => .ok (.int (-i)) st
  | _ => .bad
theorem os_neg : Op1S X oNeg (rU fun i => .int (-i)) := by
  intro Wx hid μ st σ H Q w x k rx P
  unfold oNeg at P
  split at P
  · cases rep_int_inv rx
    exact ⟨_, rfl, P μ H _ k .refl rep_int⟩
  · exact P.elim
/-- order of ints, of texts -/
def oCmpI (p : Int → Int → Bool) (q : List Nat → List Nat → Bool) : Op2 := fun x y st => match x, y with
  | .int i, .int j => .ok (.bl (p i j)) st
  | .str a, .str b => .ok (.bl (q a.cps.toList b.cps.toList)) st
  | _, _ => .bad
def oLt : Op2 := oCmpI (fun i j => decide (i < j)) fun a b => decide (a < b)
def oLe : Op2 := fun x y st => match x, y with
  | .int i, .int j => .ok (.bl (decide (i ≤ j))) st
  | _, _ => .bad
def oGt : Op2 := fun x y st => match x, y with
  | .int i, .int j => .ok (.bl (decide (j < i))) st
  | _, _ => .bad
def oGe : Op2 := fun x y st => match x, y with
  | .int i, .int j => .ok (.bl (decide (j ≤ i))) st
  | _, _ => .bad
def rLtAll : R2 := fun x y H Q => rI0 (fun i j => .bl (decide (i < j))) x y H Q ∨ (∃ i j, x = .str i ∧ y = .str j ∧ Q (.bl (decide (i.cps.toList < j.cps.toList))) H)
theorem or_lt : OpR X (compareOp .Lt) rLtAll := op_lt.or op_lt_str
theorem os_lt : Op2S X oLt rLtAll := by
  intro Wx hid μ st σ H Q w u x y k rx ry P
  unfold oLt oCmpI at P
  split at P
  · cases rep_int_inv rx; cases rep_int_inv ry
    exact .inl ⟨_, _, rfl, rfl, P μ H _ k .refl rep_bl⟩
  · cases rep_str_inv rx; cases rep_str_inv ry
    exact .inr ⟨_, _, rfl, rfl, P μ H _ k .refl rep_bl⟩
  · exact P.elim
theorem os_le : Op2S X oLe (rI0 fun i j => .bl (decide (i ≤ j))) := by
  intro Wx hid μ st σ H Q w u x y k rx ry P
  unfold oLe at P
  split at P
  · cases rep_int_inv rx; cases rep_int_inv ry
    exact ⟨_, _, rfl, rfl, P μ H _ k .refl rep_bl⟩
  · exact P.elim
theorem os_gt : Op2S X oGt (rI0 fun i j => .bl (decide (j < i))) := by
  intro Wx hid μ st σ H Q w u x y k rx ry P
  unfold oGt at P
  split at P
  · cases rep_int_inv rx; cases rep_int_inv ry
    exact ⟨_, _, rfl, rfl, P μ H _ k .refl rep_bl⟩
  · exact P.elim
theorem os_ge : Op2S X oGe (rI0 fun i j => .bl (decide (j ≤ i))) := by
  intro Wx hid μ st σ H Q w u x y k rx ry P
  unfold oGe at P
  split at P
  · cases rep_int_inv rx; cases rep_int_inv ry
    exact ⟨_, _, rfl, rfl, P μ H _ k .refl rep_bl⟩
  · exact P.elim

/-! ## == of data -/
mutual
def pdW : W → Option PyData
  | .non => some .none
  | .bl b => some (.bool b)
  | .int i => some (.int i)
  | .str x => some (.str x)
  | .tup ws => (pdWs ws).map .tuple
  | .lst ws => (pdWs ws).map .list
  | .ro ws => (pdWs ws).map .list
  | .tpn ws => (pdWs ws).map .tuple
  | _ => none
def pdWs : List W → Option (List PyData)
  | [] => some []
  | w :: r => match pdW w, pdWs r with
    | some d, some ds => some (d :: ds)
    | _, _ => none
end
mutual
theorem pdW_at {K : PySem.W.Frag} {mg : Str → Option Value} {F H : Hp} {μ : List Addr} (l : Le F H) : ∀ (w : W) (v : V) (d : PyData), pdW w = some d → Rep K mg F μ w v → Dp K H v d
  | .non, v, d, h, r => by unfold pdW at h; cases h; cases rep_non_inv r; exact .non
  | .bl b, v, d, h, r => by unfold pdW at h; cases h; cases rep_bl_inv r; exact .bl b
  | .int b, v, d, h, r => by unfold pdW at h; cases h; cases rep_int_inv r; exact .int b
  | .str b, v, d, h, r => by unfold pdW at h; cases h; cases rep_str_inv r; exact .str b
  | .tup ws, v, d, h, r => by
    unfold pdW at h
    obtain ⟨a, vs, rfl, h1, h2⟩ := rep_tup_inv r
    cases e : pdWs ws with
    | none => rw [e] at h; cases h
    | some ds =>
      rw [e] at h; cases h
      exact .tup (SqT.le l h1.sq) (pdWs_at l ws vs ds e h2)
  | .lst ws, v, d, h, r => by
    unfold pdW at h
    obtain ⟨a, vs, rfl, h1, h2⟩ := rep_lst_inv r
    cases e : pdWs ws with
    | none => rw [e] at h; cases h
    | some ds =>
      rw [e] at h; cases h
      exact .lst (.of (l.lst h1)) (pdWs_at l ws vs ds e h2)
  | .tpn ws, v, d, h, r => by
    unfold pdW at h
    obtain ⟨a, vs, rfl, h1, h2⟩ := rep_tpn_inv r
    cases e : pdWs ws with
    | none => rw [e] at h; cases h
    | some ds =>
      rw [e] at h; cases h
      exact .tup (SqT.le l h1.sq) (pdWs_at l ws vs ds e h2)
  | .ro ws, v, d, h, r => by
    unfold pdW at h
    obtain ⟨a, vs, rfl, h1, h2⟩ := rep_ro_inv r
    cases e : pdWs ws with
    | none => rw [e] at h; cases h
    | some ds =>
      rw [e] at h; cases h
      exact .lst (SqL.le l h1) (pdWs_at l ws vs ds e h2)
  | .dct ks ws, v, d, h, r => by unfold pdW at h; cases h
  | .ins c ks ws, v, d, h, r => by unfold pdW at h; cases h
  | .cell k, v, d, h, r => by unfold pdW at h; cases h
  | .ty k, v, d, h, r => by unfold pdW at h; cases h
  | .cls k, v, d, h, r => by unfold pdW at h; cases h
theorem pdWs_at {K : PySem.W.Frag} {mg : Str → Option Value} {F H : Hp} {μ : List Addr} (l : Le F H) : ∀ (ws : List W) (vs : List V) (ds : List PyData), pdWs ws = some ds → Reps K mg F μ ws vs → DpAll K H vs ds
  | [], vs, ds, h, r => by
    unfold pdWs at h; cases h
    rw [Reps.nil_iff] at r; subst r; exact .nil
  | w :: ws, vs, ds, h, r => by
    unfold pdWs at h
    obtain ⟨v, vr, rfl, r1, r2⟩ := r.cons_inv
    cases e1 : pdW w with
    | none => rw [e1] at h; cases h
    | some d =>
      cases e2 : pdWs ws with
      | none => rw [e1, e2] at h; cases h
      | some dr =>
        rw [e1, e2] at h; cases h
        exact .cons (pdW_at l w v d e1 r1) (pdWs_at l ws vr dr e2 r2)
end
/-- .. with a cell looked into -/
def pdT (st : Sto) : W → Option PyData
  | .cell k => match st[k]? with
    | some (.lst ws) => (pdWs ws).map .list
    | some (.frz w) => pdW w
    | _ => none
  | w => pdW w
theorem pdT_at {K : PySem.W.Frag} {mg : Str → Option Value} {H : Hp} {hid μ : List Addr} {st : Sto} (k : StOk K mg μ st hid H) {w : W} {v : V} {d : PyData} (h : pdT st w = some d) (r : Rep K mg (Fz μ st hid H) μ w v) : Dp K H v d := by
  cases w with
  | cell n =>
    unfold pdT at h
    simp only at h
    split at h
    · rename_i ws e
      obtain ⟨a, rfl, e2, vs, h1, h2⟩ := k.cell e r
      cases e3 : pdWs ws with
      | none => rw [e3] at h; cases h
      | some ds =>
        rw [e3] at h; cases h
        exact .lst (.of h1) (pdWs_at Fz.le ws vs ds e3 h2)
    · rename_i u e
      obtain ⟨a, rfl, e2, h1⟩ := k.cell e r
      exact pdW_at Fz.le u _ d h h1
    · cases h
  | _ => exact pdW_at Fz.le _ _ _ h r
def eqW (st : Sto) (x y : W) : Option Bool := match pdT st x, pdT st y with
  | some d, some e => if SeqAt.shaped d && SeqAt.shaped e then some (PyData.eqv d e) else none
  | _, _ => none
def oEq : Op2 := fun x y st => match eqW st x y with
  | some b => .ok (.bl b) st
  | none => .bad
def oNe : Op2 := fun x y st => match eqW st x y with
  | some b => .ok (.bl (!b)) st
  | none => .bad
theorem eqW_at {K : PySem.W.Frag} {mg : Str → Option Value} {H : Hp} {hid μ : List Addr} {st : Sto} (k : StOk K mg μ st hid H) {w u : W} {x y : V} {b : Bool} (h : eqW st w u = some b) (rx : Rep K mg (Fz μ st hid H) μ w x) (ry : Rep K mg (Fz μ st hid H) μ u y) :
    ∃ d e, Dp K H x d ∧ Dp K H y e ∧ SeqAt.shaped d = true ∧ SeqAt.shaped e = true ∧ b = PyData.eqv d e := by
  unfold eqW at h
  split at h
  · rename_i d e h1 h2
    split at h
    · rename_i h3
      rw [Bool.and_eq_true] at h3
      cases h
      exact ⟨d, e, pdT_at k h1 rx, pdT_at k h2 ry, h3.1, h3.2, rfl⟩
    · cases h
  · cases h
theorem os_eq : Op2S X oEq (rEqD X.K) := by
  intro Wx hid μ st σ H Q w u x y k rx ry P
  unfold oEq at P
  split at P
  · rename_i b h
    obtain ⟨d, e, h1, h2, h3, h4, rfl⟩ := eqW_at k h rx ry
    exact ⟨d, e, h1, h2, h3, h4, P μ H _ k .refl rep_bl⟩
  · exact P.elim
theorem os_ne : Op2S X oNe (rNeD X.K) := by
  intro Wx hid μ st σ H Q w u x y k rx ry P
  unfold oNe at P
  split at P
  · rename_i b h
    obtain ⟨d, e, h1, h2, h3, h4, rfl⟩ := eqW_at k h rx ry
    exact ⟨d, e, h1, h2, h3, h4, P μ H _ k .refl rep_bl⟩
  · exact P.elim
/-- is None, is a bool -/
def isNon : W → Bool
  | .non => true
  | _ => false
theorem isNon_at {K : PySem.W.Frag} {mg : Str → Option Value} {F : Hp} {μ : List Addr} : ∀ {w : W} {v : V}, Rep K mg F μ w v → decide (v = .non) = isNon w := fun {w v} r => by
  cases w with
  | non => cases rep_non_inv r; rfl
  | bl b => cases rep_bl_inv r; rfl
  | int b => cases rep_int_inv r; rfl
  | str b => cases rep_str_inv r; rfl
  | ty b => cases rep_ty_inv r; rfl
  | cls b => obtain ⟨C, _, rfl⟩ := rep_cls_inv r; rfl
  | tup ws => obtain ⟨a, vs, rfl, _⟩ := rep_tup_inv r; rfl
  | lst ws => obtain ⟨a, vs, rfl, _⟩ := rep_lst_inv r; rfl
  | ro ws => obtain ⟨a, vs, rfl, _⟩ := rep_ro_inv r; rfl
  | tpn ws => obtain ⟨a, vs, rfl, _⟩ := rep_tpn_inv r; rfl
  | cell k => obtain ⟨a, _, rfl⟩ := rep_cell_inv r; rfl
  | dct ks ws => unfold Rep at r; obtain ⟨a, vs, rfl, _⟩ := r; rfl
  | ins c ns ws => unfold Rep at r; obtain ⟨a, C, dx, vs, rfl, _⟩ := r; rfl
def oIs : Op2 := fun x y st => match y with
  | .non => .ok (.bl (isNon x)) st
  | .bl b => match x with
    | .bl a => .ok (.bl (decide (a = b))) st
    | _ => .bad
  | _ => .bad
def oIsN : Op2 := fun x y st => match y with
  | .non => .ok (.bl (!isNon x)) st
  | .bl b => match x with
    | .bl a => .ok (.bl (!decide (a = b))) st
    | _ => .bad
  | _ => .bad
def rIsAll : R2 := fun x y H Q => (y = .non ∧ Q (.bl (decide (x = .non))) H) ∨ rIsB x y H Q
def rIsNAll : R2 := fun x y H Q => (y = .non ∧ Q (.bl (!decide (x = .non))) H) ∨ rNotB x y H Q
theorem or_is : OpR X (compareOp .Is) rIsAll := op_isN.or op_isBl
theorem or_isN : OpR X (compareOp .IsNot) rIsNAll := op_notN.or op_notBl
theorem os_is : Op2S X oIs rIsAll := by
  intro Wx hid μ st σ H Q w u x y k rx ry P
  unfold oIs at P
  split at P
  · refine .inl ⟨rep_non_inv ry, ?_⟩
    rw [isNon_at rx]
    exact P μ H _ k .refl rep_bl
  · split at P
    · exact .inr ⟨_, _, rep_bl_inv rx, rep_bl_inv ry, P μ H _ k .refl rep_bl⟩
    · exact P.elim
  · exact P.elim
theorem os_isN : Op2S X oIsN rIsNAll := by
  intro Wx hid μ st σ H Q w u x y k rx ry P
  unfold oIsN at P
  split at P
  · refine .inl ⟨rep_non_inv ry, ?_⟩
    rw [isNon_at rx]
    exact P μ H _ k .refl rep_bl
  · split at P
    · exact .inr ⟨_, _, rep_bl_inv rx, rep_bl_inv ry, P μ H _ k .refl rep_bl⟩
    · exact P.elim
  · exact P.elim

/-! ## isinstance -/
/-- a walked dict of tuple keys is asked nothing -/
def tlK : List W → Bool
  | .ty t :: _ => t == "TL"
  | _ => false
def tyW (st : Sto) : W → Option String
  | .non => some "NoneType"
  | .bl _ => some "bool"
  | .int _ => some "int"
  | .str _ => some "str"
  | .tup _ => some "tuple"
  | .tpn _ => some "tuple"
  | .lst _ => some "list"
  | .dct ks _ => if tlK ks = true then none else some "dict"
  | .cell k => match st[k]? with
    | some (.lst _) => some "list"
    | some (.dct ks _) => if tlK ks = true then none else some "dict"
    | some (.frz (.lst _)) => some "list"
    | some (.frz (.tup _)) => some "tuple"
    | _ => none
  | _ => none
theorem kind_T {ks : List W} {q : List Key ⊕ List (List Key)} {l : Bool} (h : kindW ks = some (l, q)) : (∃ kk, q = .inl kk) ∨ ((∃ kk, q = .inr kk) ∧ (l = false ∨ tlK ks = true)) := by
  cases ks with
  | nil => cases h; exact .inl ⟨_, rfl⟩
  | cons w ks =>
    cases w with
    | ty t =>
      have z : kindW (.ty t :: ks) = if t = "L" then (mapO keyW ks).map fun kk => (true, .inl kk) else if t = "T" then (mapO keyT ks).map fun kk => (false, .inr kk) else if t = "TL" then (mapO keyT ks).map fun kk => (true, .inr kk) else none := rfl
      rw [z] at h
      by_cases h1 : t = "L"
      · rw [if_pos h1] at h
        cases m : mapO keyW ks with
        | none => rw [m] at h; cases h
        | some kk => rw [m] at h; cases h; exact .inl ⟨_, rfl⟩
      · rw [if_neg h1] at h
        by_cases h2 : t = "T"
        · rw [if_pos h2] at h
          cases m : mapO keyT ks with
          | none => rw [m] at h; cases h
          | some kk => rw [m] at h; cases h; exact .inr ⟨⟨_, rfl⟩, .inl rfl⟩
        · rw [if_neg h2] at h
          by_cases h3 : t = "TL"
          · exact .inr ⟨by
              rw [if_pos h3] at h
              cases m : mapO keyT ks with
              | none => rw [m] at h; cases h
              | some kk => rw [m] at h; cases h; exact ⟨_, rfl⟩, .inr (beq_iff_eq.mpr h3)⟩
          · rw [if_neg h3] at h; cases h
    | int i =>
      have z : kindW (.int i :: ks) = (mapO keyW (.int i :: ks)).map fun kk => (false, .inl kk) := rfl
      rw [z] at h
      cases m : mapO keyW (.int i :: ks) with
      | none => rw [m] at h; cases h
      | some kk => rw [m] at h; cases h; exact .inl ⟨_, rfl⟩
    | str i =>
      have z : kindW (.str i :: ks) = (mapO keyW (.str i :: ks)).map fun kk => (false, .inl kk) := rfl
      rw [z] at h
      cases m : mapO keyW (.str i :: ks) with
      | none => rw [m] at h; cases h
      | some kk => rw [m] at h; cases h; exact .inl ⟨_, rfl⟩
    | _ => cases h
theorem dct_ty {K : PySem.W.Frag} {F H : Hp} {a : Addr} {ks : List W} {vs : List V} (l : ∀ o, F a = some o → H a = some o) (h : DctAt F a ks vs) (ht : ¬ tlK ks = true) : TyX K H (.ref a) (.type "dict") := by
  obtain ⟨b, q, h1, h2, h3, h4⟩ := h
  rcases kind_T h1 with ⟨kk, rfl⟩ | ⟨⟨kk, rfl⟩, hb | hb⟩
  · rcases h3 with h3 | ⟨o, h3⟩
    · exact .base (.dK (l _ h3))
    · exact .fDict (l _ h3)
  · exact .base (.dT (l _ (h4 hb kk rfl)))
  · exact absurd hb ht
theorem tup_ty {K : PySem.W.Frag} {F H : Hp} {a : Addr} {vs : List V} (l : Le F H) (h : TupAt K F a vs) : TyX K H (.ref a) (.type "tuple") := by
  exact .base (.tup (l.fix _ _ trivial h))
theorem tyW_at {K : PySem.W.Frag} {mg : Str → Option Value} {H : Hp} {hid μ : List Addr} {st : Sto} (k : StOk K mg μ st hid H) {w : W} {v : V} {t : String} (h : tyW st w = some t) (r : Rep K mg (Fz μ st hid H) μ w v) : TyX K H v (.type t) := by
  cases w with
  | non => unfold tyW at h; cases h; cases rep_non_inv r; exact .base .non
  | bl b => unfold tyW at h; cases h; cases rep_bl_inv r; exact .base (.bl b)
  | int b => unfold tyW at h; cases h; cases rep_int_inv r; exact .base (.int b)
  | str b => unfold tyW at h; cases h; cases rep_str_inv r; exact .base (.str b)
  | tup ws => unfold tyW at h; cases h; obtain ⟨a, vs, rfl, h1, _⟩ := rep_tup_inv r; exact tup_ty Fz.le h1
  | tpn ws => unfold tyW at h; cases h; obtain ⟨a, vs, rfl, ⟨o, _, h1⟩, _⟩ := rep_tpn_inv r; exact .fTuple (Fz.sub h1).1
  | lst ws => unfold tyW at h; cases h; obtain ⟨a, vs, rfl, h1, _⟩ := rep_lst_inv r; exact .base (.lst (Fz.sub h1).1)
  | dct ks ws =>
    have h' : (if tlK ks = true then none else some "dict") = some t := h
    split at h'
    · cases h'
    · rename_i ht
      cases h'
      unfold Rep at r
      obtain ⟨a, vs, rfl, h1, _⟩ := r
      exact dct_ty (fun _ z => (Fz.sub z).1) h1 ht
  | cell n =>
    unfold tyW at h
    simp only at h
    split at h
    · rename_i ws e
      cases h
      obtain ⟨a, rfl, e2, vs, h1, h2⟩ := k.cell e r
      exact .base (.lst h1)
    · rename_i ks ws e
      by_cases ht : tlK ks = true
      · rw [if_pos ht] at h; cases h
      · rw [if_neg ht] at h
        cases h
        obtain ⟨a, rfl, e2, vs, h1, h2⟩ := k.cell e r
        exact dct_ty (fun _ z => z) h1.rd ht
    · rename_i ws e
      cases h
      obtain ⟨a, rfl, e2, h1⟩ := k.cell e r
      obtain ⟨b, vs, e3, h2, _⟩ := rep_lst_inv h1
      cases e3
      exact .base (.lst (Fz.sub h2).1)
    · rename_i ws e
      cases h
      obtain ⟨a, rfl, e2, h1⟩ := k.cell e r
      obtain ⟨b, vs, e3, h2, _⟩ := rep_tup_inv h1
      cases e3
      exact tup_ty Fz.le h2
    · cases h
  | _ => cases h
/-- is a value of the type a one of b? -/
def subT (a b : String) : Bool := a == b || (a == "bool" && b == "int")
def tyNames : List W → Option (List String)
  | [] => some []
  | .ty n :: r => (tyNames r).map (n :: ·)
  | _ => none
def tyN (n : String) : Bool := n == "int" || n == "bool" || n == "str" || n == "tuple" || n == "list" || n == "dict" || n == "NoneType"
theorem kit_sub {K : PySem.W.Frag} {a b : String} (ha : tyN a = true) (hb : tyN b = true) : PySem.W.kitOne K (.type a) (.type b) = some (subT a b) := by
  simp only [tyN, Bool.or_eq_true, beq_iff_eq] at ha hb
  rcases ha with (((((rfl | rfl) | rfl) | rfl) | rfl) | rfl) | rfl <;> rcases hb with (((((rfl | rfl) | rfl) | rfl) | rfl) | rfl) | rfl <;> exact kit_ty (by decide +kernel)
end
end SL

namespace SL
open PySem PySem.Spec PyProof.Rows L2
section
variable {K : PySem.W.Frag} {mg : Str → Option Value} {μ : List Addr} {st : Sto} {hid : List Addr} {H F : Hp}
theorem reps1 {ws : List W} {w : W} {vs : List V} (r : Reps K mg F μ [w] vs) : ∃ v, vs = [v] ∧ Rep K mg F μ w v := by
  obtain ⟨v, t, rfl, h1, h2⟩ := r.cons_inv
  rw [Reps.nil_iff] at h2; subst h2
  exact ⟨v, rfl, h1⟩
theorem reps2 {w u : W} {vs : List V} (r : Reps K mg F μ [w, u] vs) : ∃ v x, vs = [v, x] ∧ Rep K mg F μ w v ∧ Rep K mg F μ u x := by
  obtain ⟨v, t, rfl, h1, h2⟩ := r.cons_inv
  obtain ⟨x, rfl, h3⟩ := reps1 (ws := []) h2
  exact ⟨v, x, rfl, h1, h3⟩
theorem tyNames_at : ∀ {ws : List W} {ns : List String} {vs : List V}, tyNames ws = some ns → Reps K mg F μ ws vs → vs = ns.map V.ty
  | [], ns, vs, h, r => by unfold tyNames at h; cases h; rw [Reps.nil_iff] at r; subst r; rfl
  | .ty n :: ws, ns, vs, h, r => by
    unfold tyNames at h
    obtain ⟨v, t, rfl, h1, h2⟩ := r.cons_inv
    cases e : tyNames ws with
    | none => rw [e] at h; cases h
    | some ms =>
      rw [e] at h; cases h
      rw [rep_ty_inv h1, tyNames_at e h2]; rfl
  | .non :: _, _, _, h, _ | .bl _ :: _, _, _, h, _ | .int _ :: _, _, _, h, _ | .str _ :: _, _, _, h, _ | .tup _ :: _, _, _, h, _ | .lst _ :: _, _, _, h, _ | .dct _ _ :: _, _, _, h, _ | .ins _ _ _ :: _, _, _, h, _ | .cell _ :: _, _, _, h, _ | .ro _ :: _, _, _, h, _ | .tpn _ :: _, _, _, h, _ | .cls _ :: _, _, _, h, _ => by unfold tyNames at h; cases h
theorem kitAny_names {a : String} (ha : tyN a = true) : ∀ ns : List String, ns.all tyN = true → PySem.W.kitAny K (.type a) (ns.map Value.type) = some (ns.any (subT a))
  | [], _ => rfl
  | n :: ns, h => by
    rw [List.all_cons, Bool.and_eq_true] at h
    refine kitAny_cons (kit_sub ha h.1) (fun e => ?_) fun e => ?_
    · rw [kitAny_names ha ns h.2, List.any_cons, e]; rfl
    · rw [List.any_cons, e]; rfl
end
section
variable {X : Cx}
/-- isinstance(x, T), isinstance(x, (T1, ..)) of built-in types -/
def oIsi : OpN := fun ws st => match ws with
  | [x, .ty n] => match tyW st x with
    | some t => if tyN t && tyN n then .ok (.bl (subT t n)) st else .bad
    | none => .bad
  | [x, .tup cs] => match tyW st x, tyNames cs with
    | some t, some ns => if tyN t && ns.all tyN then .ok (.bl (ns.any (subT t))) st else .bad
    | _, _ => .bad
  | _ => .bad
def rIsiAll (K : PySem.W.Frag) : List V → Hp → VK → Prop := fun vs H Q => rIsi K vs H Q ∨ rIsiT K vs H Q ∨ rIsiK K vs H Q
theorem cr_isi : CallR X (.builtin "isinstance") (rIsiAll X.K) := call_isi.or (call_isiT.or call_isiK)
theorem paired_ty : ∀ ns : List String, Paired ClsV (ns.map V.ty) (ns.map Value.type)
  | [] => .nil
  | n :: ns => .cons (.ty n) (paired_ty ns)
theorem vals_tyN : ∀ {ns : List String} {us : List Value}, Vals (ns.map V.ty) us → us = ns.map Value.type
  | [], _, .nil => rfl
  | n :: ns, _, .cons r t => by rw [vals_tyN t, show _ = Value.type n from r]; rfl
theorem os_isi : OpNS X oIsi (rIsiAll X.K) := by
  intro Wx hid μ st σ H Q ws vs k r P
  unfold oIsi at P
  split at P
  · rename_i x n
    obtain ⟨v, c, rfl, r1, r2⟩ := reps2 r
    split at P
    · rename_i t e
      split at P
      · rename_i ht
        rw [Bool.and_eq_true] at ht
        rw [rep_ty_inv r2]
        exact .inl ⟨v, .ty n, .type t, .type n, _, rfl, .ty n, tyW_at k e r1, kit_sub ht.1 ht.2, P μ H _ k .refl rep_bl⟩
      · exact P.elim
    · exact P.elim
  · rename_i x cs
    obtain ⟨v, c, rfl, r1, r2⟩ := reps2 r
    split at P
    · rename_i t ns e1 e2
      split at P
      · rename_i ht
        rw [Bool.and_eq_true] at ht
        obtain ⟨a, us, rfl, h1, h2⟩ := rep_tup_inv r2
        have e3 := tyNames_at e2 h2
        subst e3
        exact .inr (.inl ⟨v, a, _, .type t, _, _, rfl, (Fz.sub h1).1, paired_ty ns, tyW_at k e1 r1, kitAny_names ht.1 ns ht.2, P μ H _ k .refl rep_bl⟩)
      · exact P.elim
    · exact P.elim
  · exact P.elim
theorem ev_ty {n : String} {x : Str} {pos : Pos} {Wx : Wish} (hm : X.mg x = none) (hv : bootBuiltins x = some (.type n) := by decide +kernel) (hg : Gl X x := by rfl) (hn : x ≠ "__name__" := by decide) (hd : (x == ("__debug__" : Str)) = false := by decide) : EV X Wx (.Name x pos) (eC (.ty n)) :=
  ev_c (v := .ty n) (pe_bltn hg hm hv rfl hn hd) fun F μ => by unfold Rep; rfl

/-! ## len, list, tuple, int -/
def oLen : OpN := fun ws st => match ws with
  | [.str z] => if z.length ≤ LINE then .ok (.int z.length) st else .bad
  | [x] => match seqW st x with
    | some us => .ok (.int us.length) st
    | none => .bad
  | _ => .bad
def rLenAll (K : PySem.W.Frag) : List V → Hp → VK → Prop := fun vs H Q => ∃ x n, vs = [x] ∧ LenV K x H n ∧ Q (.int n) H
theorem cr_len : CallR X (.builtin "len") (rLenAll X.K) := call_len
theorem os_len : OpNS X oLen (rLenAll X.K) := by
  intro Wx hid μ st σ H Q ws vs k r P
  unfold oLen at P
  split at P
  · obtain ⟨v, rfl, r1⟩ := reps1 (ws := []) r
    cases rep_str_inv r1
    split at P
    · rename_i hz
      exact ⟨_, _, rfl, ⟨le_line hz, rfl⟩, P μ H _ k .refl rep_int⟩
    · exact P.elim
  · obtain ⟨v, rfl, r1⟩ := reps1 (ws := []) r
    split at P
    · rename_i us e
      obtain ⟨a, xs, rfl, h1, h2⟩ := seqW_at k e r1
      refine ⟨_, xs.length, rfl, ?_, ?_⟩
      · rcases h1 with h1 | h1
        · exact .inl ⟨xs, h1, rfl⟩
        · exact .inr ⟨xs, h1, rfl⟩
      · rw [← h2.length]
        exact P μ H _ k .refl rep_int
    · exact P.elim
  · exact P.elim
def oList : OpN := fun ws st => match ws with
  | [x] => match seqW st x with
    | some us => .ok (.lst us) st
    | none => .bad
  | _ => .bad
theorem os_list : OpNS X oList (fun xs H Q => ∃ p ys, xs = [.ref p] ∧ (SqL X.K H p ys ∨ SqT X.K H p ys) ∧ ∀ l, H l = none → Q (.ref l) (upd H l (.lst ys))) := by
  intro Wx hid μ st σ H Q ws vs k r P
  unfold oList at P
  split at P
  · obtain ⟨v, rfl, r1⟩ := reps1 (ws := []) r
    split at P
    · rename_i us e
      obtain ⟨a, xs, rfl, h1, h2⟩ := seqW_at k e r1
      exact ⟨a, xs, rfl, h1, fun l hl => ok_new P k hl fun F le e => rep_lst e (h2.mono le (.refl _))⟩
    · exact P.elim
  · exact P.elim
def oTuple : OpN := fun ws st => match ws with
  | [x] => match lstW st x with
    | some us => .ok (.tup us) st
    | none => match tupW st x with
      | some _ => .ok x st
      | none => .bad
  | _ => .bad
theorem os_tuple : OpNS X oTuple (fun xs H Q => ∃ a ys, xs = [.ref a] ∧ ((SqL X.K H a ys ∧ ∀ l, H l = none → Q (.ref l) (upd H l (.tup ys))) ∨ (SqT X.K H a ys ∧ Q (.ref a) H))) := by
  intro Wx hid μ st σ H Q ws vs k r P
  unfold oTuple at P
  split at P
  · obtain ⟨v, rfl, r1⟩ := reps1 (ws := []) r
    split at P
    · rename_i us e'
      obtain ⟨a, xs, rfl, h1, h2⟩ := lstW_at k e' r1
      exact ⟨a, xs, rfl, .inl ⟨h1, fun l hl => ok_new P k hl fun F le e => rep_tup e (h2.mono le (.refl _))⟩⟩
    · split at P
      · rename_i us e
        obtain ⟨a, xs, rfl, h1, h2⟩ := tupW_at k e r1
        exact ⟨a, xs, rfl, .inr ⟨h1, P μ H _ k .refl r1⟩⟩
      · exact P.elim
  · exact P.elim
def oInt : OpN := fun ws st => match ws with
  | [.int i] => .ok (.int i) st
  | [.bl b] => .ok (.int (if b then 1 else 0)) st
  | _ => .bad
theorem os_int : OpNS X oInt (fun xs H Q => (∃ i, xs = [.int i] ∧ Q (.int i) H) ∨ ∃ k, xs = [.bl k] ∧ Q (.int (if k then 1 else 0)) H) := by
  intro Wx hid μ st σ H Q ws vs k r P
  unfold oInt at P
  split at P
  · obtain ⟨v, rfl, r1⟩ := reps1 (ws := []) r
    cases rep_int_inv r1
    exact .inl ⟨_, rfl, P μ H _ k .refl rep_int⟩
  · obtain ⟨v, rfl, r1⟩ := reps1 (ws := []) r
    cases rep_bl_inv r1
    exact .inr ⟨_, rfl, P μ H _ k .refl rep_int⟩
  · exact P.elim

/-! ## lists of bools, of ints -/
def blsW : List W → Option (List Bool)
  | [] => some []
  | .bl b :: r => (blsW r).map (b :: ·)
  | _ => none
def intsW : List W → Option (List Int)
  | [] => some []
  | .int b :: r => (intsW r).map (b :: ·)
  | _ => none
theorem blsW_at {K : PySem.W.Frag} {mg : Str → Option Value} {F : Hp} {μ : List Addr} : ∀ {ws : List W} {bs : List Bool} {vs : List V}, blsW ws = some bs → Reps K mg F μ ws vs → vs = bs.map V.bl
  | [], bs, vs, h, r => by unfold blsW at h; cases h; rw [Reps.nil_iff] at r; subst r; rfl
  | .bl b :: ws, bs, vs, h, r => by
    unfold blsW at h
    obtain ⟨v, t, rfl, h1, h2⟩ := r.cons_inv
    cases e : blsW ws with
    | none => rw [e] at h; cases h
    | some ms => rw [e] at h; cases h; rw [rep_bl_inv h1, blsW_at e h2]; rfl
  | .non :: _, _, _, h, _ | .ty _ :: _, _, _, h, _ | .int _ :: _, _, _, h, _ | .str _ :: _, _, _, h, _ | .tup _ :: _, _, _, h, _ | .lst _ :: _, _, _, h, _ | .dct _ _ :: _, _, _, h, _ | .ins _ _ _ :: _, _, _, h, _ | .cell _ :: _, _, _, h, _ | .ro _ :: _, _, _, h, _ | .tpn _ :: _, _, _, h, _ | .cls _ :: _, _, _, h, _ => by unfold blsW at h; cases h
theorem intsW_at {K : PySem.W.Frag} {mg : Str → Option Value} {F : Hp} {μ : List Addr} : ∀ {ws : List W} {bs : List Int} {vs : List V}, intsW ws = some bs → Reps K mg F μ ws vs → vs = bs.map V.int
  | [], bs, vs, h, r => by unfold intsW at h; cases h; rw [Reps.nil_iff] at r; subst r; rfl
  | .int b :: ws, bs, vs, h, r => by
    unfold intsW at h
    obtain ⟨v, t, rfl, h1, h2⟩ := r.cons_inv
    cases e : intsW ws with
    | none => rw [e] at h; cases h
    | some ms => rw [e] at h; cases h; rw [rep_int_inv h1, intsW_at e h2]; rfl
  | .non :: _, _, _, h, _ | .ty _ :: _, _, _, h, _ | .bl _ :: _, _, _, h, _ | .str _ :: _, _, _, h, _ | .tup _ :: _, _, _, h, _ | .lst _ :: _, _, _, h, _ | .dct _ _ :: _, _, _, h, _ | .ins _ _ _ :: _, _, _, h, _ | .cell _ :: _, _, _, h, _ | .ro _ :: _, _, _, h, _ | .tpn _ :: _, _, _, h, _ | .cls _ :: _, _, _, h, _ => by unfold intsW at h; cases h
/-- f of a list of bools -/
def oBls (f : List Bool → Bool) : OpN := fun ws st => match ws with
  | [x] => match (lstW st x).bind blsW with
    | some bs => .ok (.bl (f bs)) st
    | none => .bad
  | _ => .bad
theorem bls_of {hid μ : List Addr} {st : Sto} {H : Hp} (k : StOk X.K X.mg μ st hid H) {x : W} {bs : List Bool} {v : V} (h : (lstW st x).bind blsW = some bs) (r : Rep X.K X.mg (Fz μ st hid H) μ x v) : ∃ a, v = .ref a ∧ SqL X.K H a (bs.map V.bl) := by
  cases e : lstW st x with
  | none => rw [e] at h; cases h
  | some us =>
    rw [e] at h
    obtain ⟨a, xs, rfl, h1, h2⟩ := lstW_at k e r
    rw [blsW_at h h2] at h1
    exact ⟨a, rfl, h1⟩
theorem ints_of {hid μ : List Addr} {st : Sto} {H : Hp} (k : StOk X.K X.mg μ st hid H) {x : W} {bs : List Int} {v : V} (h : (lstW st x).bind intsW = some bs) (r : Rep X.K X.mg (Fz μ st hid H) μ x v) : ∃ a, v = .ref a ∧ SqL X.K H a (bs.map V.int) := by
  cases e : lstW st x with
  | none => rw [e] at h; cases h
  | some us =>
    rw [e] at h
    obtain ⟨a, xs, rfl, h1, h2⟩ := lstW_at k e r
    rw [intsW_at h h2] at h1
    exact ⟨a, rfl, h1⟩
def oAll : OpN := oBls fun bs => bs.all id
def oAny : OpN := oBls fun bs => bs.any id
theorem os_all : OpNS X oAll (rAll X.K) := by
  intro Wx hid μ st σ H Q ws vs k r P
  unfold oAll oBls at P
  split at P
  · obtain ⟨v, rfl, r1⟩ := reps1 (ws := []) r
    split at P
    · rename_i bs e
      obtain ⟨a, rfl, h1⟩ := bls_of k e r1
      exact ⟨a, bs, rfl, h1, P μ H _ k .refl rep_bl⟩
    · exact P.elim
  · exact P.elim
theorem os_any : OpNS X oAny (rAny X.K) := by
  intro Wx hid μ st σ H Q ws vs k r P
  unfold oAny oBls at P
  split at P
  · obtain ⟨v, rfl, r1⟩ := reps1 (ws := []) r
    split at P
    · rename_i bs e
      obtain ⟨a, rfl, h1⟩ := bls_of k e r1
      exact ⟨a, bs, rfl, h1, P μ H _ k .refl rep_bl⟩
    · exact P.elim
  · exact P.elim
def oSum : OpN := fun ws st => match ws with
  | [x] => match (lstW st x).bind intsW with
    | some bs => .ok (.int bs.sum) st
    | none => .bad
  | _ => .bad
theorem os_sum : OpNS X oSum (rSum X.K) := by
  intro Wx hid μ st σ H Q ws vs k r P
  unfold oSum at P
  split at P
  · obtain ⟨v, rfl, r1⟩ := reps1 (ws := []) r
    split at P
    · rename_i bs e
      obtain ⟨a, rfl, h1⟩ := ints_of k e r1
      exact ⟨a, bs, rfl, h1, P μ H _ k .refl rep_int⟩
    · exact P.elim
  · exact P.elim
/-- tuple(reversed(e)) -/
def oTupRev : Op1 := fun x st => match lstW st x with
  | some us => .ok (.tup us.reverse) st
  | none => .bad
theorem os_tupRev : Op1S X oTupRev (fun v H Q => ∃ (a : Addr) (xs : List V), v = .ref a ∧ SqL X.K H a xs ∧ ∀ q, H q = none → Q (.ref q) (upd H q (.tup xs.reverse))) := by
  intro Wx hid μ st σ H Q w x k rx P
  unfold oTupRev at P
  split at P
  · rename_i us e
    obtain ⟨a, xs, rfl, h1, h2⟩ := lstW_at k e rx
    exact ⟨a, xs, rfl, h1, fun q hq => ok_new P k hq fun F l e => rep_tup e ((h2.mono l (.refl _)).reverse)⟩
  · exact P.elim
theorem ev_tupRev {Wx : Wish} {e : Expr} {f : Sem} {p p2 pos pos2 : Pos} (hc : X.calm = true) (hm : X.mg "tuple" = none) (hm2 : X.mg "reversed" = none) (he : EV X Wx e f) (hg : Gl X "tuple" := by rfl) (hg2 : Gl X "reversed" := by rfl) (hs : starEach [e] X.env = (false, eval e X.env) :: starEach [] X.env := by rfl) : EV X Wx (.Call (.Name "tuple" p) [.Call (.Name "reversed" p2) [e] [] pos2] [] pos) (e1 oTupRev f) :=
  PEm (RT.pe_tupRev hc hg hm hg2 hm2 he (hs := hs)) (e1_read os_tupRev)

/-! ## an item -/
theorem atI_rep {K : PySem.W.Frag} {mg : Str → Option Value} {F : Hp} {μ : List Addr} {ws : List W} {vs : List V} {i : Int} {w : W} (r : Reps K mg F μ ws vs) (h : atI ws i = some w) : ∃ v, atI vs i = some v ∧ Rep K mg F μ w v := by
  unfold atI at h ⊢
  rw [← r.length]
  cases e : ixN ws.length i with
  | none => rw [e] at h; cases h
  | some j =>
    rw [e] at h
    exact r.get h
def oIx : Op2 := fun x y st => match y with
  | .int i => match x with
    | .str z => if z.length ≤ LINE then (match atI z.cps.toList i with
      | some c => .ok (.str ⟨#[c]⟩) st
      | none => .bad) else .bad
    | _ => match (seqW st x).bind fun ws => atI ws i with
      | some w => .ok w st
      | none => .bad
  | _ => .bad
theorem os_ix : Op2S X oIx (rIx X.K) := by
  intro Wx hid μ st σ H Q w u x y k rx ry P
  unfold oIx at P
  split at P
  · rename_i i
    cases rep_int_inv ry
    split at P
    · rename_i z
      cases rep_str_inv rx
      split at P
      · rename_i hz
        split at P
        · rename_i c e
          exact .inr (.inr ⟨z, i, c, rfl, rfl, le_line hz, e, P μ H _ k .refl rep_str⟩)
        · exact P.elim
      · exact P.elim
    · split at P
      · rename_i w' e
        cases e2 : seqW st w with
        | none => rw [e2] at e; cases e
        | some ws =>
          rw [e2] at e
          obtain ⟨a, vs, rfl, h1, h2⟩ := seqW_at k e2 rx
          obtain ⟨v, h3, h4⟩ := atI_rep h2 e
          rcases h1 with h1 | h1
          · exact .inl ⟨a, vs, i, v, rfl, rfl, h1, h3, P μ H _ k .refl h4⟩
          · exact .inr (.inl ⟨a, vs, i, v, rfl, rfl, h1, h3, P μ H _ k .refl h4⟩)
      · exact P.elim
  · exact P.elim

/-! ## slices -/
def cutW (ws : List W) (lo hi : Option Int) : List W := (ws.drop (HT.sIx ws.length 0 lo)).take (HT.sIx ws.length ws.length hi - HT.sIx ws.length 0 lo)
theorem cutW_rep {K : PySem.W.Frag} {mg : Str → Option Value} {F : Hp} {μ : List Addr} {ws : List W} {vs : List V} (lo hi : Option Int) (r : Reps K mg F μ ws vs) : Reps K mg F μ (cutW ws lo hi) (cutV vs lo hi) := by
  unfold cutW cutV
  rw [← r.length]
  exact (r.drop _).take _
abbrev SemO := Fr → Sto → Out (Option Int)
def pNo : SemO := fun _ st => .ok none st
def pYes (f : Sem) : SemO := fun fr st => (f fr st).bind fun w st1 => match w with
  | .int i => .ok (some i) st1
  | _ => .bad
def OPost (K : PySem.W.Frag) (mg : Str → Option Value) (Wx : WX) (hid μ : List Addr) (st : Sto) (σ : L2.St) (H : Hp) (Q : Option Int → Hp → Prop) : Out (Option Int) → Prop
  | .ok b st' => ∀ μ' H', StOk K mg μ' st' hid H' → Grow hid μ st H μ' st' H' → Q b H'
  | .err x st' => ∀ μ' H' c d, StOk K mg μ' st' hid H' → Grow hid μ st H μ' st' H' → XRep K mg (Fz μ' st' hid H') μ' x c d → Wx c d σ H'
  | .bad => False
def tO (K : PySem.W.Frag) (mg : Str → Option Value) (Wx : Wish) (f : SemO) : TO := fun σ H Q => ∃ μ st hid fr, SI K mg Wx μ st hid fr σ H ∧ OPost K mg Wx.w hid μ st σ H Q (f fr st)
abbrev OV (X : Cx) (Wx : Wish) (e : Option Expr) (f : SemO) : Prop := PO X e (tO X.K X.mg Wx f)
theorem POm {e : Option Expr} {t t' : TO} (h : PO X e t) (i : ∀ σ H Q, t' σ H Q → t σ H Q) : PO X e t' := ⟨fun pins s σ H Q I q => h.run pins s σ H Q I (i σ H Q q)⟩
variable {Wx : Wish}
theorem ov_no : OV X Wx none pNo := POm po_none fun σ H Q ⟨μ, st, hid, fr, S, P⟩ => P μ H S.sto .refl
theorem ov_yes {e : Expr} {f : Sem} (h : EV X Wx e f) : OV X Wx (some e) (pYes f) := POm (po_some h) fun σ H Q ⟨μ, st, hid, fr, S, P⟩ => by
  refine ⟨μ, st, hid, fr, S, ?_⟩
  unfold pYes at P
  cases h : f fr st with
  | bad => rw [h] at P; exact P
  | err x s => rw [h] at P; exact P
  | ok w st1 =>
    rw [h, Out.bind_ok] at P
    intro μ1 H1 v k1 g1 r1
    cases w with
    | int i => exact ⟨i, rep_int_inv r1, P μ1 H1 k1 g1⟩
    | _ => exact P.elim
def oSl (x : W) (lo hi : Option Int) (st : Sto) : Out W := match x with
  | .str z => if z.length ≤ LINE then .ok (.str (cutS z lo hi)) st else .bad
  | _ => match lstW st x with
    | some ws => .ok (.lst (cutW ws lo hi)) st
    | none => match trkW st x with
      | some ws => .ok (.tup (cutW ws lo hi)) st
      | none => .bad
def eSl (f : Sem) (l h : SemO) : Sem := fun fr st => (f fr st).bind fun x st1 => (l fr st1).bind fun lo st2 => (h fr st2).bind fun hi st3 => oSl x lo hi st3
def rSlAll (K : PySem.W.Frag) : V → Option Int → Option Int → Hp → VK → Prop := fun x lo hi H Q => rSlS x lo hi H Q ∨ rSlL K x lo hi H Q ∨ rSlA K x lo hi H Q
theorem sr_all : SlR X (rSlAll X.K) := sl_str.or (sl_list.or sl_tupA)
theorem cutW_whole {ws : List W} {lo hi : Option Int} (h : HT.sIx ws.length 0 lo = 0 ∧ HT.sIx ws.length ws.length hi = ws.length) : cutW ws lo hi = ws := by
  unfold cutW
  rw [h.1, h.2]
  simp
theorem os_sl {Wx : WX} {hid μ : List Addr} {st : Sto} {σ : L2.St} {H : Hp} {Q : VK} {w : W} {x : V} {lo hi : Option Int} (k : StOk X.K X.mg μ st hid H) (rx : Rep X.K X.mg (Fz μ st hid H) μ w x)
    (P : EPost X.K X.mg Wx hid μ st σ H Q (oSl w lo hi st)) : rSlAll X.K x lo hi H Q := by
  unfold oSl at P
  split at P
  · split at P
    · rename_i hz
      cases rep_str_inv rx
      exact .inl ⟨_, rfl, le_line hz, P μ H _ k .refl rep_str⟩
    · exact P.elim
  · split at P
    · rename_i ws e
      obtain ⟨a, xs, rfl, h1, h2⟩ := lstW_at k e rx
      exact .inr (.inl ⟨a, xs, rfl, h1, fun p hp => ok_new P k hp fun F l e => rep_lst e ((cutW_rep lo hi h2).mono l (.refl _))⟩)
    · split at P
      · rename_i ws e
        obtain ⟨a, xs, rfl, h1, h2⟩ := trkW_at k e rx
        refine .inr (.inr ⟨a, xs, rfl, h1.fz, fun hw => ?_, fun _ p hp => ok_new P k hp fun F l e => rep_tup e ((cutW_rep lo hi h2).mono l (.refl _))⟩)
        rw [← h2.length] at hw
        rw [cutW_whole hw] at P
        refine P μ H _ k .refl ?_
        unfold Rep
        exact ⟨a, xs, rfl, h1, h2⟩
      · exact P.elim
theorem ev_sl {e : Expr} {l h : Option Expr} {f : Sem} {fl fh : SemO} {p2 pos : Pos} (he : EV X Wx e f) (hl : OV X Wx l fl) (hh : OV X Wx h fh) : EV X Wx (.Subscript e (.Slice l h none p2) pos) (eSl f fl fh) := PEm (pe_slice sr_all he hl hh) fun σ H Q ⟨μ, st, hid, fr, S, P⟩ => by
  refine ⟨μ, st, hid, fr, S, ?_⟩
  unfold eSl at P
  cases h1 : f fr st with
  | bad => rw [h1] at P; exact P
  | err x s => rw [h1] at P; exact P
  | ok x st1 =>
    rw [h1, Out.bind_ok] at P
    intro μ1 H1 vx k1 g1 r1
    refine ⟨μ1, st1, hid, fr, S.next k1 g1, ?_⟩
    have P1 := EPost.from g1 P
    cases h2 : fl fr st1 with
    | bad => rw [h2] at P1; exact P1
    | err x s => rw [h2] at P1; exact P1
    | ok lo st2 =>
      rw [h2, Out.bind_ok] at P1
      intro μ2 H2 k2 g2
      refine ⟨μ2, st2, hid, fr, (S.next k1 g1).next k2 g2, ?_⟩
      have P2 := EPost.from g2 P1
      cases h3 : fh fr st2 with
      | bad => rw [h3] at P2; exact P2
      | err x s => rw [h3] at P2; exact P2
      | ok hi st3 =>
        rw [h3, Out.bind_ok] at P2
        intro μ3 H3 k3 g3
        exact os_sl k3 (Rep.mono (g2.trans g3).le (g2.trans g3).pre _ _ r1) (EPost.from g3 P2)
end
end SL

namespace SL
open PySem PySem.Spec PyProof.Rows L2

/-! ## targets -/
abbrev TgF := W → Fr → Sto → Option Fr
abbrev TgsF := List W → Fr → Sto → Option Fr
def gNm (i : Nat) : TgF := fun w fr _ => some (fr.set i (some w))
def gsNil : TgsF := fun ws fr _ => match ws with
  | [] => some fr
  | _ => none
def gsCons (g : TgF) (r : TgsF) : TgsF := fun ws fr st => match ws with
  | w :: us => (g w fr st).bind fun fr1 => r us fr1 st
  | [] => none
def gTp (n : Nat) (r : TgsF) : TgF := fun w fr st => match tupW st w with
  | some ws => if ws.length = n then r ws fr st else none
  | none => none
/-- all but the slots at sl is as it was -/
def Agree (sl : List Nat) (σ σ' : L2.St) : Prop := σ'.length = σ.length ∧ ∀ j, j ∉ sl → σ'[j]? = σ[j]?
theorem Agree.refl (sl : List Nat) (σ : L2.St) : Agree sl σ σ := ⟨rfl, fun _ _ => rfl⟩
theorem Agree.trans {sl sl' : List Nat} {σ σ' σ'' : L2.St} (a : Agree sl σ σ') (b : Agree sl' σ' σ'') : Agree (sl ++ sl') σ σ'' :=
  ⟨b.1.trans a.1, fun j h => (b.2 j fun z => h (List.mem_append_right _ z)).trans (a.2 j fun z => h (List.mem_append_left _ z))⟩
section
variable {X : Cx} {Wx : Wish}
def tG (K : PySem.W.Frag) (mg : Str → Option Value) (Wx : Wish) (g : TgF) (sl : List Nat) : TG := fun v σ H Q => ∃ μ st hid fr w fr', SI K mg Wx μ st hid fr σ H ∧ Rep K mg (Fz μ st hid H) μ w v ∧ g w fr st = some fr' ∧ ∀ σ', SI K mg Wx μ st hid fr' σ' H → Agree sl σ σ' → Q σ' H
def tGs (K : PySem.W.Frag) (mg : Str → Option Value) (Wx : Wish) (g : TgsF) (sl : List Nat) : TGs := fun vs σ H Q => ∃ μ st hid fr ws fr', SI K mg Wx μ st hid fr σ H ∧ Reps K mg (Fz μ st hid H) μ ws vs ∧ g ws fr st = some fr' ∧ ∀ σ', SI K mg Wx μ st hid fr' σ' H → Agree sl σ σ' → Q σ' H
abbrev GV (X : Cx) (Wx : Wish) (e : Expr) (g : TgF) (sl : List Nat) : Prop := PG X e (tG X.K X.mg Wx g sl)
abbrev GsV (X : Cx) (Wx : Wish) (es : List Expr) (g : TgsF) (sl : List Nat) : Prop := PGs X es (tGs X.K X.mg Wx g sl)
theorem PGm {e : Expr} {t t' : TG} (h : PG X e t) (i : ∀ v σ H Q, t' v σ H Q → t v σ H Q) : PG X e t' := ⟨fun pins s σ H v u Q I r q => h.run pins s σ H v u Q I r (i v σ H Q q)⟩
theorem PGsm {e : List Expr} {t t' : TGs} (h : PGs X e t) (i : ∀ v σ H Q, t' v σ H Q → t v σ H Q) : PGs X e t' := ⟨fun pins s σ H v u Q I r q => h.run pins s σ H v u Q I r (i v σ H Q q)⟩
theorem gv_nm {i : Nat} {x : Str} {pos : Pos} (hN : X.N.Nodup) (hi : X.N[i]? = some x := by rfl) (hx : Loc X.env.scope x := by first | exact Or.inl rfl | exact Or.inr rfl) (hf : X.fn x = true ∨ X.env.scope.names.lookup x = some .local := by first | exact .inl rfl | exact .inr rfl) (hk : i ∉ Wx.lock := by first | exact List.not_mem_nil | decide) : GV X Wx (.Name x pos) (gNm i) [i] :=
  PGm (pg_name hN hi hx hf) fun v σ H Q ⟨μ, st, hid, fr, w, fr', S, r, e, q⟩ => by
    unfold gNm at e
    cases e
    exact q _ (S.set i hk r) ⟨by simp, fun j h => by rw [List.getElem?_set_ne]; simp at h; exact fun z => h z.symm⟩
theorem gvs_nil : GsV X Wx [] gsNil [] := PGsm pgs_nil fun vs σ H Q ⟨μ, st, hid, fr, ws, fr', S, r, e, q⟩ => by
  unfold gsNil at e
  split at e
  · cases e
    rw [Reps.nil_iff] at r
    exact ⟨r, q _ S (.refl _ _)⟩
  · cases e
theorem gvs_cons {e : Expr} {es : List Expr} {g : TgF} {r : TgsF} {sl sl' : List Nat} (h1 : GV X Wx e g sl) (h2 : GsV X Wx es r sl') (hs : (assignEach (e :: es) X.env).map (·.2) = assign e X.env :: (assignEach es X.env).map (·.2) := by rfl) : GsV X Wx (e :: es) (gsCons g r) (sl ++ sl') :=
  PGsm (pgs_cons h1 h2 hs) fun vs σ H Q ⟨μ, st, hid, fr, ws, fr', S, rr, e, q⟩ => by
    unfold gsCons at e
    split at e
    · rename_i w us
      obtain ⟨v, vr, rfl, r1, r2⟩ := rr.cons_inv
      cases e1 : g w fr st with
      | none => rw [e1] at e; cases e
      | some fr1 =>
        rw [e1] at e
        exact ⟨v, vr, rfl, μ, st, hid, fr, w, fr1, S, r1, e1, fun σ1 S1 a1 => ⟨μ, st, hid, fr1, us, fr', S1, r2, e, fun σ2 S2 a2 => q σ2 S2 (a1.trans a2)⟩⟩
    · cases e
theorem gv_tp {es : List Expr} {k n : Nat} {r : TgsF} {sl : List Nat} {pos : Pos} (hc : X.calm = true) (h : GsV X Wx es r sl) (hn : (assignEach es X.env).length = n := by rfl) (hst : (assignEach es X.env).findIdx? (·.1) = none := by rfl) : GV X Wx (.Tuple es k pos) (gTp n r) sl :=
  PGm (pg_tup hc h hn hst) fun v σ H Q ⟨μ, st, hid, fr, w, fr', S, rr, e, q⟩ => by
    unfold gTp at e
    split at e
    · rename_i ws e1
      split at e
      · rename_i hl
        obtain ⟨a, vs, rfl, h1, h2⟩ := tupW_at S.sto e1 rr
        exact ⟨a, vs, rfl, h1, by rw [← h2.length]; exact hl, μ, st, hid, fr, ws, fr', S, h2, e, q⟩
      · cases e
    · cases e
end

/-! ## what is walked -/
abbrev SemI := Fr → Sto → Out (W × List W)
def numbered (ws : List W) : List W := ws.mapIdx fun i w => .tup [.int (i : Nat), w]
/-- the walked thing holds what it held; .int k stands for the list in cell k, numbered -/
def srcOk (x : W) (ws : List W) (st : Sto) : Prop := match x with
  | .cell _ => lstW st x = some ws
  | .int k => ∃ us, lstW st (.cell k.toNat) = some us ∧ ws = numbered us
  | _ => True
/-- the iterator J gives the items ws; F, μ0: where it began -/
structure ItOk (K : PySem.W.Frag) (mg : Str → Option Value) (J : It) (x : W) (ws : List W) (F : Hp) (μ0 : List Addr) (L : Hp) : Prop where
  len : ws.length ≤ sizeLine
  go : ∀ hid μ st H i, StOk K mg μ st hid H → Le F (Fz μ st hid H) → Pre μ0 μ → Lk L H → srcOk x ws st → i < ws.length → J.go i H
  yld : ∀ hid μ st H i v H', StOk K mg μ st hid H → Le F (Fz μ st hid H) → Pre μ0 μ → Lk L H → srcOk x ws st → i < ws.length → J.yld i H v H' →
    StOk K mg μ st hid H' ∧ Grow hid μ st H μ st H' ∧ ∃ w, ws[i]? = some w ∧ Rep K mg (Fz μ st hid H') μ w v
  stop : ∀ hid μ st H i, StOk K mg μ st hid H → Le F (Fz μ st hid H) → Pre μ0 μ → Lk L H → srcOk x ws st → ws.length ≤ i → J.stop i H
def IPost (K : PySem.W.Frag) (mg : Str → Option Value) (Wx : WX) (hid μ : List Addr) (st : Sto) (σ : L2.St) (H : Hp) (R : It → Hp → Prop) : Out (W × List W) → Prop
  | .ok (x, ws) st' => ∀ μ' H' J, StOk K mg μ' st' hid H' → Grow hid μ st H μ' st' H' → ItOk K mg J x ws (Fz μ' st' hid H') μ' H' → R J H'
  | .err x st' => ∀ μ' H' c d, StOk K mg μ' st' hid H' → Grow hid μ st H μ' st' H' → XRep K mg (Fz μ' st' hid H') μ' x c d → Wx c d σ H'
  | .bad => False
def tI (K : PySem.W.Frag) (mg : Str → Option Value) (Wx : Wish) (f : SemI) : TI := fun σ H R => ∃ μ st hid fr, SI K mg Wx μ st hid fr σ H ∧ IPost K mg Wx.w hid μ st σ H R (f fr st)
abbrev IV (X : Cx) (Wx : Wish) (tg e : Expr) (f : SemI) : Prop := PI X tg e (tI X.K X.mg Wx f)
theorem PIm {X : Cx} {tg e : Expr} {t t' : TI} (h : PI X tg e t) (i : ∀ σ H R, t' σ H R → t σ H R) : PI X tg e t' := ⟨fun pins s σ H R I q => h.run pins s σ H R I (i σ H R q)⟩
theorem IPost.from {K : PySem.W.Frag} {mg : Str → Option Value} {Wx : WX} {hid μ μ' : List Addr} {st st' : Sto} {σ : L2.St} {H H' : Hp} {R : It → Hp → Prop} {o : Out (W × List W)} (x : Grow hid μ st H μ' st' H') (h : IPost K mg Wx hid μ st σ H R o) : IPost K mg Wx hid μ' st' σ H' R o := by
  cases o with
  | ok w s => exact fun μ2 H2 v a b c => h μ2 H2 v a (x.trans b) c
  | err e s => exact fun μ2 H2 c d a b r => h μ2 H2 c d a (x.trans b) r
  | bad => exact h
section
variable {X : Cx} {Wx : Wish} {tg : Expr}
/-- a list or a tuple, walked -/
def iSeqT (K : PySem.W.Frag) (tl : TE) : TI := fun σ H R => tl σ H fun x H1 => ∃ a xs, x = .ref a ∧ ((SqL K H1 a xs ∧ (xs.length ≤ sizeLine → R (Itl K a) H1)) ∨ (SqT K H1 a xs ∧ (xs.length ≤ sizeLine → R (Itt K a) H1)))
theorem pi_seqT {l : Expr} {tl : TE} (hl : PE X l tl) : PI X tg l (iSeqT X.K tl) := by
  refine ⟨fun pins s σ H R I hh => thn (hl.run pins s σ H _ I hh) fun u s' ⟨y, HH, J1, ry, a, zs, ey, qq⟩ => ?_⟩
  subst ey
  cases ry
  rcases qq with ⟨hq, qq⟩ | ⟨hq, qq⟩
  · obtain ⟨us, ru, pp, hle⟩ := J1.list hq
    refine wpAny_pyIter_list pp.isList ⟨_, [s'.heap.objs.size], _, _, HH, rfl, J1.kept (t' := s'.toks) fun c oo ee => Heap.get?_push_of_some _ ee, turn_list a _, ⟨_, Heap.get?_push_size _ rfl, rfl, rfl⟩, fun c hc => ?_, qq hle⟩
    cases (List.mem_singleton.mp hc)
    exact J1.fpOk (Nat.le_refl _) (J1.hok.fresh (Nat.le_refl _))
  · obtain ⟨us, ru, pp, hle⟩ := J1.tuple hq
    refine wpAny_pyIter_tuple (show s'.heap.IsTuple a us.toArray from pp) ⟨_, [s'.heap.objs.size], _, _, HH, rfl, J1.kept (t' := s'.toks) fun c oo ee => Heap.get?_push_of_some _ ee, turn_tuple a _, ⟨_, Heap.get?_push_size _ rfl, rfl, rfl⟩, fun c hc => ?_, qq hle⟩
    cases (List.mem_singleton.mp hc)
    exact J1.fpOk (Nat.le_refl _) (J1.hok.fresh (Nat.le_refl _))
def itW (st : Sto) (x : W) : Option (List W) := match x with
  | .cell _ => lstW st x
  | _ => seqW st x
def iSeq (f : Sem) : SemI := fun fr st => (f fr st).bind fun x st1 => match itW st1 x with
  | some ws => .ok (x, ws) st1
  | none => .bad
/-- a list in the air -/
theorem itOk_list {K : PySem.W.Frag} {mg : Str → Option Value} {x : W} {ws : List W} {F L : Hp} {μ0 : List Addr} {a : Addr} (hl : ws.length ≤ sizeLine)
    (now : ∀ hid μ st H, StOk K mg μ st hid H → Le F (Fz μ st hid H) → Pre μ0 μ → srcOk x ws st → ∃ vs, SqL K H a vs ∧ Reps K mg (Fz μ st hid H) μ ws vs) : ItOk K mg (Itl K a) x ws F μ0 L where
  len := hl
  go := fun hid μ st H i k l p _ s hi => by
    obtain ⟨vs, h1, h2⟩ := now hid μ st H k l p s
    exact ⟨vs, vs[i]'(by rw [← h2.length]; exact hi), h1, by simp⟩
  yld := fun hid μ st H i v H' k l p _ s hi y => by
    obtain ⟨vs, h1, h2⟩ := now hid μ st H k l p s
    obtain ⟨rfl, y⟩ := y
    exact ⟨k, .refl, h2.get' (y vs h1)⟩
  stop := fun hid μ st H i k l p _ s hi => by
    obtain ⟨vs, h1, h2⟩ := now hid μ st H k l p s
    exact ⟨vs, h1, by rw [← h2.length]; exact hi⟩
theorem itOk_tup {K : PySem.W.Frag} {mg : Str → Option Value} {x : W} {ws : List W} {F L : Hp} {μ0 : List Addr} {a : Addr} (hl : ws.length ≤ sizeLine)
    (now : ∀ hid μ st H, StOk K mg μ st hid H → Le F (Fz μ st hid H) → Pre μ0 μ → srcOk x ws st → ∃ vs, SqT K H a vs ∧ Reps K mg (Fz μ st hid H) μ ws vs) : ItOk K mg (Itt K a) x ws F μ0 L where
  len := hl
  go := fun hid μ st H i k l p _ s hi => by
    obtain ⟨vs, h1, h2⟩ := now hid μ st H k l p s
    exact ⟨vs, vs[i]'(by rw [← h2.length]; exact hi), h1, by simp⟩
  yld := fun hid μ st H i v H' k l p _ s hi y => by
    obtain ⟨vs, h1, h2⟩ := now hid μ st H k l p s
    obtain ⟨rfl, y⟩ := y
    exact ⟨k, .refl, h2.get' (y vs h1)⟩
  stop := fun hid μ st H i k l p _ s hi => by
    obtain ⟨vs, h1, h2⟩ := now hid μ st H k l p s
    exact ⟨vs, h1, by rw [← h2.length]; exact hi⟩
/-- a list or tuple value: how it stands later -/
theorem seq_now {K : PySem.W.Frag} {mg : Str → Option Value} {hid0 μ0 : List Addr} {st0 : Sto} {H0 : Hp} {x : W} {ws : List W} {v : V} (k0 : StOk K mg μ0 st0 hid0 H0) (h : itW st0 x = some ws) (r : Rep K mg (Fz μ0 st0 hid0 H0) μ0 x v) :
    ∃ a vs0, v = .ref a ∧ vs0.length = ws.length ∧ ((SqL K H0 a vs0 ∧ ∀ hid μ st H, StOk K mg μ st hid H → Le (Fz μ0 st0 hid0 H0) (Fz μ st hid H) → Pre μ0 μ → srcOk x ws st → ∃ vs, SqL K H a vs ∧ Reps K mg (Fz μ st hid H) μ ws vs) ∨
      (SqT K H0 a vs0 ∧ ∀ hid μ st H, StOk K mg μ st hid H → Le (Fz μ0 st0 hid0 H0) (Fz μ st hid H) → Pre μ0 μ → srcOk x ws st → ∃ vs, SqT K H a vs ∧ Reps K mg (Fz μ st hid H) μ ws vs)) := by
  cases x with
  | lst us =>
    have e : us = ws := by unfold itW seqW lstW at h; exact Option.some.inj h
    subst e
    obtain ⟨a, vs, rfl, h1, h2⟩ := rep_lst_inv r
    exact ⟨a, vs, rfl, h2.length.symm, .inl ⟨SqL.fz h1, fun hid μ st H k l p _ => ⟨vs, SqL.fz (l.lst h1), h2.mono l p⟩⟩⟩
  | ro us =>
    have e : us = ws := by unfold itW seqW lstW at h; exact Option.some.inj h
    subst e
    obtain ⟨a, vs, rfl, h1, h2⟩ := rep_ro_inv r
    exact ⟨a, vs, rfl, h2.length.symm, .inl ⟨SqL.fz' h1, fun hid μ st H k l p _ => ⟨vs, SqL.fz' (SqL.le l h1), h2.mono l p⟩⟩⟩
  | tup us =>
    have e : us = ws := by unfold itW seqW lstW at h; exact Option.some.inj h
    subst e
    obtain ⟨a, vs, rfl, h1, h2⟩ := rep_tup_inv r
    exact ⟨a, vs, rfl, h2.length.symm, .inr ⟨h1.fz, fun hid μ st H k l p _ => ⟨vs, (h1.le l).fz, h2.mono l p⟩⟩⟩
  | tpn us =>
    have e : us = ws := by unfold itW seqW lstW at h; exact Option.some.inj h
    subst e
    obtain ⟨a, vs, rfl, h1, h2⟩ := rep_tpn_inv r
    exact ⟨a, vs, rfl, h2.length.symm, .inr ⟨h1.fz, fun hid μ st H k l p _ => ⟨vs, (h1.le l).fz, h2.mono l p⟩⟩⟩
  | cell n =>
    have h' : lstW st0 (.cell n) = some ws := h
    obtain ⟨a, vs, rfl, h1, h2⟩ := lstW_at k0 h' r
    obtain ⟨b, e1, e2⟩ := rep_cell_inv r
    cases e2
    refine ⟨a, vs, rfl, h2.length.symm, .inl ⟨h1, fun hid μ st H k l p s => ?_⟩⟩
    have s' : lstW st (.cell n) = some ws := s
    have r' : Rep K mg (Fz μ st hid H) μ (.cell n) (.ref a) := by unfold Rep; exact ⟨a, p.get e1, rfl⟩
    obtain ⟨c, us, e3, h3, h4⟩ := lstW_at k s' r'
    cases e3
    exact ⟨us, h3, h4⟩
  | _ => cases h
theorem iv_seq {e : Expr} {f : Sem} (he : EV X Wx e f) : IV X Wx tg e (iSeq f) := PIm (pi_seqT he) fun σ H R ⟨μ, st, hid, fr, S, P⟩ => by
  refine ⟨μ, st, hid, fr, S, ?_⟩
  unfold iSeq at P
  cases h1 : f fr st with
  | bad => rw [h1] at P; exact P
  | err x s => rw [h1] at P; exact P
  | ok x st1 =>
    rw [h1, Out.bind_ok] at P
    intro μ1 H1 v k1 g1 r1
    have P1 := IPost.from g1 P
    split at P1
    · rename_i ws e
      obtain ⟨a, vs, rfl, hl, q | q⟩ := seq_now k1 e r1
      · exact ⟨a, vs, rfl, .inl ⟨q.1, fun hz => P1 μ1 H1 _ k1 .refl (itOk_list (by rw [← hl]; exact hz) q.2)⟩⟩
      · exact ⟨a, vs, rfl, .inr ⟨q.1, fun hz => P1 μ1 H1 _ k1 .refl (itOk_tup (by rw [← hl]; exact hz) q.2)⟩⟩
    · exact P1.elim
/-- range -/
def rngW (lo c : Int) (n : Nat) : List W := (List.range n).map fun (i : Nat) => W.int (lo + (i : Int) * c)
theorem rngW_length (lo c : Int) (n : Nat) : (rngW lo c n).length = n := by unfold rngW; simp
theorem rngW_get {lo c : Int} {n i : Nat} (h : i < n) : (rngW lo c n)[i]? = some (.int (lo + (i : Int) * c)) := by
  unfold rngW
  rw [List.getElem?_map, List.getElem?_range h]; rfl
theorem itOk_rng {K : PySem.W.Frag} {mg : Str → Option Value} {F L : Hp} {μ0 : List Addr} {J : It} {lo c : Int} {n : Nat} (hn : n ≤ LINE) (h1 : ∀ i H, i < n → J.go i H) (h2 : ∀ i H x H', J.yld i H x H' → H' = H ∧ x = .int (lo + (i : Nat) * c)) (h3 : ∀ i H, n ≤ i → J.stop i H) :
    ItOk K mg J .non (rngW lo c n) F μ0 L where
  len := by rw [rngW_length]; exact le_line hn
  go := fun hid μ st H i k l p _ s hi => h1 i H (by rw [rngW_length] at hi; exact hi)
  yld := fun hid μ st H i v H' k l p _ s hi y => by
    rw [rngW_length] at hi
    obtain ⟨rfl, rfl⟩ := h2 i H v H' y
    exact ⟨k, .refl, _, rngW_get hi, rep_int⟩
  stop := fun hid μ st H i k l p _ s hi => h3 i H (by rw [rngW_length] at hi; exact hi)
noncomputable def big (j : Int) : Bool := dec (-(2 ^ 62) ≤ j ∧ j < 2 ^ 62)
theorem big_of {j : Int} (h : big j = true) : -(2 ^ 62) ≤ j ∧ j < 2 ^ 62 := dec_of h
abbrev RgF := List W → Option (Int × Int × Nat)
def iRng (op : RgF) (f : SemL) : SemI := fun fr st => (f fr st).bind fun ws st1 => match op ws with
  | some (lo, c, n) => if n ≤ LINE then .ok (.non, rngW lo c n) st1 else .bad
  | none => .bad
/-- J counts from lo by c, n turns -/
def Cnt (lo c : Int) (n : Nat) (J : It) : Prop := (∀ i H, i < n → J.go i H) ∧ (∀ i H x H', J.yld i H x H' → H' = H ∧ x = .int (lo + (i : Nat) * c)) ∧ ∀ i H, n ≤ i → J.stop i H
theorem iRng_read {op : RgF} {f : SemL} {wi : List V → Hp → (It → Hp → Prop) → Prop} (hw : ∀ (F : Hp) (μ : List Addr) (ws : List W) (vs : List V) (lo c : Int) (n : Nat) (H : Hp) (R : It → Hp → Prop), op ws = some (lo, c, n) → Reps X.K X.mg F μ ws vs → (∀ J, Cnt lo c n J → R J H) → wi vs H R) :
    ∀ σ H R, tI X.K X.mg Wx (iRng op f) σ H R → tA X.K X.mg Wx f σ H (fun vs H1 => wi vs H1 R) := fun σ H R ⟨μ, st, hid, fr, S, P⟩ => by
  refine ⟨μ, st, hid, fr, S, ?_⟩
  unfold iRng at P
  cases h1 : f fr st with
  | bad => rw [h1] at P; exact P
  | err x s => rw [h1] at P; exact P
  | ok ws st1 =>
    rw [h1, Out.bind_ok] at P
    intro μ1 H1 vs k1 g1 r1
    have P1 := IPost.from g1 P
    split at P1
    · rename_i lo c n e
      split at P1
      · rename_i hn
        exact hw _ _ ws vs lo c n H1 R e r1 fun J hJ => P1 μ1 H1 J k1 .refl (itOk_rng hn hJ.1 hJ.2.1 hJ.2.2)
      · exact P1.elim
    · exact P1.elim
theorem cnt_r (lo : Int) (n : Nat) : Cnt lo 1 n (Itr lo n) := ⟨fun _ _ h => h, fun i H x H' h => ⟨h.1, by rw [Int.mul_one]; exact h.2⟩, fun _ _ h => h⟩
theorem cnt_c (lo c : Int) (n : Nat) : Cnt lo c n (Itc lo c n) := ⟨fun _ _ h => h, fun i H x H' h => h, fun _ _ h => h⟩
noncomputable def rg1 : RgF := fun ws => match ws with
  | [.int j] => if big j = true then some (0, 1, j.toNat) else none
  | _ => none
noncomputable def rg2 : RgF := fun ws => match ws with
  | [.int i, .int j] => if big i = true ∧ big j = true then some (i, 1, (j - i).toNat) else none
  | _ => none
/-- a step that is written: up by c, or down by one -/
noncomputable def rg3 : RgF := fun ws => match ws with
  | [.int i, .int j, .int c] => if c = -1 then (if big i = true ∧ big j = true then some (i, -1, (i - j).toNat) else none) else
      if dec (0 < c ∧ c < 1073741824 ∧ Builtin.Range.small i j c = true) = true then some (i, c, (Builtin.Range.rangeSize i j c).toNat) else none
  | _ => none
theorem iv_rng1 {a : Expr} {f : SemL} {p pos : Pos} (hm : X.mg "range" = none) (ha : AV X Wx [a] f) (hg : Gl X "range" := by rfl) (hs : starEach [a] X.env = [(false, eval a X.env)] := by rfl) : IV X Wx tg (.Call (.Name "range" p) [a] [] pos) (iRng rg1 f) :=
  PIm (pi_range1 hg hm ha hs) (iRng_read fun F μ ws vs lo c n H R e r q => by
    unfold rg1 at e
    split at e
    · split at e
      · rename_i j hj
        cases e
        obtain ⟨v, rfl, r1⟩ := reps1 (ws := []) r
        cases rep_int_inv r1
        exact ⟨j, rfl, (big_of hj).1, (big_of hj).2, q _ (cnt_r 0 _)⟩
      · cases e
    · cases e)
theorem iv_rng2 {a b : Expr} {f : SemL} {p pos : Pos} (hm : X.mg "range" = none) (ha : AV X Wx [a, b] f) (hg : Gl X "range" := by rfl) (hs : starEach [a, b] X.env = [(false, eval a X.env), (false, eval b X.env)] := by rfl) (hs2 : starEach [b] X.env = [(false, eval b X.env)] := by rfl) : IV X Wx tg (.Call (.Name "range" p) [a, b] [] pos) (iRng rg2 f) :=
  PIm (pi_range2 hg hm ha hs hs2) (iRng_read fun F μ ws vs lo c n H R e r q => by
    unfold rg2 at e
    split at e
    · split at e
      · rename_i i j hj
        cases e
        obtain ⟨v, x, rfl, r1, r2⟩ := reps2 r
        cases rep_int_inv r1
        cases rep_int_inv r2
        exact ⟨_, j, rfl, ⟨(big_of hj.1).1, (big_of hj.1).2, (big_of hj.2).1, (big_of hj.2).2⟩, q _ (cnt_r _ _)⟩
      · cases e
    · cases e)
theorem rangeSize_up {i j c : Int} (hc : 0 < c) : Builtin.Range.rangeSize i j c = ((Builtin.Range.rangeSize i j c).toNat : Nat) := by
  have : 0 ≤ Builtin.Range.rangeSize i j c := by
    unfold Builtin.Range.rangeSize
    split <;> first | (split <;> first | omega | (apply Int.add_nonneg _ (by omega); exact Int.ediv_nonneg (by omega) (by omega)) | skip) | omega
    all_goals first | omega | exact Int.le_of_lt (by omega) | skip
  omega
theorem iv_rng3 {a b c : Expr} {f : SemL} {p pos : Pos} (hm : X.mg "range" = none) (ha : AV X Wx [a, b, c] f) (hg : Gl X "range" := by rfl) (hs : starEach [a, b, c] X.env = (false, eval a X.env) :: starEach [b, c] X.env := by rfl) (hpl : (backTo pos (starEach [b, c] X.env)).any (·.1) = false := by rfl) :
    IV X Wx tg (.Call (.Name "range" p) [a, b, c] [] pos) (iRng rg3 f) :=
  PIm (pi_range3 hg hm ha hs hpl) (iRng_read fun F μ ws vs lo k n H R e r q => by
    unfold rg3 at e
    split at e
    · rename_i i j c
      obtain ⟨v, t, rfl, r1, r2⟩ := r.cons_inv
      obtain ⟨x, y, rfl, r3, r4⟩ := reps2 r2
      cases rep_int_inv r1
      cases rep_int_inv r3
      cases rep_int_inv r4
      split at e
      · rename_i hc
        split at e
        · rename_i hj
          cases e
          exact ⟨_, j, _, _, rfl, by rw [hc]; exact RgC.neg (big_of hj.1).1 (big_of hj.1).2 (big_of hj.2).1 (big_of hj.2).2, by rw [hc]; exact q _ (cnt_c _ _ _)⟩
        · cases e
      · split at e
        · rename_i hc
          have hc := dec_of hc
          cases e
          exact ⟨_, j, _, _, rfl, ⟨by omega, by omega, hc.2.2, rangeSize_up hc.1⟩, q _ (cnt_c _ _ _)⟩
        · cases e
    · cases e)
/-- a text, sign by sign -/
def sgnW (z : Str) : List W := z.cps.toList.map fun c => W.str ⟨#[c]⟩
def iStrF (f : Sem) : SemI := fun fr st => (f fr st).bind fun x st1 => match x with
  | .str z => if z.length ≤ LINE then .ok (.non, sgnW z) st1 else .bad
  | _ => .bad
end
end SL

namespace SL
open PySem PySem.Spec PyProof.Rows L2

/-! ## hidden objects -/
section
variable {K : PySem.W.Frag} {mg : Str → Option Value} {μ : List Addr} {st : Sto} {hid : List Addr} {H : Hp}
theorem live_cons {p a : Addr} : LiveA μ st (p :: hid) a ↔ a = p ∨ LiveA μ st hid a := by
  unfold LiveA
  constructor
  · rintro (h | h)
    · rcases List.mem_cons.mp h with h | h
      · exact .inl h
      · exact .inr (.inl h)
    · exact .inr (.inr h)
  · rintro (h | h | h)
    · exact .inl (List.mem_cons.mpr (.inl h))
    · exact .inl (List.mem_cons_of_mem _ h)
    · exact .inr h
theorem Fz.hide {p : Addr} (hp : H p = none) : Fz μ st (p :: hid) H = Fz μ st hid H := by
  funext a
  by_cases h : LiveA μ st hid a
  · unfold Fz
    rw [if_pos h, if_pos (live_cons.mpr (.inr h))]
  · by_cases e : a = p
    · subst e
      unfold Fz
      rw [if_pos (live_cons.mpr (.inl rfl)), if_neg h, hp]
    · unfold Fz
      rw [if_neg h, if_neg (fun z => (live_cons.mp z).elim e h)]
theorem Fz.hidUpd {p : Addr} {o : HO} (hm : p ∈ hid) : Fz μ st hid (upd H p o) = Fz μ st hid H := by
  funext a
  by_cases h : LiveA μ st hid a
  · unfold Fz
    rw [if_pos h, if_pos h]
  · have e : a ≠ p := fun e => h (.inl (e ▸ hm))
    unfold Fz
    rw [if_neg h, if_neg h, upd_ne e]
theorem CelOk.of_eq {F : Hp} {H H' : Hp} {a : Addr} {c : Cel} (l : c.live = true → H' a = H a) (h : CelOk K mg F μ H a c) : CelOk K mg F μ H' a c := by
  cases c with
  | lst ws => obtain ⟨vs, e, r⟩ := h; exact ⟨vs, by rw [l rfl]; exact e, r⟩
  | dct ks ws => obtain ⟨vs, e, r⟩ := h; exact ⟨vs, e.of_eq (l rfl), r⟩
  | ins c ns ws => obtain ⟨C, dx, vs, g, l', e, r⟩ := h; exact ⟨C, dx, vs, g, l', by rw [l rfl]; exact e, r⟩
  | frz w => exact h
theorem CelOk.le {F F' : Hp} {μ' : List Addr} {a : Addr} {c : Cel} (x : Le F F') (p : Pre μ μ') (h : CelOk K mg F μ H a c) : CelOk K mg F' μ' H a c := by
  cases c with
  | lst ws => obtain ⟨vs, e, r⟩ := h; exact ⟨vs, e, r.mono x p⟩
  | dct ks ws => obtain ⟨vs, e, r⟩ := h; exact ⟨vs, e, r.mono x p⟩
  | ins c ns ws => obtain ⟨C, dx, vs, g, l', e, r⟩ := h; exact ⟨C, dx, vs, g, l', e, r.mono x p⟩
  | frz w => exact Rep.mono x p _ _ h
/-- a new object that is hidden -/
theorem StOk.hideNew (k : StOk K mg μ st hid H) {p : Addr} {o : HO} (hp : H p = none) (nt : ∀ vs, o ≠ .tup vs := by intro _ h; cases h) : StOk K mg μ st (p :: hid) (upd H p o) ∧ Fz μ st (p :: hid) (upd H p o) = Fz μ st hid H := by
  have e : Fz μ st (p :: hid) (upd H p o) = Fz μ st hid H := by rw [Fz.hidUpd List.mem_cons_self, Fz.hide hp]
  have ne : ∀ (n : Nat) (a : Addr) (c : Cel), μ[n]? = some a → st[n]? = some c → c.live = true → a ≠ p := fun n a c h1 h2 h3 z => by
    obtain ⟨u, q⟩ := (k.ok n a c h1 h2).there h3
    rw [z, hp] at q; cases q
  refine ⟨⟨k.len, k.inj, fun n a c h1 h2 h3 z => ?_, fun a ha => ?_, fun n a c h1 h2 => ?_⟩, e⟩
  · rcases List.mem_cons.mp z with z | z
    · exact ne n a c h1 h2 h3 z
    · exact k.hidn n a c h1 h2 h3 z
  · rcases List.mem_cons.mp ha with z | z
    · rw [z, upd_same]; exact ⟨(fun q => nomatch q), fun vs q => nt vs (Option.some.inj q)⟩
    · by_cases q : a = p
      · rw [q, upd_same]; exact ⟨(fun q => nomatch q), fun vs q => nt vs (Option.some.inj q)⟩
      · rw [upd_ne q]; exact k.hidt a z
  · rw [e]
    exact (k.ok n a c h1 h2).of_eq fun l => upd_ne (ne n a c h1 h2 l)
/-- a hidden object changes -/
theorem StOk.hidUpd (k : StOk K mg μ st hid H) {p : Addr} {o : HO} (hm : p ∈ hid) (nt : ∀ vs, o ≠ .tup vs := by intro _ h; cases h) : StOk K mg μ st hid (upd H p o) := by
  refine ⟨k.len, k.inj, k.hidn, fun a ha => ?_, fun n a c h1 h2 => ?_⟩
  · by_cases q : a = p
    · rw [q, upd_same]; exact ⟨(fun q => nomatch q), fun vs q => nt vs (Option.some.inj q)⟩
    · rw [upd_ne q]; exact k.hidt a ha
  · rw [Fz.hidUpd hm]
    exact (k.ok n a c h1 h2).of_eq fun l => upd_ne fun z => k.hidn n a c h1 h2 l (z ▸ hm)
/-- what was hidden is seen -/
theorem StOk.seen {p : Addr} {o : HO} (k : StOk K mg μ st (p :: hid) H) (hn : p ∉ hid) (e : H p = some o) : StOk K mg μ st hid H ∧ Le (Fz μ st (p :: hid) H) (Fz μ st hid H) ∧ Fz μ st hid H p = some o := by
  have l : Le (Fz μ st (p :: hid) H) (Fz μ st hid H) := Le.of fun a u h => by
    obtain ⟨h1, h2⟩ := Fz.sub h
    exact Fz.mk h1 fun z => h2 (live_cons.mpr (.inr z))
  refine ⟨⟨k.len, k.inj, fun n a c h1 h2 h3 z => k.hidn n a c h1 h2 h3 (List.mem_cons_of_mem _ z), fun a ha => k.hidt a (List.mem_cons_of_mem _ ha), fun n a c h1 h2 => (k.ok n a c h1 h2).le l (.refl _)⟩, l, Fz.mk e fun z => ?_⟩
  rcases z with z | ⟨n, c, h1, h2, h3⟩
  · exact hn z
  · exact k.hidn n p c h1 h2 h3 List.mem_cons_self
end

/-! ## comprehensions -/
def wipeF (fr : Fr) : List Nat → Fr
  | [] => fr
  | v :: vs => (wipeF fr vs).set v none
theorem wipeF_length (fr : Fr) : ∀ vs : List Nat, (wipeF fr vs).length = fr.length
  | [] => rfl
  | v :: vs => by unfold wipeF; rw [List.length_set, wipeF_length fr vs]
theorem wipe_at {α : Type} (σ : List (Option α)) (w : List (Option α) → List Nat → List (Option α)) (h0 : ∀ f, w f [] = f) (h1 : ∀ f v vs, w f (v :: vs) = (w f vs).set v none) : ∀ (vs : List Nat) (j : Nat), (j ∉ vs → (w σ vs)[j]? = σ[j]?) ∧ (j ∈ vs → ∀ x, (w σ vs)[j]? ≠ some (some x))
  | [], j => ⟨fun _ => by rw [h0], fun h => by simp at h⟩
  | v :: vs, j => by
    obtain ⟨a, b⟩ := wipe_at σ w h0 h1 vs j
    rw [h1]
    by_cases e : v = j
    · subst e
      refine ⟨fun h => by simp at h, fun _ x z => ?_⟩
      by_cases q : v < (w σ vs).length
      · rw [List.getElem?_set_self q] at z; cases z
      · rw [List.getElem?_eq_none (by simpa using q)] at z; cases z
    · rw [List.getElem?_set_ne e]
      exact ⟨fun h => a fun z => h (List.mem_cons_of_mem _ z), fun h => b (by rcases List.mem_cons.mp h with z | z; exact absurd z.symm e; exact z)⟩
theorem wipeF_at (fr : Fr) (vs : List Nat) (j : Nat) : (j ∉ vs → (wipeF fr vs)[j]? = fr[j]?) ∧ (j ∈ vs → ∀ x, (wipeF fr vs)[j]? ≠ some (some x)) := wipe_at fr wipeF (fun _ => rfl) (fun _ _ _ => rfl) vs j
theorem wipe_at' (σ : L2.St) (vs : List Nat) (j : Nat) : (j ∉ vs → (wipe σ vs)[j]? = σ[j]?) ∧ (j ∈ vs → ∀ x, (wipe σ vs)[j]? ≠ some (some x)) := wipe_at σ wipe (fun _ => rfl) (fun _ _ _ => rfl) vs j
theorem wipe_ext {σ σ2 : L2.St} {vs : List Nat} (hl : σ2.length = σ.length) (h : ∀ j, j ∉ vs → σ2[j]? = (wipe σ vs)[j]?) : wipe σ2 vs = wipe σ vs := by
  apply List.ext_getElem?
  intro j
  by_cases hj : j ∈ vs
  · have a := (wipe_at' σ vs j).2 hj
    have b := (wipe_at' σ2 vs j).2 hj
    have l1 := wipe_length σ vs
    have l2 := wipe_length σ2 vs
    by_cases q : j < σ.length
    · have q1 : j < (wipe σ vs).length := by omega
      have q2 : j < (wipe σ2 vs).length := by omega
      rw [List.getElem?_eq_getElem q1] at a ⊢
      rw [List.getElem?_eq_getElem q2] at b ⊢
      cases e1 : (wipe σ vs)[j] with
      | some x => rw [e1] at a; exact absurd rfl (a x)
      | none =>
        cases e2 : (wipe σ2 vs)[j] with
        | some x => rw [e2] at b; exact absurd rfl (b x)
        | none => rfl
    · rw [List.getElem?_eq_none (by omega), List.getElem?_eq_none (by omega)]
  · rw [(wipe_at' σ2 vs j).1 hj]
    exact h j hj
theorem SI.wipe {K : PySem.W.Frag} {mg : Str → Option Value} {Wx : Wish} {μ : List Addr} {st : Sto} {hid : List Addr} {fr : Fr} {σ : L2.St} {H : Hp} (s : SI K mg Wx μ st hid fr σ H) (vs : List Nat) (hv : ∀ i ∈ Wx.lock, i ∉ vs) : SI K mg Wx μ st hid (wipeF fr vs) (L2.wipe σ vs) H :=
  ⟨s.sto, by rw [wipeF_length, wipe_length]; exact s.len, fun i w h => by
    by_cases hi : i ∈ vs
    · exact absurd h ((wipeF_at fr vs i).2 hi w)
    · rw [(wipeF_at fr vs i).1 hi] at h
      rw [(wipe_at' σ vs i).1 hi]
      exact s.loc i w h, Wx.slot _ _ _ _ (fun j hj => (wipe_at' σ vs j).1 (hv j hj)) s.ex⟩
/-- nothing may be raised within -/
def Wish.blk (Wx : Wish) : Wish := ⟨fun _ _ _ _ => False, Wx.lock, Wx.y, Wx.mono, Wx.slot⟩
theorem SI.blk {K : PySem.W.Frag} {mg : Str → Option Value} {Wx : Wish} {μ : List Addr} {st : Sto} {hid : List Addr} {fr : Fr} {σ : L2.St} {H : Hp} (s : SI K mg Wx μ st hid fr σ H) : SI K mg Wx.blk μ st hid fr σ H := ⟨s.sto, s.len, s.loc, s.ex⟩
open Classical in
noncomputable def lcRun (x : W) (all : List W) (g : TgF) (t : SemB) (e : Sem) (fr : Fr) : List W → Sto → Out (List W)
  | [], st => if srcOk x all st then .ok [] st else .bad
  | w :: r, st => if srcOk x all st then (match g w fr st with
    | some fr1 => match t fr1 st with
      | .ok true st1 => match e fr1 st1 with
        | .ok y st2 => match lcRun x all g t e fr r st2 with
          | .ok ys st3 => .ok (y :: ys) st3
          | _ => .bad
        | _ => .bad
      | .ok false st1 => lcRun x all g t e fr r st1
      | _ => .bad
    | none => .bad) else .bad
/-- what is done with the finished list -/
abbrev LFin := List W → Sto → Out W
noncomputable def eLcG (fin : LFin) (f : SemI) (g : TgF) (own : List Nat) (t : SemB) (e : Sem) : Sem := fun fr st => (f fr st).bind fun p st1 => match lcRun p.1 p.2 g t e (wipeF fr own) p.2 st1 with
  | .ok ys st2 => fin ys st2
  | _ => .bad
def finL : LFin := fun ys st => .ok (.lst ys) st
def finC : LFin := fun ys st => .ok (.cell st.length) (st ++ [.lst ys])
noncomputable abbrev eLc (f : SemI) (g : TgF) (own : List Nat) (t : SemB) (e : Sem) : Sem := eLcG finL f g own t e
noncomputable abbrev eLcC (f : SemI) (g : TgF) (own : List Nat) (t : SemB) (e : Sem) : Sem := eLcG finC f g own t e
def FinOk (K : PySem.W.Frag) (mg : Str → Option Value) (fin : LFin) : Prop := ∀ (Wx : WX) (σ : L2.St) (Q : VK) (hid μ0 : List Addr) (st0 : Sto) (H0 : Hp) (μ : List Addr) (st : Sto) (H : Hp) (D : Addr) (acc : List V) (ys : List W), StOk K mg μ st (D :: hid) H → D ∉ hid → H D = some (.lst acc) → Reps K mg (Fz μ st (D :: hid) H) μ ys acc → Pre μ0 μ → Le (Fz μ0 st0 hid H0) (Fz μ st (D :: hid) H) → (∀ a ∈ hid, H a = H0 a) → Lk H0 H →
  EPost K mg Wx hid μ0 st0 σ H0 Q (fin ys st) → Q (.ref D) H
theorem fin_lst {K : PySem.W.Frag} {mg : Str → Option Value} : FinOk K mg finL := fun Wx σ Q hid μ0 st0 H0 μ st H D acc ys k hD e r p l hh hlk P => by
  obtain ⟨k6, l6, e6⟩ := k.seen hD e
  exact P μ H _ k6 ⟨p, l.trans l6, hh, hlk⟩ (rep_lst e6 (r.mono l6 (.refl _)))
/-- a hidden list becomes a cell -/
theorem StOk.cellOf {K : PySem.W.Frag} {mg : Str → Option Value} {μ : List Addr} {st : Sto} {hid : List Addr} {H : Hp} {p : Addr} {acc : List V} {ys : List W} (k : StOk K mg μ st (p :: hid) H) (hn : p ∉ hid) (hp : H p = some (.lst acc)) (r : Reps K mg (Fz μ st (p :: hid) H) μ ys acc) :
    StOk K mg (μ ++ [p]) (st ++ [.lst ys]) hid H ∧ Fz (μ ++ [p]) (st ++ [.lst ys]) hid H = Fz μ st (p :: hid) H := by
  have spl : ∀ {m : Nat} {a : Addr} {d : Cel}, (μ ++ [p])[m]? = some a → (st ++ [Cel.lst ys])[m]? = some d → (m < st.length ∧ μ[m]? = some a ∧ st[m]? = some d) ∨ (m = st.length ∧ a = p ∧ d = .lst ys) := fun {m a d} e1 e2 => by
    by_cases z : m < st.length
    · rw [List.getElem?_append_left (by rw [k.len]; exact z)] at e1
      rw [List.getElem?_append_left z] at e2
      exact .inl ⟨z, e1, e2⟩
    · by_cases y : m = st.length
      · subst y
        rw [List.getElem?_append_right (by rw [k.len]; exact Nat.le_refl _), k.len] at e1
        rw [List.getElem?_append_right (Nat.le_refl _)] at e2
        simp at e1 e2
        exact .inr ⟨rfl, e1.symm, e2.symm⟩
      · rw [List.getElem?_append_right (by omega)] at e2
        rw [List.getElem?_eq_none (by simp; omega)] at e2; cases e2
  have lv : ∀ a, LiveA (μ ++ [p]) (st ++ [.lst ys]) hid a ↔ LiveA μ st (p :: hid) a := fun a => by
    constructor
    · rintro (h | ⟨m, d, e1, e2, e3⟩)
      · exact .inl (List.mem_cons_of_mem _ h)
      · rcases spl e1 e2 with ⟨y1, y2, y3⟩ | ⟨y1, y2, y3⟩
        · exact .inr ⟨m, d, y2, y3, e3⟩
        · subst y2; exact .inl List.mem_cons_self
    · rintro (h | ⟨m, d, e1, e2, e3⟩)
      · rcases List.mem_cons.mp h with h | h
        · subst h
          exact .inr ⟨st.length, .lst ys, by rw [List.getElem?_append_right (by rw [k.len]; exact Nat.le_refl _), k.len]; simp, by simp, rfl⟩
        · exact .inl h
      · have z : m < st.length := by
          rcases Nat.lt_or_ge m st.length with q | q
          · exact q
          · rw [List.getElem?_eq_none q] at e2; cases e2
        exact .inr ⟨m, d, by rw [List.getElem?_append_left (by rw [k.len]; exact z)]; exact e1, by rw [List.getElem?_append_left z]; exact e2, e3⟩
  have e : Fz (μ ++ [p]) (st ++ [.lst ys]) hid H = Fz μ st (p :: hid) H := by
    funext a
    by_cases h : LiveA μ st (p :: hid) a
    · unfold Fz; rw [if_pos h, if_pos ((lv a).mpr h)]
    · unfold Fz; rw [if_neg h, if_neg fun y => h ((lv a).mp y)]
  have pre : Pre μ (μ ++ [p]) := ⟨[p], rfl⟩
  have np : ∀ {m : Nat} {a : Addr} {d : Cel}, μ[m]? = some a → st[m]? = some d → d.live = true → a ≠ p := fun {m a d} e1 e2 e3 z => k.hidn m a d e1 e2 e3 (z ▸ List.mem_cons_self)
  refine ⟨⟨by simp [k.len], fun i j a d d' h2 h3 h4 h4' h5 h5' => ?_, fun j a d h2 h3 h4 => ?_, fun a ha => k.hidt a (List.mem_cons_of_mem _ ha), fun j a d h2 h3 => ?_⟩, e⟩
  · rcases spl h2 h4 with ⟨y1, y2, y3⟩ | ⟨y1, y2, y3⟩ <;> rcases spl h3 h4' with ⟨z1, z2, z3⟩ | ⟨z1, z2, z3⟩
    · exact k.inj i j a d d' y2 z2 y3 z3 h5 h5'
    · exact absurd z2 (np y2 y3 h5)
    · exact absurd y2 (np z2 z3 h5')
    · omega
  · rcases spl h2 h3 with ⟨y1, y2, y3⟩ | ⟨y1, y2, y3⟩
    · exact fun z => k.hidn j a d y2 y3 h4 (List.mem_cons_of_mem _ z)
    · subst y2; exact hn
  · rw [e]
    rcases spl h2 h3 with ⟨y1, y2, y3⟩ | ⟨y1, y2, y3⟩
    · exact (k.ok j a d y2 y3).le (.refl _) pre
    · subst y2 y3; exact ⟨acc, hp, r.mono (.refl _) pre⟩
theorem fin_cel {K : PySem.W.Frag} {mg : Str → Option Value} : FinOk K mg finC := fun Wx σ Q hid μ0 st0 H0 μ st H D acc ys k hD e r p l hh hlk P => by
  obtain ⟨k6, e6⟩ := k.cellOf hD e r
  refine P _ H _ k6 ⟨p.trans ⟨[D], rfl⟩, by rw [e6]; exact l, hh, hlk⟩ ?_
  unfold Rep
  exact ⟨D, by rw [← k.len]; simp, rfl⟩
/-- a comprehension's own state: what the list at D holds -/
structure LcSt (K : PySem.W.Frag) (mg : Str → Option Value) (D : Addr) (hid μ0 : List Addr) (F0 : Hp) (H0 : Hp) (i : Nat) (μ : List Addr) (st : Sto) (H : Hp) (ys : List W) (acc : List V) : Prop where
  sto : StOk K mg μ st (D :: hid) H
  le : Le F0 (Fz μ st (D :: hid) H)
  pre : Pre μ0 μ
  hidk : ∀ a ∈ hid, H a = H0 a
  lck : Lk H0 H
  at_ : H D = some (.lst acc)
  rep : Reps K mg (Fz μ st (D :: hid) H) μ ys acc
  len : acc.length ≤ i
theorem lc_read {X : Cx} {Wx : Wish} {fin : LFin} {f : SemI} {g : TgF} {sl own : List Nat} {t : SemB} {e : Sem} (hf : FinOk X.K X.mg fin) (hsl : ∀ i ∈ sl, i ∈ own) (hlk : ∀ i ∈ Wx.lock, i ∉ own) : ∀ σ H Q, tE X.K X.mg Wx (eLcG fin f g own t e) σ H Q →
    tLc (tI X.K X.mg Wx f) (tG X.K X.mg Wx.blk g sl) (tB' X.K X.mg Wx.blk t) (tE X.K X.mg Wx.blk e) own σ H Q := fun σ H Q ⟨μ, st, hid, fr, S, P⟩ => by
  refine ⟨μ, st, hid, fr, S, ?_⟩
  unfold eLcG at P
  cases h1 : f fr st with
  | bad => rw [h1] at P; exact P
  | err x s => rw [h1] at P; exact P
  | ok p st1 =>
    obtain ⟨x, all⟩ := p
    rw [h1, Out.bind_ok] at P
    intro μ1 H1 J k1 g1 ji D hD
    have P1 := EPost.from g1 P
    have S1 := S.next k1 g1
    simp only at P1
    cases hr : lcRun x all g t e (wipeF fr own) all st1 with
    | bad => rw [hr] at P1; exact P1.elim
    | err z s => rw [hr] at P1; exact P1.elim
    | ok tot stE =>
      rw [hr] at P1
      have hDn : D ∉ hid := fun z => (k1.hidt D z).1 hD
      obtain ⟨k2, e2⟩ := k1.hideNew (o := .lst []) hD
      refine ⟨fun i m H => m = all.length - i ∧ i ≤ all.length ∧ ∃ μ st ys acc rest, LcSt X.K X.mg D hid μ1 (Fz μ1 st1 hid H1) H1 i μ st H ys acc ∧ lcRun x all g t e (wipeF fr own) (all.drop i) st = .ok rest stE ∧ ys ++ rest = tot,
        ⟨_, rfl, Nat.zero_le _, μ1, st1, [], [], tot, ⟨k2, by rw [e2]; exact .refl _, .refl _, fun a ha => upd_ne fun z => hDn (z ▸ ha), fun a o u h => by rw [upd_ne (ne_of_none h hD)]; exact h, upd_same, .nil, Nat.le_refl _⟩, hr, rfl⟩, ?_⟩
      rintro i m H2 ⟨rfl, hi, μ2, st2, ys, acc, rest, L, run, tt⟩
      by_cases hlt : i < all.length
      · rw [List.drop_eq_getElem_cons hlt, lcRun] at run
        split at run
        · rename_i hs
          refine .inr ⟨ji.go _ _ _ _ i L.sto L.le L.pre L.lck hs hlt, fun H => ∃ μ st ys acc rest, LcSt X.K X.mg D hid μ1 (Fz μ1 st1 hid H1) H1 (i + 1) μ st H ys acc ∧ lcRun x all g t e (wipeF fr own) (all.drop (i + 1)) st = .ok rest stE ∧ ys ++ rest = tot,
            fun H' q => ⟨_, by omega, rfl, hlt, q⟩, fun v H3 hy => ?_⟩
          obtain ⟨k3, g3, w, hw, rw_⟩ := ji.yld _ _ _ _ i v H3 L.sto L.le L.pre L.lck hs hlt hy
          have ew : all[i] = w := by
            rw [List.getElem?_eq_getElem hlt] at hw; exact Option.some.inj hw
          rw [ew] at run
          cases e3 : g w (wipeF fr own) st2 with
          | none => rw [e3] at run; cases run
          | some fr1 =>
            rw [e3] at run
            simp only at run
            have S3 : SI X.K X.mg Wx.blk μ2 st2 (D :: hid) (wipeF fr own) (wipe σ own) H3 := by
              have W := (S1.wipe own hlk).blk
              have l3 : Le (Fz μ1 st1 hid H1) (Fz μ2 st2 (D :: hid) H3) := L.le.trans g3.le
              exact ⟨k3, W.len, fun j u hj => by
                obtain ⟨v, ev, rv⟩ := W.loc j u hj
                exact ⟨v, ev, Rep.mono l3 L.pre _ _ rv⟩, Wx.blk.mono _ _ _ _ _ l3 L.pre W.ex⟩
            refine ⟨μ2, st2, D :: hid, wipeF fr own, w, fr1, S3, rw_, e3, fun σ2 S4 ag => ⟨wipe_ext (by rw [ag.1, wipe_length]) fun j hj => ag.2 j fun z => hj (hsl j z), μ2, st2, D :: hid, fr1, S4, ?_⟩⟩
            cases e4 : t fr1 st2 with
            | bad => rw [e4] at run; cases run
            | err z s => rw [e4] at run; cases run
            | ok b st3 =>
              rw [e4] at run
              intro μ3 H4 k4 g4
              have keep : ∀ {μ' : List Addr} {st' : Sto} {H' : Hp}, Grow (D :: hid) μ2 st2 H3 μ' st' H' → StOk X.K X.mg μ' st' (D :: hid) H' → LcSt X.K X.mg D hid μ1 (Fz μ1 st1 hid H1) H1 i μ' st' H' ys acc := fun gg kk =>
                ⟨kk, (L.le.trans g3.le).trans gg.le, L.pre.trans gg.pre, fun a ha => ((gg.hid a (List.mem_cons_of_mem _ ha)).trans (g3.hid a (List.mem_cons_of_mem _ ha))).trans (L.hidk a ha), L.lck.trans (g3.lck.trans gg.lck),
                  ((gg.hid D List.mem_cons_self).trans (g3.hid D List.mem_cons_self)).trans L.at_, L.rep.mono (g3.le.trans gg.le) gg.pre, L.len⟩
              cases b with
              | false =>
                refine iteF ?_
                have Q4 := keep g4 k4
                exact ⟨μ3, st3, ys, acc, rest, ⟨Q4.sto, Q4.le, Q4.pre, Q4.hidk, Q4.lck, Q4.at_, Q4.rep, Nat.le_succ_of_le Q4.len⟩, run, tt⟩
              | true =>
                refine iteT ⟨μ3, st3, D :: hid, fr1, S4.next k4 g4, ?_⟩
                simp only at run
                cases e5 : e fr1 st3 with
                | bad => rw [e5] at run; cases run
                | err z s => rw [e5] at run; cases run
                | ok y st4 =>
                  rw [e5] at run
                  simp only at run
                  intro μ4 H5 vy k5 g5 r5
                  have Q5 := keep (g4.trans g5) k5
                  cases e6 : lcRun x all g t e (wipeF fr own) (all.drop (i + 1)) st4 with
                  | bad => rw [e6] at run; cases run
                  | err z s => rw [e6] at run; cases run
                  | ok more stF =>
                    rw [e6] at run
                    simp only at run
                    injection run with ra rb
                    subst ra rb
                    refine ⟨acc, Q5.at_, Nat.lt_of_le_of_lt Q5.len (Nat.lt_of_lt_of_le hlt ji.len), μ4, st4, ys ++ [y], acc ++ [vy], more, ⟨Q5.sto.hidUpd List.mem_cons_self, ?_, Q5.pre, fun a ha => ?_, fun a o u h => ?_, upd_same, ?_, ?_⟩, e6, by rw [← tt]; simp⟩
                    · rw [Fz.hidUpd List.mem_cons_self]; exact Q5.le
                    · rw [upd_ne (fun z : a = D => hDn (z ▸ ha))]; exact Q5.hidk a ha
                    · have q := Q5.lck a o u h
                      rw [upd_ne fun z => by rw [z, Q5.at_] at q; cases q]; exact q
                    · rw [Fz.hidUpd List.mem_cons_self]; exact Q5.rep.append (.cons r5 .nil)
                    · rw [List.length_append, List.length_singleton]; exact Nat.succ_le_succ Q5.len
        · cases run
      · have hi2 : i = all.length := by omega
        subst hi2
        rw [List.drop_length, lcRun] at run
        split at run
        · rename_i hs
          injection run with ra rb
          subst ra rb
          refine .inl ⟨ji.stop _ _ _ _ _ L.sto L.le L.pre L.lck hs (Nat.le_refl _), ?_⟩
          rw [List.append_nil] at tt
          subst tt
          exact hf _ _ _ _ _ _ _ _ _ _ _ _ _ L.sto hDn L.at_ L.rep L.pre L.le L.hidk L.lck P1
        · cases run
section
variable {X : Cx} {Wx : Wish}
def tTrue : SemB := fun _ st => .ok true st
theorem tv_ifs0 : PTs X [] (tB' X.K X.mg Wx tTrue) := ⟨fun pins s σ H Q I h => pts_nil.run pins s σ H Q I (by
  obtain ⟨μ, st, hid, fr, S, P⟩ := h
  exact P μ H S.sto .refl)⟩
theorem tv_ifs1 {c : Expr} {t : SemB} (h : TV X Wx c t) : PTs X [c] (tB' X.K X.mg Wx t) := pts_one h
theorem ev_lcG {fin : LFin} (hf : FinOk X.K X.mg fin) {elt tg iter : Expr} {ifs : List Expr} {scope : Scope} {own : List (Str × Nat)} {pos : Pos} {f : SemI} {g : TgF} {sl : List Nat} {t : SemB} {e : Sem} (hc : X.calm = true) (hN : X.N.Nodup) (hi : IV X Wx tg iter f) (ok : blkC X.N X.env.scope scope own = true)
    (hsl : ∀ i ∈ sl, i ∈ own.map (·.2)) (hlk : ∀ i ∈ Wx.lock, i ∉ own.map (·.2))
    (hg : ∀ (s : Shared) (H : Hp) (C : Addr) (cl : List (Str × Addr)) (fp : List Addr), GV (X.blk s H scope (compEnvC scope cl C X.env) fp) Wx.blk tg g sl)
    (ht : ∀ (s : Shared) (H : Hp) (C : Addr) (cl : List (Str × Addr)) (fp : List Addr), PTs (X.blk s H scope (compEnvC scope cl C X.env) fp) ifs (tB' X.K X.mg Wx.blk t))
    (he : ∀ (s : Shared) (H : Hp) (C : Addr) (cl : List (Str × Addr)) (fp : List Addr), EV (X.blk s H scope (compEnvC scope cl C X.env) fp) Wx.blk elt e) (hs : ∀ x, foldedSetIterable iter X.env x = pure x := by intro _; rfl) :
    EV X Wx (.ListComp elt [⟨tg, iter, ifs, 0⟩] scope pos) (eLcG fin f g (own.map (·.2)) t e) :=
  PEm (pe_lc hc hN hi (blkOk_by ok) hg ht he hs) (lc_read hf hsl hlk)
end
end SL

namespace SL
open PySem PySem.Spec PyProof.Rows L2

/-! ## the contexts -/
structure Ctx (X : Cx) (Wx : Wish) (k : Nat) : Prop where
  calm : X.calm = true
  nd : X.N.Nodup
  room : Room k X.A
  tk : Takes X Wx.w
  hp : PassesOwn (model X.prog X.w) X.A X.env X.xe
theorem Ctx.blk {X : Cx} {Wx : Wish} {k : Nat} (C : Ctx X Wx k) (s : Shared) (H : Hp) (scope : Scope) (cenv : Env) (fp : List Addr) : Ctx (X.blk s H scope cenv fp) Wx.blk k := ⟨C.calm, C.nd, C.room, takes0, PassesOwn.never⟩
theorem Ctx.mono {X : Cx} {Wx : Wish} {j k : Nat} (C : Ctx X Wx k) (h : j ≤ k) : Ctx X Wx j := ⟨C.calm, C.nd, C.room.mono h, C.tk, C.hp⟩

/-! ## a cell changes -/
section
variable {K : PySem.W.Frag} {mg : Str → Option Value} {μ : List Addr} {st : Sto} {hid : List Addr} {H : Hp}
theorem live_set {n : Nat} {c c' : Cel} {p : Addr} (h1 : st[n]? = some c) (l : c.live = true) (l' : c'.live = true) (a : Addr) : LiveA μ (st.set n c') hid a ↔ LiveA μ st hid a := by
  have hn : n < st.length := by
    rcases Nat.lt_or_ge n st.length with q | q
    · exact q
    · rw [List.getElem?_eq_none q] at h1; cases h1
  unfold LiveA
  constructor
  · rintro (h | ⟨m, d, e1, e2, e3⟩)
    · exact .inl h
    · by_cases e : n = m
      · subst e; exact .inr ⟨n, c, e1, h1, l⟩
      · rw [List.getElem?_set_ne e] at e2; exact .inr ⟨m, d, e1, e2, e3⟩
  · rintro (h | ⟨m, d, e1, e2, e3⟩)
    · exact .inl h
    · by_cases e : n = m
      · subst e; exact .inr ⟨n, c', e1, by rw [List.getElem?_set_self hn], l'⟩
      · exact .inr ⟨m, d, e1, by rw [List.getElem?_set_ne e]; exact e2, e3⟩
theorem StOk.setCell0 (k : StOk K mg μ st hid H) {n : Nat} {c c' : Cel} {p : Addr} {o : HO} (h0 : μ[n]? = some p) (h1 : st[n]? = some c) (l : c.live = true) (l' : c'.live = true) (q : CelOk K mg (Fz μ st hid H) μ (upd H p o) p c') :
    StOk K mg μ (st.set n c') hid (upd H p o) ∧ Fz μ (st.set n c') hid (upd H p o) = Fz μ st hid H ∧ p ∉ hid := by
  have lp : LiveA μ st hid p := .inr ⟨n, c, h0, h1, l⟩
  have e : Fz μ (st.set n c') hid (upd H p o) = Fz μ st hid H := by
    funext a
    by_cases h : LiveA μ st hid a
    · unfold Fz; rw [if_pos h, if_pos ((live_set (p := p) h1 l l' a).mpr h)]
    · have hne : a ≠ p := fun z => h (z ▸ lp)
      unfold Fz; rw [if_neg h, if_neg (fun z => h ((live_set (p := p) h1 l l' a).mp z)), upd_ne hne]
  have hn : n < st.length := by
    rcases Nat.lt_or_ge n st.length with q | q
    · exact q
    · rw [List.getElem?_eq_none q] at h1; cases h1
  have hh : p ∉ hid := k.hidn n p c h0 h1 l
  refine ⟨⟨by rw [List.length_set]; exact k.len, fun i j a d d' h2 h3 h4 h4' h5 h5' => ?_, fun j a d h2 h3 h4 => ?_, fun a ha => ?_, fun j a d h2 h3 => ?_⟩, e, hh⟩
  · have old : ∀ {m : Nat} {b : Addr} {e : Cel}, (st.set n c')[m]? = some e → e.live = true → ∃ e', st[m]? = some e' ∧ e'.live = true := fun {m b e} y1 y2 => by
      by_cases z : n = m
      · subst z; exact ⟨c, h1, l⟩
      · rw [List.getElem?_set_ne z] at y1; exact ⟨e, y1, y2⟩
    obtain ⟨e1, y1, y2⟩ := old (b := a) h4 h5
    obtain ⟨e2, y3, y4⟩ := old (b := a) h4' h5'
    exact k.inj i j a e1 e2 h2 h3 y1 y3 y2 y4
  · by_cases z : n = j
    · subst z
      rw [h0] at h2; cases h2; exact hh
    · rw [List.getElem?_set_ne z] at h3; exact k.hidn j a d h2 h3 h4
  · by_cases z : a = p
    · exact absurd (z ▸ ha) hh
    · rw [upd_ne z]; exact k.hidt a ha
  · rw [e]
    by_cases z : n = j
    · subst z
      rw [h0] at h2; cases h2
      rw [List.getElem?_set_self hn] at h3
      cases h3; exact q
    · rw [List.getElem?_set_ne z] at h3
      refine (k.ok j a d h2 h3).of_eq fun ld => upd_ne fun y => z ?_
      subst y
      exact k.inj n j a c d h0 h2 h1 h3 l ld
/-- what is not locked -/
def Cel.unl : Cel → Bool
  | .lst _ | .ins _ _ _ => true
  | .dct (.ty t :: _) _ => t == "T"
  | .dct _ _ => true
  | .frz _ => false
theorem unl_nf {F : Hp} {a : Addr} {c : Cel} (h : CelOk K mg F μ H a c) (hu : c.unl = true) : ∀ o u, H a ≠ some (.frz o u) := by
  intro o u e
  cases c with
  | lst ws => obtain ⟨vs, h, _⟩ := h; rw [e] at h; cases h
  | ins c ns ws => obtain ⟨C, dx, vs, _, _, h, _⟩ := h; rw [e] at h; cases h
  | frz w => cases hu
  | dct ks ws =>
    obtain ⟨vs, ⟨l, q, h1, h2, h3⟩, _⟩ := h
    have hl : l = false := by
      cases ks with
      | nil => cases h1; rfl
      | cons w ks =>
        cases w with
        | ty t =>
          have ht : t = "T" := beq_iff_eq.mp hu
          subst ht
          have z : kindW (.ty "T" :: ks) = (mapO keyT ks).map fun kk => (false, .inr kk) := rfl
          rw [z] at h1
          cases m : mapO keyT ks with
          | none => rw [m] at h1; cases h1
          | some kk => rw [m] at h1; cases h1; rfl
        | int i =>
          have z : kindW (.int i :: ks) = (mapO keyW (.int i :: ks)).map fun kk => (false, .inl kk) := rfl
          rw [z] at h1
          cases m : mapO keyW (.int i :: ks) with
          | none => rw [m] at h1; cases h1
          | some kk => rw [m] at h1; cases h1; rfl
        | str x =>
          have z : kindW (.str x :: ks) = (mapO keyW (.str x :: ks)).map fun kk => (false, .inl kk) := rfl
          rw [z] at h1
          cases m : mapO keyW (.str x :: ks) with
          | none => rw [m] at h1; cases h1
          | some kk => rw [m] at h1; cases h1; rfl
        | _ => cases h1
    subst hl
    have h3' : H a = some (dObj q vs) := h3
    rw [e] at h3'
    cases q <;> cases h3'
theorem StOk.setCell (k : StOk K mg μ st hid H) {n : Nat} {c c' : Cel} {p : Addr} {o : HO} (h0 : μ[n]? = some p) (h1 : st[n]? = some c) (l : c.live = true) (l' : c'.live = true) (q : CelOk K mg (Fz μ st hid H) μ (upd H p o) p c') (hu : c.unl = true := by rfl) :
    StOk K mg μ (st.set n c') hid (upd H p o) ∧ Grow hid μ st H μ (st.set n c') (upd H p o) := by
  obtain ⟨k1, e, hh⟩ := k.setCell0 h0 h1 l l' q
  have nf := unl_nf (k.ok n p c h0 h1) hu
  exact ⟨k1, ⟨.refl _, by rw [e]; exact .refl _, fun a ha => upd_ne fun z => hh (z ▸ ha), fun a o' u h => by
    have ne : a ≠ p := fun z => nf o' u (by rw [← z]; exact h)
    rw [upd_ne ne]; exact h⟩⟩
/-- a new cell -/
theorem StOk.newCell (k : StOk K mg μ st hid H) {c : Cel} {p : Addr} {o : HO} (hp : H p = none) (lc : c.live = true) (q : CelOk K mg (Fz μ st hid H) (μ ++ [p]) (upd H p o) p c) :
    StOk K mg (μ ++ [p]) (st ++ [c]) hid (upd H p o) ∧ Grow hid μ st H (μ ++ [p]) (st ++ [c]) (upd H p o) := by
  have nl := k.notLive hp
  have lv : ∀ a, LiveA (μ ++ [p]) (st ++ [c]) hid a ↔ a = p ∨ LiveA μ st hid a := fun a => by
    unfold LiveA
    constructor
    · rintro (h | ⟨m, d, e1, e2, e3⟩)
      · exact .inr (.inl h)
      · by_cases z : m < st.length
        · rw [List.getElem?_append_left (by rw [k.len]; exact z)] at e1
          rw [List.getElem?_append_left z] at e2
          exact .inr (.inr ⟨m, d, e1, e2, e3⟩)
        · by_cases y : m = st.length
          · subst y
            rw [List.getElem?_append_right (by rw [k.len]; exact Nat.le_refl _), k.len] at e1
            simp at e1
            exact .inl e1.symm
          · rw [List.getElem?_append_right (by omega)] at e2
            rw [List.getElem?_eq_none (by simp; omega)] at e2; cases e2
    · rintro (h | h | ⟨m, d, e1, e2, e3⟩)
      · subst h
        exact .inr ⟨st.length, c, by rw [List.getElem?_append_right (by rw [k.len]; exact Nat.le_refl _), k.len]; simp, by simp, lc⟩
      · exact .inl h
      · have z : m < st.length := by
          rcases Nat.lt_or_ge m st.length with q | q
          · exact q
          · rw [List.getElem?_eq_none q] at e2; cases e2
        exact .inr ⟨m, d, by rw [List.getElem?_append_left (by rw [k.len]; exact z)]; exact e1, by rw [List.getElem?_append_left z]; exact e2, e3⟩
  have e : Fz (μ ++ [p]) (st ++ [c]) hid (upd H p o) = Fz μ st hid H := by
    funext a
    by_cases h : LiveA μ st hid a
    · unfold Fz; rw [if_pos h, if_pos ((lv a).mpr (.inr h))]
    · by_cases z : a = p
      · subst z
        unfold Fz; rw [if_neg h, if_pos ((lv a).mpr (.inl rfl)), hp]
      · unfold Fz; rw [if_neg h, if_neg (fun y => ((lv a).mp y).elim z h), upd_ne z]
  have pre : Pre μ (μ ++ [p]) := ⟨[p], rfl⟩
  have spl : ∀ {m : Nat} {a : Addr} {d : Cel}, (μ ++ [p])[m]? = some a → (st ++ [c])[m]? = some d → (m < st.length ∧ μ[m]? = some a ∧ st[m]? = some d) ∨ (m = st.length ∧ a = p ∧ d = c) := fun {m a d} e1 e2 => by
    by_cases z : m < st.length
    · rw [List.getElem?_append_left (by rw [k.len]; exact z)] at e1
      rw [List.getElem?_append_left z] at e2
      exact .inl ⟨z, e1, e2⟩
    · by_cases y : m = st.length
      · subst y
        rw [List.getElem?_append_right (by rw [k.len]; exact Nat.le_refl _), k.len] at e1
        rw [List.getElem?_append_right (Nat.le_refl _)] at e2
        simp at e1 e2
        exact .inr ⟨rfl, e1.symm, e2.symm⟩
      · rw [List.getElem?_append_right (by omega)] at e2
        rw [List.getElem?_eq_none (by simp; omega)] at e2; cases e2
  have np : ∀ {m : Nat} {a : Addr} {d : Cel}, μ[m]? = some a → st[m]? = some d → d.live = true → a ≠ p := fun {m a d} e1 e2 e3 z => by
    obtain ⟨u, y⟩ := (k.ok m a d e1 e2).there e3
    rw [z, hp] at y; cases y
  refine ⟨⟨by simp [k.len], fun i j a d d' h2 h3 h4 h4' h5 h5' => ?_, fun j a d h2 h3 h4 => ?_, fun a ha => ?_, fun j a d h2 h3 => ?_⟩, ⟨pre, by rw [e]; exact .refl _, fun a ha => upd_ne fun z => (k.hidt a ha).1 (z ▸ hp), fun a o' u h => by rw [upd_ne (ne_of_none h hp)]; exact h⟩⟩
  · rcases spl h2 h4 with ⟨y1, y2, y3⟩ | ⟨y1, y2, y3⟩ <;> rcases spl h3 h4' with ⟨z1, z2, z3⟩ | ⟨z1, z2, z3⟩
    · exact k.inj i j a d d' y2 z2 y3 z3 h5 h5'
    · exact absurd z2 (np y2 y3 h5)
    · exact absurd y2 (np z2 z3 h5')
    · omega
  · rcases spl h2 h3 with ⟨y1, y2, y3⟩ | ⟨y1, y2, y3⟩
    · exact k.hidn j a d y2 y3 h4
    · subst y2; exact fun z => (k.hidt a z).1 hp
  · have hne : a ≠ p := fun z => (k.hidt a ha).1 (z ▸ hp)
    rw [upd_ne hne]; exact k.hidt a ha
  · rw [e]
    rcases spl h2 h3 with ⟨y1, y2, y3⟩ | ⟨y1, y2, y3⟩
    · exact ((k.ok j a d y2 y3).le (.refl _) pre).of_eq fun l => upd_ne (np y2 y3 l)
    · subst y2 y3; exact q
end
end SL

namespace SL
open PySem PySem.Spec PyProof.Rows L2

inductive SOut where
  | nx (fr : Fr) (st : Sto) | rt (w : W) (st : Sto) | bk (fr : Fr) (st : Sto) | ct (fr : Fr) (st : Sto) | er (x : Exc) (fr : Fr) (st : Sto) | bad
abbrev SSem := Fr → Sto → SOut
def Out.stm {α : Type} (o : Out α) (fr : Fr) (f : α → Sto → SOut) : SOut := match o with
  | .ok a st => f a st
  | .err x st => .er x fr st
  | .bad => .bad
@[simp] theorem Out.stm_ok {α : Type} (a : α) (st : Sto) (fr : Fr) (f : α → Sto → SOut) : (Out.ok a st).stm fr f = f a st := rfl
@[simp] theorem Out.stm_err {α : Type} (x : Exc) (st : Sto) (fr : Fr) (f : α → Sto → SOut) : (Out.err x st).stm fr f = .er x fr st := rfl
@[simp] theorem Out.stm_bad {α : Type} (fr : Fr) (f : α → Sto → SOut) : (Out.bad).stm fr f = .bad := rfl
def SPost (K : PySem.W.Frag) (mg : Str → Option Value) (Wx : Wish) (hid μ : List Addr) (st : Sto) (H : Hp) (D : Ends) : SOut → Prop
  | .nx fr' st' => ∀ μ' σ' H', SI K mg Wx μ' st' hid fr' σ' H' → Grow hid μ st H μ' st' H' → D.nx σ' H'
  | .rt w st' => ∀ μ' H' v, StOk K mg μ' st' hid H' → Grow hid μ st H μ' st' H' → Rep K mg (Fz μ' st' hid H') μ' w v → D.rt v H'
  | .bk fr' st' => ∀ μ' σ' H', SI K mg Wx μ' st' hid fr' σ' H' → Grow hid μ st H μ' st' H' → D.bk σ' H'
  | .ct fr' st' => ∀ μ' σ' H', SI K mg Wx μ' st' hid fr' σ' H' → Grow hid μ st H μ' st' H' → D.ct σ' H'
  | .er x fr' st' => ∀ μ' σ' H' c d, SI K mg Wx μ' st' hid fr' σ' H' → Grow hid μ st H μ' st' H' → XRep K mg (Fz μ' st' hid H') μ' x c d → Wx.w c d σ' H'
  | .bad => False
theorem SPost.from {K : PySem.W.Frag} {mg : Str → Option Value} {Wx : Wish} {hid μ μ' : List Addr} {st st' : Sto} {H H' : Hp} {D : Ends} {o : SOut} (x : Grow hid μ st H μ' st' H') (h : SPost K mg Wx hid μ st H D o) : SPost K mg Wx hid μ' st' H' D o := by
  cases o with
  | nx fr s => exact fun μ2 σ2 H2 a b => h μ2 σ2 H2 a (x.trans b)
  | rt w s => exact fun μ2 H2 v a b c => h μ2 H2 v a (x.trans b) c
  | bk fr s => exact fun μ2 σ2 H2 a b => h μ2 σ2 H2 a (x.trans b)
  | ct fr s => exact fun μ2 σ2 H2 a b => h μ2 σ2 H2 a (x.trans b)
  | er e fr s => exact fun μ2 σ2 H2 c d a b r => h μ2 σ2 H2 c d a (x.trans b) r
  | bad => exact h
def tS (K : PySem.W.Frag) (mg : Str → Option Value) (Wx : Wish) (f : SSem) : TS := fun D σ H => ∃ μ st hid fr, SI K mg Wx μ st hid fr σ H ∧ SPost K mg Wx hid μ st H D (f fr st)
abbrev SV (X : Cx) (Wx : Wish) (s : Stmt) (f : SSem) : Prop := PS X s (tS X.K X.mg Wx f)
abbrev BV (X : Cx) (Wx : Wish) (s : List Stmt) (f : SSem) : Prop := PSs X s (tS X.K X.mg Wx f)
section
variable {X : Cx} {Wx : Wish}
/-! ## blocks -/
def sNil : SSem := fun fr st => .nx fr st
def sSeq (f g : SSem) : SSem := fun fr st => match f fr st with
  | .nx fr1 st1 => g fr1 st1
  | o => o
theorem bv_nil : BV X Wx [] sNil := PSsm pss_nil fun D σ H ⟨μ, st, hid, fr, S, P⟩ => P μ σ H S .refl
theorem bv_cons {s : Stmt} {r : List Stmt} {f g : SSem} (h1 : SV X Wx s f) (h2 : BV X Wx r g) : BV X Wx (s :: r) (sSeq f g) := PSsm (pss_cons h1 h2) fun D σ H ⟨μ, st, hid, fr, S, P⟩ => by
  refine ⟨μ, st, hid, fr, S, ?_⟩
  unfold sSeq at P
  cases h : f fr st with
  | nx fr1 st1 =>
    rw [h] at P
    exact fun μ1 σ1 H1 S1 g1 => ⟨μ1, st1, hid, fr1, S1, SPost.from g1 P⟩
  | rt w s => rw [h] at P; exact P
  | bk fr s => rw [h] at P; exact P
  | ct fr s => rw [h] at P; exact P
  | er e fr s => rw [h] at P; exact P
  | bad => rw [h] at P; exact P
theorem bv_one {s : Stmt} {f : SSem} (h : SV X Wx s f) : BV X Wx [s] f := pss_one h
def sBk : SSem := fun fr st => .bk fr st
def sCt : SSem := fun fr st => .ct fr st
theorem sv_pass {pos : Pos} : SV X Wx (.Pass pos) sNil := PSm ps_pass fun D σ H ⟨μ, st, hid, fr, S, P⟩ => P μ σ H S .refl
theorem sv_break {pos : Pos} : SV X Wx (.Break pos) sBk := PSm ps_break fun D σ H ⟨μ, st, hid, fr, S, P⟩ => P μ σ H S .refl
theorem sv_continue {pos : Pos} : SV X Wx (.Continue pos) sCt := PSm ps_continue fun D σ H ⟨μ, st, hid, fr, S, P⟩ => P μ σ H S .refl
/-- an expression, then what follows -/
theorem stm_read {f : Sem} {k : W → Sto → SOut} {t : VK → VK} {hid μ : List Addr} {st : Sto} {fr : Fr} {σ : L2.St} {H : Hp} {D : Ends} {Q : VK} (S : SI X.K X.mg Wx μ st hid fr σ H) (P : SPost X.K X.mg Wx hid μ st H D ((f fr st).stm fr k))
    (h : ∀ w st1 μ1 H1 v, SI X.K X.mg Wx μ1 st1 hid fr σ H1 → Grow hid μ st H μ1 st1 H1 → Rep X.K X.mg (Fz μ1 st1 hid H1) μ1 w v → SPost X.K X.mg Wx hid μ1 st1 H1 D (k w st1) → Q v H1) : tE X.K X.mg Wx f σ H Q := by
  refine ⟨μ, st, hid, fr, S, ?_⟩
  cases e : f fr st with
  | bad => rw [e] at P; exact P
  | err x s => rw [e] at P; exact fun μ1 H1 c d k1 g1 xr => P μ1 σ H1 c d (S.next k1 g1) g1 xr
  | ok w st1 =>
    rw [e, Out.stm_ok] at P
    exact fun μ1 H1 v k1 g1 r1 => h w st1 μ1 H1 v (S.next k1 g1) g1 r1 (SPost.from g1 P)
def sExp (f : Sem) : SSem := fun fr st => (f fr st).stm fr fun _ st1 => .nx fr st1
theorem sv_expr {e : Expr} {f : Sem} {pos : Pos} (he : EV X Wx e f) (hs : swapsWith e none pos.line X.env = pure false := by rfl) : SV X Wx (.Expr e pos) (sExp f) := PSm (ps_expr he hs) fun D σ H ⟨μ, st, hid, fr, S, P⟩ => by
  exact stm_read (t := id) S P fun w st1 μ1 H1 v S1 g1 r1 P1 => P1 μ1 σ H1 S1 .refl
def sRet (f : Sem) : SSem := fun fr st => (f fr st).stm fr fun w st1 => .rt w st1
theorem sv_ret {e : Expr} {f : Sem} {pos : Pos} (he : EV X Wx e f) : SV X Wx (.Return (some e) pos) (sRet f) := PSm (ps_ret he) fun D σ H ⟨μ, st, hid, fr, S, P⟩ => by
  exact stm_read (t := id) S P fun w st1 μ1 H1 v S1 g1 r1 P1 => P1 μ1 H1 v S1.sto .refl r1
def sRetN : SSem := fun _ st => .rt .non st
theorem sv_retN {pos : Pos} : SV X Wx (.Return none pos) sRetN := PSm ps_retN fun D σ H ⟨μ, st, hid, fr, S, P⟩ => P μ H _ S.sto .refl rep_non
def sAsg (f : Sem) (g : TgF) : SSem := fun fr st => (f fr st).stm fr fun w st1 => match g w fr st1 with
  | some fr1 => .nx fr1 st1
  | none => .bad
theorem asg_read {f : Sem} {g : TgF} {sl : List Nat} : ∀ D σ H, tS X.K X.mg Wx (sAsg f g) D σ H → tAsg (tE X.K X.mg Wx f) (tG X.K X.mg Wx g sl) D σ H := fun D σ H ⟨μ, st, hid, fr, S, P⟩ => by
  refine stm_read (t := id) S P fun w st1 μ1 H1 v S1 g1 r1 P1 => ?_
  split at P1
  · rename_i fr1 e
    exact ⟨μ1, st1, hid, fr, w, fr1, S1, r1, e, fun σ' S' _ => P1 μ1 σ' H1 S' .refl⟩
  · exact P1.elim
theorem sv_asg {tg e : Expr} {f : Sem} {g : TgF} {sl : List Nat} {pos : Pos} (he : EV X Wx e f) (hg : GV X Wx tg g sl) (hs : swapsWithSole [tg] e pos.line X.env = pure false := by rfl) (hw : swappedStores [tg] e X.env = pure none := by rfl)
    (h1 : (assignEach [tg] X.env).map (·.2) = [assign tg X.env] := by rfl) : SV X Wx (.Assign [tg] e pos) (sAsg f g) := PSm (ps_asg he hg hs hw h1) asg_read
/-- name = value -/
theorem sv_set {i : Nat} {x : Str} {e : Expr} {f : Sem} {pos pos' : Pos} (hN : X.N.Nodup) (he : EV X Wx e f) (hi : X.N[i]? = some x := by rfl) (hx : Loc X.env.scope x := by first | exact Or.inl rfl | exact Or.inr rfl) (hs : swapsWith e (some (.Name x pos')) pos.line X.env = pure false := by rfl)
    (hf : X.fn x = true ∨ X.env.scope.names.lookup x = some .local := by first | exact .inl rfl | exact .inr rfl) (hk : i ∉ Wx.lock := by first | exact List.not_mem_nil | decide) : SV X Wx (.Assign [.Name x pos'] e pos) (sAsg f (gNm i)) := PSm (ps_set hN hi hx he hs hf) fun D σ H ⟨μ, st, hid, fr, S, P⟩ => by
  refine stm_read (t := id) S P fun w st1 μ1 H1 v S1 g1 r1 P1 => ?_
  exact P1 μ1 _ H1 (S1.set i hk r1) .refl
/-- name = [..] -/
theorem sv_setLcG {fin : LFin} (hf : FinOk X.K X.mg fin) {i : Nat} {y : Str} {py : Pos} {elt tg iter : Expr} {ifs : List Expr} {scope : Scope} {own : List (Str × Nat)} {pos spos : Pos} {f : SemI} {g : TgF} {sl : List Nat} {t : SemB} {e : Sem} (hc : X.calm = true) (hN : X.N.Nodup) (hi : IV X Wx tg iter f) (ok : blkC X.N X.env.scope scope own = true)
    (hsl : ∀ i ∈ sl, i ∈ own.map (·.2)) (hlk : ∀ i ∈ Wx.lock, i ∉ own.map (·.2))
    (hg : ∀ (s : Shared) (H : Hp) (C : Addr) (cl : List (Str × Addr)) (fp : List Addr), GV (X.blk s H scope (compEnvC scope cl C X.env) fp) Wx.blk tg g sl)
    (ht : ∀ (s : Shared) (H : Hp) (C : Addr) (cl : List (Str × Addr)) (fp : List Addr), PTs (X.blk s H scope (compEnvC scope cl C X.env) fp) ifs (tB' X.K X.mg Wx.blk t))
    (he : ∀ (s : Shared) (H : Hp) (C : Addr) (cl : List (Str × Addr)) (fp : List Addr), EV (X.blk s H scope (compEnvC scope cl C X.env) fp) Wx.blk elt e)
    (hsw : swapsWith (.ListComp elt [⟨tg, iter, ifs, 0⟩] scope pos) (some (.Name y py)) spos.line X.env = pure true) (hy : X.N[i]? = some y := by rfl) (hyl : X.env.scope.names.lookup y = some .local := by rfl) (hs : ∀ x, foldedSetIterable iter X.env x = pure x := by intro _; rfl) (hk : i ∉ Wx.lock := by first | exact List.not_mem_nil | decide) :
    SV X Wx (.Assign [.Name y py] (.ListComp elt [⟨tg, iter, ifs, 0⟩] scope pos) spos) (sAsg (eLcG fin f g (own.map (·.2)) t e) (gNm i)) :=
  PSm (ps_setLc hc hN hy hyl hsw hi (blkOk_by ok) hg ht he hs) fun D σ H ⟨μ, st, hid, fr, S, P⟩ => by
    refine lc_read hf hsl hlk σ H _ (stm_read (t := id) S P fun w st1 μ1 H1 v S1 g1 r1 P1 => ?_)
    exact P1 μ1 _ H1 (S1.set i hk r1) .refl
/-! ## if, for, while -/
def sIf (c : SemB) (f g : SSem) : SSem := fun fr st => (c fr st).stm fr fun b st1 => if b = true then f fr st1 else g fr st1
theorem sv_if {c : Expr} {a b : List Stmt} {fc : SemB} {f g : SSem} {pos : Pos} (hc : TV X Wx c fc) (ha : BV X Wx a f) (hb : BV X Wx b g) : SV X Wx (.If c a b pos) (sIf fc f g) := PSm (ps_if hc ha hb) fun D σ H ⟨μ, st, hid, fr, S, P⟩ => by
  refine ⟨μ, st, hid, fr, S, ?_⟩
  unfold sIf at P
  cases h : fc fr st with
  | bad => rw [h] at P; exact P
  | err x s => rw [h] at P; exact fun μ1 H1 c d k1 g1 xr => P μ1 σ H1 c d (S.next k1 g1) g1 xr
  | ok b st1 =>
    rw [h, Out.stm_ok] at P
    intro μ1 H1 k1 g1
    cases b with
    | true => exact iteT ⟨μ1, st1, hid, fr, S.next k1 g1, SPost.from g1 (by simpa using P)⟩
    | false => exact iteF ⟨μ1, st1, hid, fr, S.next k1 g1, SPost.from g1 (by simpa using P)⟩
open Classical in
noncomputable def forRun (x : W) (all : List W) (g : TgF) (b : SSem) : List W → Fr → Sto → SOut
  | [], fr, st => if srcOk x all st then .nx fr st else .bad
  | w :: r, fr, st => if srcOk x all st then (match g w fr st with
    | some fr1 => match b fr1 st with
      | .nx fr2 st2 => forRun x all g b r fr2 st2
      | .ct fr2 st2 => forRun x all g b r fr2 st2
      | .bk fr2 st2 => .nx fr2 st2
      | .rt u st2 => .rt u st2
      | .er e fr2 st2 => .er e fr2 st2
      | .bad => .bad
    | none => .bad) else .bad
noncomputable def sFor (f : SemI) (g : TgF) (b : SSem) : SSem := fun fr st => (f fr st).stm fr fun p st1 => forRun p.1 p.2 g b p.2 fr st1
theorem for_read {f : SemI} {g : TgF} {sl : List Nat} {b : SSem} : ∀ D σ H, tS X.K X.mg Wx (sFor f g b) D σ H → tFor (tI X.K X.mg Wx f) (tG X.K X.mg Wx g sl) (tS X.K X.mg Wx b) D σ H := fun D σ H ⟨μ, st, hid, fr, S, P⟩ => by
  refine ⟨μ, st, hid, fr, S, ?_⟩
  unfold sFor at P
  cases h1 : f fr st with
  | bad => rw [h1] at P; exact P
  | err x s => rw [h1] at P; exact fun μ1 H1 c d k1 g1 xr => P μ1 σ H1 c d (S.next k1 g1) g1 xr
  | ok p st1 =>
    obtain ⟨x, all⟩ := p
    rw [h1, Out.stm_ok] at P
    intro μ1 H1 J k1 g1 ji
    have P1 := SPost.from g1 P
    simp only at P1
    refine ⟨fun i m σ H => m = all.length - i ∧ i ≤ all.length ∧ ∃ μ st fr, SI X.K X.mg Wx μ st hid fr σ H ∧ Grow hid μ1 st1 H1 μ st H ∧ SPost X.K X.mg Wx hid μ st H D (forRun x all g b (all.drop i) fr st),
      ⟨_, rfl, Nat.zero_le _, μ1, st1, fr, S.next k1 g1, .refl, P1⟩, ?_⟩
    rintro i m σ2 H2 ⟨rfl, hi, μ2, st2, fr2, S2, g2, P2⟩
    by_cases hlt : i < all.length
    · rw [List.drop_eq_getElem_cons hlt, forRun] at P2
      split at P2
      · rename_i hs
        refine .inr ⟨ji.go _ _ _ _ i S2.sto g2.le g2.pre g2.lck hs hlt, fun σ H => ∃ μ st fr, SI X.K X.mg Wx μ st hid fr σ H ∧ Grow hid μ1 st1 H1 μ st H ∧ SPost X.K X.mg Wx hid μ st H D (forRun x all g b (all.drop (i + 1)) fr st),
          fun σ' H' q => ⟨_, by omega, rfl, hlt, q⟩, fun v H3 hy => ?_⟩
        obtain ⟨k3, g3, w, hw, rw_⟩ := ji.yld _ _ _ _ i v H3 S2.sto g2.le g2.pre g2.lck hs hlt hy
        have ew : all[i] = w := by
          rw [List.getElem?_eq_getElem hlt] at hw; exact Option.some.inj hw
        rw [ew] at P2
        cases e3 : g w fr2 st2 with
        | none => rw [e3] at P2; exact P2.elim
        | some fr3 =>
          rw [e3] at P2
          simp only at P2
          have P3 := SPost.from g3 P2
          refine ⟨μ2, st2, hid, fr2, w, fr3, S2.next k3 g3, rw_, e3, fun σ3 S3 _ => ⟨μ2, st2, hid, fr3, S3, ?_⟩⟩
          cases e4 : b fr3 st2 with
          | bad => rw [e4] at P3; exact P3
          | er e fr s => rw [e4] at P3; exact P3
          | rt w s => rw [e4] at P3; exact P3
          | bk fr s => rw [e4] at P3; exact P3
          | nx fr4 st4 => rw [e4] at P3; exact fun μ4 σ4 H4 S4 g4 => ⟨μ4, st4, fr4, S4, (g2.trans g3).trans g4, SPost.from g4 P3⟩
          | ct fr4 st4 => rw [e4] at P3; exact fun μ4 σ4 H4 S4 g4 => ⟨μ4, st4, fr4, S4, (g2.trans g3).trans g4, SPost.from g4 P3⟩
      · exact P2.elim
    · have hi2 : i = all.length := by omega
      subst hi2
      rw [List.drop_length, forRun] at P2
      split at P2
      · rename_i hs
        exact .inl ⟨ji.stop _ _ _ _ _ S2.sto g2.le g2.pre g2.lck hs (Nat.le_refl _), P2 μ2 σ2 H2 S2 .refl⟩
      · exact P2.elim
theorem sv_for {k : Nat} {tg iter : Expr} {body : List Stmt} {f : SemI} {g : TgF} {sl : List Nat} {b : SSem} {pos : Pos} (C : Ctx X Wx k) (hi : IV X Wx tg iter f) (hg : GV X Wx tg g sl) (hb : BV X Wx body b) (hs : ∀ x, foldedSetIterable iter X.env x = pure x := by intro _; rfl) :
    SV X Wx (.For tg iter body [] pos) (sFor f g b) := PSm (ps_for C.hp C.calm hi hg hb hs) for_read
def whRun (c : SemB) (b : SSem) : Nat → Fr → Sto → SOut
  | 0, _, _ => .bad
  | n + 1, fr, st => (c fr st).stm fr fun t st1 => if t = true then (match b fr st1 with
      | .nx fr2 st2 => whRun c b n fr2 st2
      | .ct fr2 st2 => whRun c b n fr2 st2
      | .bk fr2 st2 => .nx fr2 st2
      | .rt u st2 => .rt u st2
      | .er e fr2 st2 => .er e fr2 st2
      | .bad => .bad) else .nx fr st1
def sWhile (n : Nat) (c : SemB) (b : SSem) : SSem := fun fr st => whRun c b n fr st
theorem sv_while {k n : Nat} {c : Expr} {body : List Stmt} {fc : SemB} {b : SSem} {pos : Pos} (C : Ctx X Wx k) (hc : TV X Wx c fc) (hb : BV X Wx body b) : SV X Wx (.While c body [] pos) (sWhile n fc b) := PSm (ps_while C.hp hc hb) fun D σ H ⟨μ, st, hid, fr, S, P⟩ => by
  refine ⟨fun m σ H => ∃ μ st fr, SI X.K X.mg Wx μ st hid fr σ H ∧ SPost X.K X.mg Wx hid μ st H D (whRun fc b m fr st), ⟨n, μ, st, fr, S, P⟩, ?_⟩
  rintro m σ2 H2 ⟨μ2, st2, fr2, S2, P2⟩
  cases m with
  | zero => exact P2.elim
  | succ m =>
    rw [whRun] at P2
    refine ⟨μ2, st2, hid, fr2, S2, ?_⟩
    cases h : fc fr2 st2 with
    | bad => rw [h] at P2; exact P2
    | err x s => rw [h] at P2; exact fun μ1 H1 c d k1 g1 xr => P2 μ1 σ2 H1 c d (S2.next k1 g1) g1 xr
    | ok t st3 =>
      rw [h, Out.stm_ok] at P2
      intro μ3 H3 k3 g3
      have P3 := SPost.from g3 P2
      cases t with
      | false => exact iteF ((by simpa using P3 : SPost X.K X.mg Wx hid μ3 st3 H3 D (.nx fr2 st3)) μ3 σ2 H3 (S2.next k3 g3) .refl)
      | true =>
        simp only [if_true] at P3
        refine iteT ⟨fun σ H => ∃ μ st fr, SI X.K X.mg Wx μ st hid fr σ H ∧ SPost X.K X.mg Wx hid μ st H D (whRun fc b m fr st), fun σ' H' q => ⟨m, Nat.lt_succ_self m, q⟩, μ3, st3, hid, fr2, S2.next k3 g3, ?_⟩
        cases e4 : b fr2 st3 with
        | bad => rw [e4] at P3; exact P3
        | er e fr s => rw [e4] at P3; exact P3
        | rt w s => rw [e4] at P3; exact P3
        | bk fr s => rw [e4] at P3; exact P3
        | nx fr4 st4 => rw [e4] at P3; exact fun μ4 σ4 H4 S4 g4 => ⟨μ4, st4, fr4, S4, SPost.from g4 P3⟩
        | ct fr4 st4 => rw [e4] at P3; exact fun μ4 σ4 H4 S4 g4 => ⟨μ4, st4, fr4, S4, SPost.from g4 P3⟩

/-! ## a[i] = e -/
abbrev Op3 := W → W → W → Sto → Option Sto
def Op3S (X : Cx) (op : Op3) (t : TSet) : Prop := ∀ (hid μ : List Addr) (st st' : Sto) (H : Hp) (Q : Hp → Prop) (o i w : W) (ov iv v : V), StOk X.K X.mg μ st hid H → Rep X.K X.mg (Fz μ st hid H) μ o ov → Rep X.K X.mg (Fz μ st hid H) μ i iv → Rep X.K X.mg (Fz μ st hid H) μ w v →
  op o i w st = some st' → (∀ μ' H', StOk X.K X.mg μ' st' hid H' → Grow hid μ st H μ' st' H' → Q H') → t ov iv v H Q
def sSub (op : Op3) (f fo fi : Sem) : SSem := fun fr st => (f fr st).stm fr fun w st1 => (fo fr st1).stm fr fun o st2 => (fi fr st2).stm fr fun i st3 => match op o i w st3 with
  | some st4 => .nx fr st4
  | none => .bad
theorem sv_sub {o i e : Expr} {op : Op3} {t : TSet} {f fo fi : Sem} {pos tpos : Pos} (hp : PSet X t) (hs : Op3S X op t) (he : EV X Wx e f) (ho : EV X Wx o fo) (hi : EV X Wx i fi)
    (ha : ∀ v, assign (.Subscript o i tpos) X.env v = (do
      let ov ← holding [v] (eval o X.env)
      let iv ← holding [v, ov] (eval i X.env)
      standAt tpos
      holding [v, ov, iv] (setItem ov iv v)
      release [v, ov, iv] []) := by intro _; rfl)
    (hs1 : swapsWithSole [.Subscript o i tpos] e pos.line X.env = pure false := by rfl) (hw : swappedStores [.Subscript o i tpos] e X.env = pure none := by rfl) (h1 : (assignEach [.Subscript o i tpos] X.env).map (·.2) = [assign (.Subscript o i tpos) X.env] := by rfl) :
    SV X Wx (.Assign [.Subscript o i tpos] e pos) (sSub op f fo fi) := PSm (ps_asg he (pg_sub ho hi hp ha) hs1 hw h1) fun D σ H ⟨μ, st, hid, fr, S, P⟩ => by
  refine stm_read (t := id) S P fun w st1 μ1 H1 v S1 g1 r1 P1 => ?_
  refine stm_read (t := id) S1 P1 fun o st2 μ2 H2 ov S2 g2 r2 P2 => ?_
  refine stm_read (t := id) S2 P2 fun i st3 μ3 H3 iv S3 g3 r3 P3 => ?_
  split at P3
  · rename_i st4 e4
    exact hs hid μ3 st3 st4 H3 _ o i w ov iv v S3.sto (Rep.mono g3.le g3.pre _ _ r2) r3 (Rep.mono (g2.trans g3).le (g2.trans g3).pre _ _ r1) e4 fun μ4 H4 k4 g4 => P3 μ4 σ H4 (S3.next k4 g4) g4
  · exact P3.elim
/-- a list's cell -/
def uLst : Op3 := fun o i w st => match o, i with
  | .cell k, .int j => match st[k]? with
    | some (.lst ws) => (ixN ws.length j).map fun n => st.set k (.lst (ws.set n w))
    | _ => none
  | _, _ => none
theorem os_setL : Op3S X uLst rSetL := by
  intro hid μ st st' H Q o i w ov iv v k ro ri rw_ e q
  unfold uLst at e
  split at e
  · rename_i n j
    cases rep_int_inv ri
    split at e
    · rename_i ws e1
      obtain ⟨a, rfl, h1, vs, h2, h3⟩ := k.cell e1 ro
      cases e2 : ixN ws.length j with
      | none => rw [e2] at e; cases e
      | some m =>
        rw [e2] at e
        cases e
        refine ⟨a, vs, j, m, rfl, rfl, h2, by rw [← h3.length]; exact e2, ?_⟩
        obtain ⟨k2, g2⟩ := k.setCell (c' := .lst (ws.set m w)) (o := .lst (vs.set m v)) h1 e1 rfl rfl ⟨_, upd_same, h3.set m rw_⟩
        exact q _ _ k2 g2
    · cases e
  · cases e

/-! ## methods of lists -/
abbrev OpM := W → List W → Sto → Out W
def OpMS (X : Cx) (op : OpM) (r : V → List V → Hp → VK → Prop) : Prop := ∀ (Wx : WX) (hid μ : List Addr) (st : Sto) (σ : L2.St) (H : Hp) (Q : VK) (w : W) (ws : List W) (x : V) (vs : List V), StOk X.K X.mg μ st hid H → Rep X.K X.mg (Fz μ st hid H) μ w x → Reps X.K X.mg (Fz μ st hid H) μ ws vs →
  EPost X.K X.mg Wx hid μ st σ H Q (op w ws st) → r x vs H Q
/-- what a method's receiver must be -/
def isLst (st : Sto) (w : W) : Bool := (lstW st w).isSome
def eM (ty : Sto → W → Bool) (op : OpM) (f : Sem) (g : SemL) : Sem := fun fr st => (f fr st).bind fun w st1 => if ty st1 w = true then (g fr st1).bind fun ws st2 => op w ws st2 else .bad
theorem eM_read {T : String} {ty : Sto → W → Bool} {op : OpM} {r : V → List V → Hp → VK → Prop} {f : Sem} {g : SemL} (ht : ∀ (hid μ : List Addr) (st : Sto) (H : Hp) (w : W) (v : V), StOk X.K X.mg μ st hid H → Rep X.K X.mg (Fz μ st hid H) μ w v → ty st w = true → tyV X.K T v H) (hs : OpMS X op r) :
    ∀ σ H Q, tE X.K X.mg Wx (eM ty op f g) σ H Q → tBM X.K T r (tE X.K X.mg Wx f) (tA X.K X.mg Wx g) σ H Q := fun σ H Q ⟨μ, st, hid, fr, S, P⟩ => by
  refine ⟨μ, st, hid, fr, S, ?_⟩
  unfold eM at P
  cases h : f fr st with
  | bad => rw [h] at P; exact P
  | err x s => rw [h] at P; exact P
  | ok w st1 =>
    rw [h, Out.bind_ok] at P
    intro μ1 H1 v k1 g1 r1
    have P1 := EPost.from g1 P
    split at P1
    · rename_i hty
      refine ⟨ht hid μ1 st1 H1 w v k1 r1 hty, μ1, st1, hid, fr, S.next k1 g1, ?_⟩
      cases h2 : g fr st1 with
      | bad => rw [h2] at P1; exact P1
      | err x s => rw [h2] at P1; exact P1
      | ok ws st2 =>
        rw [h2, Out.bind_ok] at P1
        intro μ2 H2 vs k2 g2 r2
        exact hs Wx.w hid μ2 st2 σ H2 Q w ws v vs k2 (Rep.mono g2.le g2.pre _ _ r1) r2 (EPost.from g2 P1)
    · exact P1.elim
theorem ty_lst : ∀ (hid μ : List Addr) (st : Sto) (H : Hp) (w : W) (v : V), StOk X.K X.mg μ st hid H → Rep X.K X.mg (Fz μ st hid H) μ w v → isLst st w = true → tyV X.K "list" v H := fun hid μ st H w v k r h => by
  unfold isLst at h
  cases e : lstW st w with
  | none => rw [e] at h; cases h
  | some ws =>
    obtain ⟨a, vs, rfl, h1, _⟩ := lstW_at k e r
    exact .inl ⟨rfl, vs, h1⟩
def mAppend : OpM := fun x ws st => match x, ws with
  | .cell k, [w] => match st[k]? with
    | some (.lst us) => if us.length < LINE then .ok .non (st.set k (.lst (us ++ [w]))) else .bad
    | _ => .bad
  | _, _ => .bad
theorem os_append : OpMS X mAppend rAppend := by
  intro Wx hid μ st σ H Q w ws x vs k rx rs P
  unfold mAppend at P
  split at P
  · obtain ⟨v, rfl, r1⟩ := reps1 (ws := []) rs
    split at P
    · rename_i us e1
      split at P
      · rename_i hz
        obtain ⟨a, rfl, h1, zs, h2, h3⟩ := k.cell e1 rx
        refine ⟨a, zs, v, rfl, rfl, h2, by rw [← h3.length, sizeLine_eq]; exact hz, ?_⟩
        obtain ⟨k2, g2⟩ := k.setCell (c' := .lst (us ++ [_])) (o := .lst (zs ++ [v])) h1 e1 rfl rfl ⟨_, upd_same, h3.append (.cons r1 .nil)⟩
        exact P μ _ _ k2 g2 rep_non
      · exact P.elim
    · exact P.elim
  · exact P.elim
def mInsert : OpM := fun x ws st => match x, ws with
  | .cell k, [.int i, w] => match st[k]? with
    | some (.lst us) => if us.length < LINE ∧ 0 ≤ i ∧ i < 2 ^ 63 then .ok .non (st.set k (.lst (us.take i.toNat ++ [w] ++ us.drop i.toNat))) else .bad
    | _ => .bad
  | _, _ => .bad
theorem os_insert : OpMS X mInsert (fun x vs H Q => ∃ (l : Addr) (xs : List V) (i : Int) (y : V), x = .ref l ∧ vs = [.int i, y] ∧ H l = some (.lst xs) ∧ xs.length < sizeLine ∧ 0 ≤ i ∧ i < 2 ^ 63 ∧ Q .non (upd H l (.lst (xs.take i.toNat ++ [y] ++ xs.drop i.toNat)))) := by
  intro Wx hid μ st σ H Q w ws x vs k rx rs P
  unfold mInsert at P
  split at P
  · obtain ⟨v, y, rfl, r0, r1⟩ := reps2 rs
    cases rep_int_inv r0
    split at P
    · rename_i us e1
      split at P
      · rename_i hz
        obtain ⟨a, rfl, h1, zs, h2, h3⟩ := k.cell e1 rx
        refine ⟨a, zs, _, y, rfl, rfl, h2, by rw [← h3.length, sizeLine_eq]; exact hz.1, hz.2.1, hz.2.2, ?_⟩
        obtain ⟨k2, g2⟩ := k.setCell (c' := .lst (us.take _ ++ [_] ++ us.drop _)) (o := .lst (zs.take _ ++ [y] ++ zs.drop _)) h1 e1 rfl rfl ⟨_, upd_same, ((h3.take _).append (.cons r1 .nil)).append (h3.drop _)⟩
        exact P μ _ _ k2 g2 rep_non
      · exact P.elim
    · exact P.elim
  · exact P.elim
/-- a display that is to change: a new cell -/
def oCell : OpN := fun ws st => if small ws = true then .ok (.cell st.length) (st ++ [.lst ws]) else .bad
theorem ev_lstC {es : List Expr} {f : SemL} {pos : Pos} (h : AV X Wx es f) : EV X Wx (.List es pos) (eN oCell f) := PEm (pe_lst h) fun σ H Q P => by
  refine eN_read (r := fun vs H1 Q => vs.length ≤ sizeLine ∧ ∀ p, H1 p = none → Q (.ref p) (upd H1 p (.lst vs))) ?_ σ H Q P
  intro Wx hid μ st σ H Q ws vs k r P
  unfold oCell at P
  split at P
  · rename_i hs
    refine ⟨small_line hs r, fun p hp => ?_⟩
    obtain ⟨k2, g2⟩ := k.newCell (c := .lst ws) (o := .lst vs) hp rfl ⟨vs, upd_same, r.mono (.refl _) ⟨[p], rfl⟩⟩
    refine P _ _ _ k2 g2 ?_
    unfold Rep
    exact ⟨p, by rw [← k.len]; simp, rfl⟩
  · exact P.elim
end
end SL

namespace SL
open PySem PySem.Spec PyProof.Rows L2

/-! ## several except clauses, with and without a name -/
abbrev Hnd := Value × Option Nat × (Addr → Value → Option Addr → TS)
def clr (sl : Option Nat) (D : Ends) : Ends := match sl with
  | none => D
  | some i => { nx := fun σ H => D.nx (σ.set i none) H, rt := D.rt, bk := fun σ H => D.bk (σ.set i none) H, ct := fun σ H => D.ct (σ.set i none) H }
def stoE (sl : Option Nat) (σ : L2.St) (a : Addr) : L2.St := match sl with
  | none => σ
  | some i => σ.set i (some (.ref a))
def wGen (K : PySem.W.Frag) (Wo : WX) (D : Ends) : List Hnd → WX
  | [] => Wo
  | (c, sl, ts) :: r => fun cls d σ H => ∃ b, PySem.W.exmOne K cls c = some b ∧ (b = true → ∀ a, H a = none → ts a cls d (clr sl D) (stoE sl σ a) H) ∧ (b = false → wGen K Wo D r cls d σ H)
def SuiteOk (X : Cx) (ss : List Stmt) (ts : Addr → Value → Option Addr → TS) : Prop := ∀ (a : Addr) (ob : Obj) (cls : Value) (d : Option Addr) (pl : List (Addr × Obj)), Zc cls d ob → (∃ vs, ob.data = .fields vs) → PSs (X.suite a ((a, ob) :: pl)) ss (ts a cls d)
inductive HdsG (X : Cx) : List ExceptHandler → List Hnd → Prop
  | nil : HdsG X [] []
  | one {x : Str} {c : Value} {ts : Addr → Value → Option Addr → TS} {s0 : Stmt} {ss : List Stmt} {p1 p2 : Pos} {hs : List ExceptHandler} {l : List Hnd} (hc : Names X x c) (hu : SuiteOk X (s0 :: ss) ts) (r : HdsG X hs l) :
      HdsG X (.ExceptHandler (some (.Name x p1)) none (s0 :: ss) p2 :: hs) ((c, none, ts) :: l)
  | as {x n : Str} {i : Nat} {c : Value} {ts : Addr → Value → Option Addr → TS} {s0 : Stmt} {ss : List Stmt} {p1 p2 : Pos} {hs : List ExceptHandler} {l : List Hnd} (hc : Names X x c) (hi : X.N[i]? = some n) (hl : X.env.kindOf n = some .local) (hu : SuiteOk X (s0 :: ss) ts) (r : HdsG X hs l) :
      HdsG X (.ExceptHandler (some (.Name x p1)) (some n) (s0 :: ss) p2 :: hs) ((c, some i, ts) :: l)
section
variable {X : Cx}
theorem ps_tryG {body : List Stmt} {g0 : ExceptHandler} {gs : List ExceptHandler} {l : List Hnd} {pos : Pos} {tb : WX → TS} {Wo : WX} (hN : X.N.Nodup) (hst : X.stack = X.env :: X.outer) (hfm : X.env.frame = some X.env.locals) (tk : Takes X Wo)
    (hb : ∀ (W : WX) (pl : List (Addr × Obj)) (xe : Value → Shared → Prop), Takes (X.tr pl xe) W → PassesOwn (model X.prog X.w) X.A X.env xe → PSs (X.tr pl xe) body (tb W))
    (hh : HdsG X (g0 :: gs) l) : PS X (.Try body (g0 :: gs) [] [] pos) (fun D σ H => tb (wGen X.K Wo D l) D σ H) := by
  refine ⟨fun pins s σ H D I0 hw => ?_⟩
  have ok := I0.ok
  have hfr : X.A.frames = some (X.env :: X.outer) := by rw [← hst]; exact ok.frames
  refine wpAny_Try_except (wpAny_mono ((hb (wGen X.K Wo D l) (X.pn ++ pins) _ (fun u s' hx => ?_) PassesOwn.looking).run [] s σ H D (I0.toTry _) hw) (fun f s1 hf => ?_) fun _ _ z => z)
  · obtain ⟨a, B, sI, pq, σ1, H1, cls, d, rfl, J0, nb, up, sky, na, os, ag, wi⟩ := hx
    have J1 : Inv X pins σ1 H1 sI := J0.ofTry ok
    have sky1 : Sky B (X.env :: X.outer) a (Zc cls d) X.env.locals s'.heap := by rw [← hst]; exact sky
    refine Sky.land Zc.steady hfr hfm sky1 fun h3 fl up3 => ?_
    have J3 : Inv X pins σ1 H1 { s' with heap := h3 } := J1.landed nb fl.1 (up.trans up3) os ag
    obtain ⟨ob, vs, hob, hz, hdt⟩ := fl.there
    have nfr : a ∉ frs (X.env :: X.outer) := fun hm => by
      obtain ⟨_, ob', e', hnf⟩ := fl.2.2.1.mem hm
      rw [hob] at e'; cases e'
      exact hnf _ hdt
    have nL : a ≠ X.env.locals := fun z => nfr (List.mem_filterMap.mpr ⟨X.env, List.mem_cons_self, by rw [hfm, z]⟩)
    have nF : a ∉ X.fs := fun hm => by
      obtain ⟨e, he, q⟩ := List.mem_filterMap.mp hm
      exact nfr (List.mem_filterMap.mpr ⟨e, List.mem_cons_of_mem _ he, q⟩)
    have S3 := J3.suite hob hdt na nL nF
    -- the class's test
    have tst : ∀ {x : Str} {c : Value} {p : Pos} {Q : Value → Shared → Prop} {E : Value → Shared → Prop}, Names X x c → Q c { s' with heap := h3 } → wpAny (model X.prog X.w) (X.A.mark (some (.ref a))) (eval (.Name x p) X.env) Q E { s' with heap := h3 } := fun {x c p Q E} hc q => by
      obtain ⟨hg, hdb, hm | ⟨hm, hv, hnn⟩⟩ := hc
      · exact ld_glob (X := X.suite a ((a, ob) :: (X.pn ++ pins))) S3 hg hm q hdb
      · exact ld_blt (X := X.suite a ((a, ob) :: (X.pn ++ pins))) S3 hg hm hv q hnn hdb
    have lty : PySem.W.Looks (model X.prog X.w) h3 (typeOf (.ref a)) cls := fun A Q E s k q => wpAny_typeOf_ref (k _ _ hob) (by rw [hz.1]; exact q)
    -- the suite lands
    have lnd : ∀ {Q : Unit → Shared → Prop} {E : Value → Shared → Prop}, (∀ h4 ob4, Inv X pins σ1 H1 { s' with heap := h4 } → Zc cls d ob4 → (∃ vs, ob4.data = .fields vs) → Inv (X.suite a ((a, ob4) :: (X.pn ++ pins))) [] σ1 H1 { s' with heap := h4 } → Q () { s' with heap := h4 }) → wpAny (model X.prog X.w) (X.A.mark (some (.ref a))) (setFlight (.ref a) none) Q E { s' with heap := h3 } := fun {Q E} q => by
      refine HandSPX.lands_againZ fl fun h4 fl4 up4 => ?_
      have J4 : Inv X pins σ1 H1 { s' with heap := h4 } := J1.landed nb fl4.1 ((up.trans up3).trans up4) os ag
      obtain ⟨ob4, vs4, hob4, hz4, hdt4⟩ := fl4.there
      exact q h4 ob4 J4 hz4 ⟨_, hdt4⟩ (J4.suite hob4 hdt4 na nL nF)
    suffices go : ∀ {hs : List ExceptHandler} {l2 : List Hnd}, HdsG X hs l2 → wGen X.K Wo D l2 cls d σ1 H1 → wpAny (model X.prog X.w) X.A (handleBy (.ref a) X.env hs) (SP X pins D) X.xe { s' with heap := h3 } from go hh wi
    intro hs l2 hk
    induction hk with
    | nil =>
      intro wo
      refine wpAny_handleBy_nil ?_
      obtain ⟨_, _, _, ob2, us, T, _, _, e2, _, dt2, q1, _⟩ := id fl
      unfold PySem.passOn
      refine wpAny_bind (wpAny_field e2 dt2 q1 ?_)
      rw [if_neg (show ¬ ((Value.ref T == Value.none) = true) from by simp)]
      have fin : wpAny (model X.prog X.w) X.A (setFlight (.ref a) X.env.frame) (fun _ s4 => wpAny (model X.prog X.w) X.A (throw (Value.ref a) : PySem.Sem Flow) (SP X pins D) X.xe s4) X.xe { s' with heap := h3 } := by
        rw [hfm]
        exact HandSPX.setFlight_upZ fl fun h4 hd4 up4 => wpAny_throw (tk _ _ ⟨a, B, sI, pins, σ1, H1, cls, d, rfl, J1, nb, (up.trans up3).trans up4, .inr (.inr (by rw [hst]; exact hd4)), na, os, ag, wo⟩)
      first
        | exact wpAny_bind (wpAny_pure (wpAny_bind fin))
        | exact wpAny_bind fin
    | one hc hu r ih =>
      rintro ⟨b, hb1, yes, no⟩
      refine wpAny_handleBy_cons (codeAny_handlers_test ?_) (by intro q; cases q)
      refine tst hc ((PySem.W.exm_one (M := model X.prog X.w) J3.kIn lty hb1).here ?_)
      cases b with
      | false => exact ih (no rfl)
      | true =>
        refine codeAny_handlers_suite (lnd fun h4 ob4 J4 z4 d4 S4 => ?_)
        refine wpAny_mono ((hu a ob4 cls d (X.pn ++ pins) z4 d4).run [] _ _ H1 _ S4 (yes rfl a na)) (fun f s6 hf => ?_) (fun _ _ z => False.elim z)
        cases f with
        | next => obtain ⟨_, _, S6, q⟩ := hf; exact ⟨_, _, S6.unsuite ok, q⟩
        | brk => obtain ⟨_, _, S6, q⟩ := hf; exact ⟨_, _, S6.unsuite ok, q⟩
        | cont => obtain ⟨_, _, S6, q⟩ := hf; exact ⟨_, _, S6.unsuite ok, q⟩
        | ret u => obtain ⟨_, _, _, S6, rr, q⟩ := hf; exact ⟨_, _, _, S6.unsuite ok, rr, q⟩
    | @as x n i c ts s0 ss p1 p2 hs l2 hc hi hl hu r ih =>
      rintro ⟨b, hb1, yes, no⟩
      refine wpAny_handleBy_cons (codeAny_handlers_test ?_) (by intro q; cases q)
      refine tst hc ((PySem.W.exm_one (M := model X.prog X.w) J3.kIn lty hb1).here ?_)
      cases b with
      | false => exact ih (no rfl)
      | true =>
        refine codeAny_handlers_suite_as (lnd fun h4 ob4 J4 z4 d4 S4 => ?_)
        refine store_ok (X := X.suite a ((a, ob4) :: (X.pn ++ pins))) (v := .ref a) S4 hN hi (.inl hl) rfl (fun s5 S5 => ?_) (.inr hl)
        refine wpAny_mono ((hu a ob4 cls d (X.pn ++ pins) z4 d4).run [] s5 _ H1 _ S5 (yes rfl a na)) (fun f s6 hf => ?_) (fun _ _ z => False.elim z)
        have gone : ∀ {σ6 : L2.St} {H6 : Hp} {Q : Shared → Prop}, Inv (X.suite a ((a, ob4) :: (X.pn ++ pins))) [] σ6 H6 s6 → (∀ s7, Inv X pins (σ6.set i none) H6 s7 → Q s7) →
            wpAny (model X.prog X.w) X.A (do bindName X.env n .none; unbindBehindTheSuite X.env n p2) (fun _ s7 => Q s7) X.xe s6 := fun S6 hq => gone_ok (S6.unsuite ok) hN hi hl hq
        cases f with
        | next => obtain ⟨_, _, S6, q⟩ := hf; exact gone S6 fun _ J7 => ⟨_, _, J7, q⟩
        | brk => obtain ⟨_, _, S6, q⟩ := hf; exact gone S6 fun _ J7 => ⟨_, _, J7, q⟩
        | cont => obtain ⟨_, _, S6, q⟩ := hf; exact gone S6 fun _ J7 => ⟨_, _, J7, q⟩
        | ret u => obtain ⟨_, _, _, S6, rr, q⟩ := hf; exact gone S6 fun _ J7 => ⟨_, _, _, J7, rr, q⟩
  · cases f with
    | next => obtain ⟨_, _, J2, q⟩ := hf; exact wpAny_execs_nil ⟨_, _, J2.ofTry ok, q⟩
    | brk => obtain ⟨_, _, J2, q⟩ := hf; exact ⟨_, _, J2.ofTry ok, q⟩
    | cont => obtain ⟨_, _, J2, q⟩ := hf; exact ⟨_, _, J2.ofTry ok, q⟩
    | ret u => obtain ⟨_, _, _, J2, rr, q⟩ := hf; exact ⟨_, _, _, J2.ofTry ok, rr, q⟩
end
end SL

namespace SL
open PySem PySem.Spec PyProof.Rows L2

/-! ## own exceptions with one field -/
/-- what __init__ promises: the one field is laid -/
def spI1 (C : Addr) (fld : Str) : Sp := fun vs H Q _ => ∃ a y, vs = [.ref a, y] ∧ H a = some (exo a C none) ∧ ∀ dx, H dx = none → dx ≠ a → Q .non (upd (upd H dx (exd dx [(fld, y)])) a (exo a C (some dx)))
structure Exc1 (P : Program) (w : World) (K : PySem.W.Frag) (mg : Str → Option Value) (base : Heap) (c fld : Str) : Prop where
  ex : ∃ (C fI : Addr) (fd : FuncData) (x : Str), OexC K C ∧ PySem.W.findIn K (.ref C) "__init__" = some (some (.ref fI)) ∧ PySem.W.typeIn K (.ref fI) = some (.type "function") ∧ FnOk P w K mg base (L2.CX P w) 1 fI fd ["self", x] (spI1 C fld) ∧ Binds K fd ["self", x] [] ∧ mg c = some (.ref C)
theorem init1 {P : Program} {w : World} {K : PySem.W.Frag} {mg : Str → Option Value} {base : Heap} {qual : Str} {st : Stmt} {f C : Addr} {fd : FuncData} {x fld : Str} {p1 p2 p3 p4 : Pos} (F : Fun K "__init__" qual st f fd) (S : FnScope ["self", x] ["self", x] (defScope st))
    (hb : defBody st = [.Assign [.Attribute (.Name "self" p1) fld p2] (.Name x p3) p4]) (T : OexC K C) (hno : PySem.W.findIn K (.ref C) fld = some none) (hd : (x == ("__debug__" : Str)) = false) (hcd : (x == ("__classdict__" : Str)) = false) : FnOk P w K mg base (L2.CX P w) 1 f fd ["self", x] (spI1 C fld) := by
  refine F.okX (k := 0) S (fun vs H Q E h => ?_) (fun cdv A outer s H vs Q E hr h => ?_)
  · obtain ⟨a, y, rfl, _⟩ := h; rfl
  · rw [hb]
    have vis : ∀ z ∈ (["self", x] : List Str), Vis (defScope st) z := fun z hz => by
      rcases S.par z hz with q | q
      · exact .inl q
      · exact .inr (.inl q)
    refine ⟨_, pss_one (ps_ost (pe_var (i := 0) rfl (vis "self" (by simp))) (pe_var (i := 1) rfl (vis x (by simp)) hd hcd)), ?_⟩
    obtain ⟨a, y, rfl, h1, h2⟩ := h
    exact ⟨y, rfl, .ref a, rfl, a, C, rfl, T, hno, .inl ⟨h1, fun dx n ne => h2 dx n ne⟩⟩
theorem del_eq {H : Hp} {a d : Addr} {o o1 o2 o3 : HO} (ha : H a = none) (hd : d ≠ a) : upd (del (upd (upd (upd H a o) d o1) a o2) a) d o3 = upd H d o3 := by
  funext b
  by_cases e : b = d
  · subst e; rw [upd_same, upd_same]
  · rw [upd_ne e, upd_ne e]
    by_cases z : b = a
    · subst z; rw [del_same, ha]
    · rw [del_ne z, upd_ne z, upd_ne e, upd_ne z]
/-- raise C(e, ..): the error's fields are the arguments -/
def sRaise (c : Str) (ns : List Str) (f : SemL) : SSem := fun fr st => (f fr st).stm fr fun ws st1 => if ws.length = ns.length then .er ⟨c, ns, ws⟩ fr st1 else .bad
section
variable {X : Cx} {Wx : Wish}
theorem sv_raise1 {k : Nat} {c fld : Str} {f : SemL} {e : Expr} {es : List Expr} {p p2 pos : Pos} (C : Ctx X Wx k) (hk : 2 ≤ k) (E : Exc1 X.prog X.w X.K X.mg X.base c fld) (ha : AV X Wx (e :: es) f) (hg : Gl X c := by rfl) (hdb : (c == ("__debug__" : Str)) = false := by decide)
    (he : starEach (e :: es) X.env = (false, eval e X.env) :: starEach es X.env := by rfl) (hpl : (backTo p2 (starEach es X.env)).any (·.1) = false := by rfl) :
    SV X Wx (.Raise (some (.Call (.Name c p) (e :: es) [] p2)) none pos) (sRaise c [fld] f) := by
  obtain ⟨A, fI, fd, x, T, h1, h2, F, B, hm⟩ := E.ex
  refine PSm (ps_raise C.calm C.tk (pmk_oex (CX := L2.CX X.prog X.w) (k := 1) T h1 h2 F (C.room.mono hk) B .nil (fun pins σ H s u s' I z => ?_) hg hm ha hdb he hpl)) fun D σ H ⟨μ, st, hid, fr, S, P⟩ => ?_
  · obtain ⟨_, _, _, _, _, _, _, _, _, _, _, _, z⟩ := z
    exact z.elim
  · refine ⟨μ, st, hid, fr, S, ?_⟩
    unfold sRaise at P
    cases e1 : f fr st with
    | bad => rw [e1] at P; exact P
    | err x s => rw [e1] at P; exact fun μ1 H1 c d k1 g1 xr => P μ1 σ H1 c d (S.next k1 g1) g1 xr
    | ok ws st1 =>
      rw [e1, Out.stm_ok] at P
      intro μ1 H1 vs k1 g1 r1
      have P1 := SPost.from g1 P
      split at P1
      · rename_i hl
        have hv : vs.length = 1 := by rw [← r1.length]; exact hl
        obtain ⟨y, rfl⟩ : ∃ y, vs = [y] := by
          match vs, hv with
          | [y], _ => exact ⟨y, rfl⟩
        refine ⟨by simp, fun a na => ⟨a, y, rfl, upd_same, fun dx nd ne => ⟨rfl, dx, [(fld, y)], upd_same, by rw [upd_ne ne, upd_same], ?_, ?_⟩⟩⟩
        · rw [upd_ne ne] at nd; exact nd
        · rw [upd_ne ne] at nd
          rw [del_eq na ne]
          obtain ⟨k2, g2, e2⟩ := k1.laid (o := .xd [(fld, y)]) nd
          exact P1 μ1 σ _ _ _ ((S.next k1 g1).next k2 g2) g2 ⟨A, hm, rfl, .inr ⟨dx, [y], rfl, rfl, e2, r1.mono g2.le (.refl _)⟩⟩
      · exact P1.elim

/-! ## try -/
def clrF (sl : Option Nat) (fr : Fr) : Fr := match sl with
  | none => fr
  | some i => fr.set i none
structure HndS where
  cn : Str
  sl : Option Nat
  h : Exc → SSem
def SOut.clr (sl : Option Nat) : SOut → SOut
  | .nx fr st => .nx (clrF sl fr) st
  | .bk fr st => .bk (clrF sl fr) st
  | .ct fr st => .ct (clrF sl fr) st
  | .rt w st => .rt w st
  | .er _ _ _ => .bad
  | .bad => .bad
/-- which class stands under which -/
abbrev ExT := Str → Str → Option Bool
def slOk (sl : Option Nat) (fr : Fr) : Bool := match sl with
  | none => true
  | some i => decide (i < fr.length)
def hRun (T : ExT) (x : Exc) : List HndS → Fr → Sto → SOut
  | [], fr, st => .er x fr st
  | hd :: r, fr, st => match T x.c hd.cn with
    | some true => if slOk hd.sl fr = true then (hd.h x (clrF hd.sl fr) st).clr hd.sl else .bad
    | some false => hRun T x r fr st
    | none => .bad
def sTry (T : ExT) (b : SSem) (hs : List HndS) : SSem := fun fr st => match b fr st with
  | .er x fr1 st1 => hRun T x hs fr1 st1
  | o => o
theorem XRep.mono {K : PySem.W.Frag} {mg : Str → Option Value} {F F' : Hp} {μ μ' : List Addr} {x : Exc} {c : Value} {d : Option Addr} (l : Le F F') (p : Pre μ μ') (h : XRep K mg F μ x c d) : XRep K mg F' μ' x c d := by
  obtain ⟨C, h1, h2, h3⟩ := h
  refine ⟨C, h1, h2, ?_⟩
  rcases h3 with h3 | ⟨dx, vs, h3, h4, h5, h6⟩
  · exact .inl h3
  · exact .inr ⟨dx, vs, h3, h4, l.xd h5, h6.mono l p⟩
def Wish.suite (Wx : Wish) (K : PySem.W.Frag) (mg : Str → Option Value) (sl : Option Nat) (x : Exc) (a : Addr) (cls : Value) (d : Option Addr) : Wish where
  w := fun _ _ _ _ => False
  lock := sl.toList ++ Wx.lock
  y := fun σ F μ => Wx.y σ F μ ∧ XRep K mg F μ x cls d ∧ ∀ i, sl = some i → σ[i]? = some (some (.ref a))
  mono := fun σ F F' μ μ' l p h => ⟨Wx.mono _ _ _ _ _ l p h.1, h.2.1.mono l p, h.2.2⟩
  slot := fun σ σ' F μ e h => ⟨Wx.slot _ _ _ _ (fun i hi => e i (List.mem_append_right _ hi)) h.1, h.2.1, fun i hi => by
    rw [e i (List.mem_append_left _ (by rw [hi]; simp))]; exact h.2.2 i hi⟩
/-- what a wish within a try's body is -/
def Wish.tr (Wx : Wish) (W : WX) : Wish := ⟨W, Wx.lock, Wx.y, Wx.mono, Wx.slot⟩
theorem SI.tr {K : PySem.W.Frag} {mg : Str → Option Value} {μ : List Addr} {st : Sto} {hid : List Addr} {fr : Fr} {σ : L2.St} {H : Hp} (W : WX) (s : SI K mg Wx μ st hid fr σ H) : SI K mg (Wx.tr W) μ st hid fr σ H := ⟨s.sto, s.len, s.loc, s.ex⟩
theorem SI.ofTr {K : PySem.W.Frag} {mg : Str → Option Value} {μ : List Addr} {st : Sto} {hid : List Addr} {fr : Fr} {σ : L2.St} {H : Hp} {W : WX} (s : SI K mg (Wx.tr W) μ st hid fr σ H) : SI K mg Wx μ st hid fr σ H := ⟨s.sto, s.len, s.loc, s.ex⟩
def tsOf (K : PySem.W.Frag) (mg : Str → Option Value) (Wx : Wish) (sl : Option Nat) (h : Exc → SSem) : Addr → Value → Option Addr → TS := fun a cls d D σ H => ∃ x, tS K mg (Wx.suite K mg sl x a cls d) (h x) D σ H
/-- a suite by its meaning -/
def SuV (X : Cx) (Wx : Wish) (sl : Option Nat) (ss : List Stmt) (h : Exc → SSem) : Prop := ∀ (a : Addr) (ob : Obj) (cls : Value) (d : Option Addr) (pl : List (Addr × Obj)) (x : Exc), Zc cls d ob → (∃ vs, ob.data = .fields vs) → BV (X.suite a ((a, ob) :: pl)) (Wx.suite X.K X.mg sl x a cls d) ss (h x)
theorem SuV.ok {sl : Option Nat} {ss : List Stmt} {h : Exc → SSem} (u : SuV X Wx sl ss h) : SuiteOk X ss (tsOf X.K X.mg Wx sl h) := fun a ob cls d pl hz hf =>
  ⟨fun pins s σ H D I ⟨x, q⟩ => (u a ob cls d pl x hz hf).run pins s σ H D I q⟩
/-- the clauses by their meaning -/
inductive HV (X : Cx) (Wx : Wish) : List ExceptHandler → List HndS → List Hnd → Prop
  | nil : HV X Wx [] [] []
  | one {x : Str} {C : Addr} {h : Exc → SSem} {s0 : Stmt} {ss : List Stmt} {p1 p2 : Pos} {hs : List ExceptHandler} {l : List HndS} {m : List Hnd} (hg : Gl X x) (hd : (x == ("__debug__" : Str)) = false) (hm : X.mg x = some (.ref C)) (hu : SuV X Wx none (s0 :: ss) h) (r : HV X Wx hs l m) :
      HV X Wx (.ExceptHandler (some (.Name x p1)) none (s0 :: ss) p2 :: hs) (⟨x, none, h⟩ :: l) ((.ref C, none, tsOf X.K X.mg Wx none h) :: m)
  | as {x n : Str} {i : Nat} {C : Addr} {h : Exc → SSem} {s0 : Stmt} {ss : List Stmt} {p1 p2 : Pos} {hs : List ExceptHandler} {l : List HndS} {m : List Hnd} (hg : Gl X x) (hd : (x == ("__debug__" : Str)) = false) (hm : X.mg x = some (.ref C)) (hi : X.N[i]? = some n) (hl : X.env.kindOf n = some .local) (hk : i ∉ Wx.lock) (hu : SuV X Wx (some i) (s0 :: ss) h) (r : HV X Wx hs l m) :
      HV X Wx (.ExceptHandler (some (.Name x p1)) (some n) (s0 :: ss) p2 :: hs) (⟨x, some i, h⟩ :: l) ((.ref C, some i, tsOf X.K X.mg Wx (some i) h) :: m)
theorem HV.ok {hs : List ExceptHandler} {l : List HndS} {m : List Hnd} (v : HV X Wx hs l m) : HdsG X hs m := by
  induction v with
  | nil => exact .nil
  | one hg hd hm hu r ih => exact .one ⟨hg, hd, .inl hm⟩ hu.ok ih
  | as hg hd hm hi hl hk hu r ih => exact .as ⟨hg, hd, .inl hm⟩ hi hl hu.ok ih
/-- the table of classes says what is so -/
def ExTOk (K : PySem.W.Frag) (mg : Str → Option Value) (T : ExT) : Prop := ∀ c c' b, T c c' = some b → ∀ C C', mg c = some (.ref C) → mg c' = some (.ref C') → PySem.W.exmOne K (.ref C) (.ref C') = some b
theorem SI.clr {K : PySem.W.Frag} {mg : Str → Option Value} {μ : List Addr} {st : Sto} {hid : List Addr} {fr : Fr} {σ : L2.St} {H : Hp} {sl : Option Nat} {x : Exc} {a : Addr} {cls : Value} {d : Option Addr} (s : SI K mg (Wx.suite K mg sl x a cls d) μ st hid fr σ H) (hk : ∀ i, sl = some i → i ∉ Wx.lock) :
    SI K mg Wx μ st hid (clrF sl fr) (match sl with | none => σ | some i => σ.set i none) H := by
  cases sl with
  | none => exact ⟨s.sto, s.len, s.loc, s.ex.1⟩
  | some i =>
    refine ⟨s.sto, by simpa [clrF] using s.len, fun j w h => ?_, Wx.slot _ _ _ _ (fun j hj => List.getElem?_set_ne fun (z : i = j) => hk i rfl (z ▸ hj)) s.ex.1⟩
    have h' : (fr.set i none)[j]? = some (some w) := h
    by_cases e : i = j
    · subst e
      by_cases q : i < fr.length
      · rw [List.getElem?_set_self q] at h'; cases h'
      · rw [List.getElem?_eq_none (by simpa using q)] at h'; cases h'
    · rw [List.getElem?_set_ne e] at h'
      obtain ⟨v, e1, e2⟩ := s.loc j w h'
      exact ⟨v, by show (σ.set i none)[j]? = _; rw [List.getElem?_set_ne e]; exact e1, e2⟩
theorem hRun_at {T : ExT} (hT : ExTOk X.K X.mg T) {D : Ends} : ∀ {hs : List ExceptHandler} {l : List HndS} {m : List Hnd}, HV X Wx hs l m → ∀ {hid μ : List Addr} {st : Sto} {fr : Fr} {σ : L2.St} {H : Hp} {x : Exc} {cls : Value} {d : Option Addr}, SI X.K X.mg Wx μ st hid fr σ H → XRep X.K X.mg (Fz μ st hid H) μ x cls d →
    SPost X.K X.mg Wx hid μ st H D (hRun T x l fr st) → wGen X.K Wx.w D m cls d σ H := by
  intro hs l m v
  -- one clause: its suite at the cleared frame
  have key : ∀ {sl : Option Nat} {h : Exc → SSem} {hid μ : List Addr} {st : Sto} {fr : Fr} {σ : L2.St} {H : Hp} {x : Exc} {cls : Value} {d : Option Addr}, (∀ i, sl = some i → i ∉ Wx.lock ∧ i < fr.length) → SI X.K X.mg Wx μ st hid fr σ H → XRep X.K X.mg (Fz μ st hid H) μ x cls d →
      SPost X.K X.mg Wx hid μ st H D ((h x (clrF sl fr) st).clr sl) → ∀ a, tsOf X.K X.mg Wx sl h a cls d (clr sl D) (stoE sl σ a) H := by
    intro sl h hid μ st fr σ H x cls d hk S xr P a
    refine ⟨x, μ, st, hid, clrF sl fr, ?_, ?_⟩
    · cases sl with
      | none => exact ⟨S.sto, S.len, S.loc, S.ex, xr, fun i z => nomatch z⟩
      | some i =>
        obtain ⟨hk1, hk2⟩ := hk i rfl
        refine ⟨S.sto, by simpa [clrF, stoE] using S.len, fun j w h' => ?_, Wx.slot _ _ _ _ (fun j hj => List.getElem?_set_ne fun (z : i = j) => hk1 (z ▸ hj)) S.ex, xr, fun j z => ?_⟩
        · have h'' : (fr.set i none)[j]? = some (some w) := h'
          by_cases e : i = j
          · subst e
            rw [List.getElem?_set_self hk2] at h''; cases h''
          · rw [List.getElem?_set_ne e] at h''
            obtain ⟨v, e1, e2⟩ := S.loc j w h''
            exact ⟨v, by show (σ.set i _)[j]? = _; rw [List.getElem?_set_ne e]; exact e1, e2⟩
        · cases z
          exact List.getElem?_set_self (by rw [← S.len]; exact hk2)
    · have hkl : ∀ i, sl = some i → i ∉ Wx.lock := fun i z => (hk i z).1
      have nxt : ∀ {μ' : List Addr} {st' : Sto} {fr' : Fr} {σ' : L2.St} {H' : Hp} {R : L2.St → Hp → Prop}, SI X.K X.mg (Wx.suite X.K X.mg sl x a cls d) μ' st' hid fr' σ' H' → (∀ σ2, SI X.K X.mg Wx μ' st' hid (clrF sl fr') σ2 H' → R σ2 H') →
          (match sl with | none => R σ' H' | some i => R (σ'.set i none) H') := fun {μ' st' fr' σ' H' R} s q => by
        have s2 := s.clr hkl
        cases sl with
        | none => exact q _ s2
        | some i => exact q _ s2
      cases e : h x (clrF sl fr) st with
      | bad => rw [e] at P; exact P
      | er z f s => rw [e] at P; exact P.elim
      | rt w s =>
        rw [e] at P
        have P' : ∀ μ' H' v, StOk X.K X.mg μ' s hid H' → Grow hid μ st H μ' s H' → Rep X.K X.mg (Fz μ' s hid H') μ' w v → D.rt v H' := P
        intro μ' H' v k g r
        cases sl with
        | none => exact P' μ' H' v k g r
        | some i => exact P' μ' H' v k g r
      | nx f s =>
        rw [e] at P
        have P' : ∀ μ' σ' H', SI X.K X.mg Wx μ' s hid (clrF sl f) σ' H' → Grow hid μ st H μ' s H' → D.nx σ' H' := P
        intro μ' σ' H' S' g
        have q := nxt (R := D.nx) S' fun σ2 s2 => P' μ' σ2 H' s2 g
        cases sl with
        | none => exact q
        | some i => exact q
      | bk f s =>
        rw [e] at P
        have P' : ∀ μ' σ' H', SI X.K X.mg Wx μ' s hid (clrF sl f) σ' H' → Grow hid μ st H μ' s H' → D.bk σ' H' := P
        intro μ' σ' H' S' g
        have q := nxt (R := D.bk) S' fun σ2 s2 => P' μ' σ2 H' s2 g
        cases sl with
        | none => exact q
        | some i => exact q
      | ct f s =>
        rw [e] at P
        have P' : ∀ μ' σ' H', SI X.K X.mg Wx μ' s hid (clrF sl f) σ' H' → Grow hid μ st H μ' s H' → D.ct σ' H' := P
        intro μ' σ' H' S' g
        have q := nxt (R := D.ct) S' fun σ2 s2 => P' μ' σ2 H' s2 g
        cases sl with
        | none => exact q
        | some i => exact q
  induction v with
  | nil =>
    intro hid μ st fr σ H x cls d S xr P
    exact P μ σ H cls d S .refl xr
  | @one n C h s0 ss p1 p2 hs l m hg hd hm hu r ih =>
    intro hid μ st fr σ H x cls d S xr P
    obtain ⟨C', h1, rfl, h3⟩ := id xr
    rw [hRun] at P
    simp only at P
    split at P
    · rename_i e
      split at P
      · exact ⟨true, hT _ _ _ e _ _ h1 hm, fun _ a na => key (sl := none) (fun i z => nomatch z) S xr P a, fun z => (nomatch z)⟩
      · exact P.elim
    · rename_i e
      exact ⟨false, hT _ _ _ e _ _ h1 hm, fun z => (nomatch z), fun _ => ih S xr P⟩
    · exact P.elim
  | @as n nn i C h s0 ss p1 p2 hs l m hg hd hm hi hl hk hu r ih =>
    intro hid μ st fr σ H x cls d S xr P
    obtain ⟨C', h1, rfl, h3⟩ := id xr
    rw [hRun] at P
    simp only at P
    split at P
    · rename_i e
      split at P
      · rename_i hs
        refine ⟨true, hT _ _ _ e _ _ h1 hm, fun _ a na => key (sl := some i) (fun j z => ?_) S xr P a, fun z => (nomatch z)⟩
        cases z
        exact ⟨hk, of_decide_eq_true hs⟩
      · exact P.elim
    · rename_i e
      exact ⟨false, hT _ _ _ e _ _ h1 hm, fun z => (nomatch z), fun _ => ih S xr P⟩
    · exact P.elim
theorem sv_try {k : Nat} {T : ExT} {body : List Stmt} {g0 : ExceptHandler} {gs : List ExceptHandler} {b : SSem} {l : List HndS} {m : List Hnd} {pos : Pos} (C : Ctx X Wx k) (hT : ExTOk X.K X.mg T) (hst : X.stack = X.env :: X.outer) (hfm : X.env.frame = some X.env.locals)
    (hb : ∀ (W : WX) (pl : List (Addr × Obj)) (xe : Value → Shared → Prop), Ctx (X.tr pl xe) (Wx.tr W) k → BV (X.tr pl xe) (Wx.tr W) body b) (hh : HV X Wx (g0 :: gs) l m) : SV X Wx (.Try body (g0 :: gs) [] [] pos) (sTry T b l) :=
  PSm (ps_tryG (tb := fun W => tS X.K X.mg (Wx.tr W) b) C.nd hst hfm C.tk (fun W pl xe tk hp => hb W pl xe ⟨C.calm, C.nd, C.room, tk, hp⟩) hh.ok) fun D σ H ⟨μ, st, hid, fr, S, P⟩ => by
    refine ⟨μ, st, hid, fr, S.tr _, ?_⟩
    unfold sTry at P
    cases e : b fr st with
    | bad => rw [e] at P; exact P
    | rt w s => rw [e] at P; exact P
    | nx f s => rw [e] at P; exact fun μ' σ' H' S' g => P μ' σ' H' S'.ofTr g
    | bk f s => rw [e] at P; exact fun μ' σ' H' S' g => P μ' σ' H' S'.ofTr g
    | ct f s => rw [e] at P; exact fun μ' σ' H' S' g => P μ' σ' H' S'.ofTr g
    | er x f s =>
      rw [e] at P
      intro μ' σ' H' c d S' g xr
      exact hRun_at hT hh S'.ofTr xr (SPost.from g P)
/-! ## a field of a caught error -/
def lkp : List Str → List W → Str → Option W
  | n :: ns, w :: ws, f => if f == n then some w else lkp ns ws f
  | _, _, _ => none
theorem lkp_at {K : PySem.W.Frag} {mg : Str → Option Value} {F : Hp} {μ : List Addr} {f : Str} {w : W} : ∀ {ns : List Str} {ws : List W} {vs : List V}, lkp ns ws f = some w → Reps K mg F μ ws vs → ∃ v, (ns.zip vs).lookup f = some v ∧ Rep K mg F μ w v
  | [], _, _, h, _ => by unfold lkp at h; cases h
  | _ :: _, [], _, h, _ => by unfold lkp at h; cases h
  | n :: ns, u :: ws, vs, h, r => by
    unfold lkp at h
    obtain ⟨v, t, rfl, h1, h2⟩ := r.cons_inv
    rw [List.zip_cons_cons, List.lookup_cons]
    cases e : f == n with
    | true => rw [e] at h; cases h; exact ⟨v, rfl, h1⟩
    | false => rw [e] at h; exact lkp_at h h2
def eXf (x : Exc) (c n : Str) : Sem := fun _ st => if x.c = c then (match lkp x.ns x.vs n with
  | some w => .ok w st
  | none => .bad) else .bad
theorem ev_xf {a : Addr} {oe : Obj} {cls : Value} {d : Option Addr} {pn : List (Addr × Obj)} {C : Addr} {x : Exc} {c nm n : Str} {i : Nat} {p pos : Pos} (T : XfC X.K C) (hm : X.mg c = some (.ref C)) (hno : PySem.W.findIn X.K (.ref C) n = some none) (hz : Zc cls d oe) (hf : ∃ vs, oe.data = .fields vs)
    (hN : X.N[i]? = some nm) (hv : Vis X.env.scope nm) (hd : (nm == ("__debug__" : Str)) = false := by decide) (hcd : (nm == ("__classdict__" : Str)) = false := by decide) (hb : attributeBase (.Name nm p) n X.env (eval (.Name nm p) X.env) = eval (.Name nm p) X.env := by rfl) :
    EV (X.suite a ((a, oe) :: pn)) (Wx.suite X.K X.mg (some i) x a cls d) (.Attribute (.Name nm p) n pos) (eXf x c n) :=
  PEm (pe_xf T hno hz hf (pe_var (X := X.suite a ((a, oe) :: pn)) (i := i) hN hv hd hcd) hb) fun σ H Q ⟨μ, st, hid, fr, S, P⟩ => by
    obtain ⟨_, ⟨C', h1, h2, h3⟩, h4⟩ := S.ex
    refine ⟨.ref a, h4 i rfl, rfl, ?_⟩
    unfold eXf at P
    split at P
    · rename_i e
      have h1' : X.mg c = some (.ref C') := by rw [← e]; exact h1
      rw [hm] at h1'
      cases h1'
      refine ⟨h2, ?_⟩
      split at P
      · rename_i w ew
        rcases h3 with h3 | ⟨dx, vs, h3, h4, h5, h6⟩
        · rw [h3] at ew
          cases ew
        · obtain ⟨v, h7, h8⟩ := lkp_at ew h6
          exact ⟨dx, _, v, h3, (Fz.sub h5).1, h7, P μ H v S.sto .refl h8⟩
      · exact P.elim
    · exact P.elim
end
end SL

namespace SL
open PySem PySem.Spec PyProof.Rows L2

/-! ## a def's end: its own cells are let go -/
mutual
def fz0 (n : Nat) (f : Nat → Option W) : W → Option W
  | .tup ws => (fz0s n f ws).map .tup
  | .lst ws => (fz0s n f ws).map .lst
  | .ro ws => (fz0s n f ws).map .ro
  | .tpn ws => (fz0s n f ws).map .tpn
  | .dct ks ws => (fz0s n f ws).map (.dct ks)
  | .ins c ns ws => (fz0s n f ws).map (.ins c ns)
  | .cell k => if k < n then some (.cell k) else f k
  | .non => some .non
  | .bl b => some (.bl b)
  | .int i => some (.int i)
  | .str x => some (.str x)
  | .ty x => some (.ty x)
  | .cls x => some (.cls x)
def fz0s (n : Nat) (f : Nat → Option W) : List W → Option (List W)
  | [] => some []
  | w :: r => match fz0 n f w, fz0s n f r with
    | some a, some b => some (a :: b)
    | _, _ => none
end
def fzc (n : Nat) (st : Sto) : Nat → Nat → Option W
  | 0, _ => none
  | m + 1, k => match st[k]? with
    | some (.lst ws) => (fz0s n (fzc n st m) ws).map .lst
    | some (.dct ks ws) => (fz0s n (fzc n st m) ws).map (.dct ks)
    | some (.ins c ns ws) => (fz0s n (fzc n st m) ws).map (.ins c ns)
    | some (.frz w) => fz0 n (fzc n st m) w
    | none => none
/-- the old cells know no new ones -/
def oldW (n : Nat) (c : Cel) : Bool := match c with
  | .lst ws => (fz0s n (fun _ => none) ws).isSome
  | .dct _ ws => (fz0s n (fun _ => none) ws).isSome
  | .ins _ _ ws => (fz0s n (fun _ => none) ws).isSome
  | .frz w => (fz0 n (fun _ => none) w).isSome
def leave (n : Nat) (w : W) (st : Sto) : Out W := if st.length = n then .ok w st else match fz0 n (fzc n st (st.length + 1)) w with
  | some u => if (st.take n).all (oldW n) = true then .ok u (st.take n) else .bad
  | none => .bad
def leaveX (n : Nat) (x : Exc) (st : Sto) : Out W := if st.length = n then .err x st else match fz0s n (fzc n st (st.length + 1)) x.vs with
  | some us => if (st.take n).all (oldW n) = true then .err ⟨x.c, x.ns, us⟩ (st.take n) else .bad
  | none => .bad
/-- .. but the one cell that it hands back, which goes on to live -/
def leaveC (n : Nat) (w : W) (st : Sto) : Out W := match w with
  | .cell j => if n ≤ j then (match st[j]? with
    | some c => if c.live = true ∧ oldW n c = true ∧ (st.take n).all (oldW n) = true then .ok (.cell n) (st.take n ++ [c]) else .bad
    | none => .bad) else .bad
  | _ => .bad
def mkFnG (lv : Nat → W → Sto → Out W) (m : Nat) (b : SSem) : Fn := fun ws st => match b (ws.map some ++ List.replicate (m - ws.length) none) st with
  | .nx _ st1 => leave st.length .non st1
  | .rt w st1 => lv st.length w st1
  | .er x _ st1 => leaveX st.length x st1
  | _ => .bad
def mkFn (m : Nat) (b : SSem) : Fn := mkFnG leave m b
def mkFnC (m : Nat) (b : SSem) : Fn := mkFnG leaveC m b
/-- .. or all goes on to live -/
def leaveA (n : Nat) (w : W) (st : Sto) : Out W := .ok w st
def mkFnA (m : Nat) (b : SSem) : Fn := mkFnG leaveA m b
section
variable {K : PySem.W.Frag} {mg : Str → Option Value} {F F' : Hp} {μ μ' : List Addr} {n : Nat} {f : Nat → Option W}
mutual
theorem fz0_at (l : Le F F') (hc : ∀ k, k < n → ∀ v, Rep K mg F μ (.cell k) v → Rep K mg F' μ' (.cell k) v) (hf : ∀ k, n ≤ k → ∀ u v, f k = some u → Rep K mg F μ (.cell k) v → Rep K mg F' μ' u v) : ∀ (w u : W) (v : V), fz0 n f w = some u → Rep K mg F μ w v → Rep K mg F' μ' u v
  | .non, u, v, h, r => by unfold fz0 at h; cases h; cases rep_non_inv r; exact rep_non
  | .bl b, u, v, h, r => by unfold fz0 at h; cases h; cases rep_bl_inv r; exact rep_bl
  | .int b, u, v, h, r => by unfold fz0 at h; cases h; cases rep_int_inv r; exact rep_int
  | .str b, u, v, h, r => by unfold fz0 at h; cases h; cases rep_str_inv r; exact rep_str
  | .ty b, u, v, h, r => by unfold fz0 at h; cases h; unfold Rep at r ⊢; exact r
  | .cls b, u, v, h, r => by unfold fz0 at h; cases h; unfold Rep at r ⊢; exact r
  | .tup ws, u, v, h, r => by
    unfold fz0 at h
    cases e : fz0s n f ws with
    | none => rw [e] at h; cases h
    | some us =>
      rw [e] at h; cases h
      unfold Rep at r ⊢
      obtain ⟨a, vs, rfl, h1, h2⟩ := r
      exact ⟨a, vs, rfl, h1.le l, fz0s_at l hc hf ws us vs e h2⟩
  | .lst ws, u, v, h, r => by
    unfold fz0 at h
    cases e : fz0s n f ws with
    | none => rw [e] at h; cases h
    | some us =>
      rw [e] at h; cases h
      unfold Rep at r ⊢
      obtain ⟨a, vs, rfl, h1, h2⟩ := r
      exact ⟨a, vs, rfl, l.lst h1, fz0s_at l hc hf ws us vs e h2⟩
  | .tpn ws, u, v, h, r => by
    unfold fz0 at h
    cases e : fz0s n f ws with
    | none => rw [e] at h; cases h
    | some us =>
      rw [e] at h; cases h
      unfold Rep at r ⊢
      obtain ⟨a, vs, rfl, h1, h2⟩ := r
      exact ⟨a, vs, rfl, h1.le l, fz0s_at l hc hf ws us vs e h2⟩
  | .ro ws, u, v, h, r => by
    unfold fz0 at h
    cases e : fz0s n f ws with
    | none => rw [e] at h; cases h
    | some us =>
      rw [e] at h; cases h
      unfold Rep at r ⊢
      obtain ⟨a, vs, rfl, h1, h2⟩ := r
      exact ⟨a, vs, rfl, SqL.le l h1, fz0s_at l hc hf ws us vs e h2⟩
  | .dct ks ws, u, v, h, r => by
    unfold fz0 at h
    cases e : fz0s n f ws with
    | none => rw [e] at h; cases h
    | some us =>
      rw [e] at h; cases h
      unfold Rep at r ⊢
      obtain ⟨a, vs, rfl, h1, h2⟩ := r
      exact ⟨a, vs, rfl, h1.le l, fz0s_at l hc hf ws us vs e h2⟩
  | .ins c ns ws, u, v, h, r => by
    unfold fz0 at h
    cases e : fz0s n f ws with
    | none => rw [e] at h; cases h
    | some us =>
      rw [e] at h; cases h
      unfold Rep at r ⊢
      obtain ⟨a, C, dx, vs, rfl, g, ll, h1, h2⟩ := r
      exact ⟨a, C, dx, vs, rfl, g, ll, l.ins h1, fz0s_at l hc hf ws us vs e h2⟩
  | .cell k, u, v, h, r => by
    unfold fz0 at h
    split at h
    · rename_i hk
      cases h
      exact hc k hk v r
    · rename_i hk
      exact hf k (Nat.le_of_not_lt hk) u v h r
theorem fz0s_at (l : Le F F') (hc : ∀ k, k < n → ∀ v, Rep K mg F μ (.cell k) v → Rep K mg F' μ' (.cell k) v) (hf : ∀ k, n ≤ k → ∀ u v, f k = some u → Rep K mg F μ (.cell k) v → Rep K mg F' μ' u v) : ∀ (ws us : List W) (vs : List V), fz0s n f ws = some us → Reps K mg F μ ws vs → Reps K mg F' μ' us vs
  | [], us, vs, h, r => by
    unfold fz0s at h; cases h
    rw [Reps.nil_iff] at r; subst r; exact .nil
  | w :: ws, us, vs, h, r => by
    unfold fz0s at h
    obtain ⟨v, t, rfl, h1, h2⟩ := r.cons_inv
    cases e1 : fz0 n f w with
    | none => rw [e1] at h; cases h
    | some a =>
      cases e2 : fz0s n f ws with
      | none => rw [e1, e2] at h; cases h
      | some b =>
        rw [e1, e2] at h; cases h
        exact .cons (fz0_at l hc hf w a v e1 h1) (fz0s_at l hc hf ws b t e2 h2)
end
end
mutual
/-- with nothing for new cells a value stays what it is -/
theorem fz0_id {n : Nat} : ∀ (w u : W), fz0 n (fun _ => none) w = some u → u = w
  | .non, u, h => by unfold fz0 at h; cases h; rfl
  | .bl b, u, h => by unfold fz0 at h; cases h; rfl
  | .int b, u, h => by unfold fz0 at h; cases h; rfl
  | .str b, u, h => by unfold fz0 at h; cases h; rfl
  | .ty b, u, h => by unfold fz0 at h; cases h; rfl
  | .cls b, u, h => by unfold fz0 at h; cases h; rfl
  | .tup ws, u, h => by
    unfold fz0 at h
    cases e : fz0s n (fun _ => none) ws with
    | none => rw [e] at h; cases h
    | some us => rw [e] at h; cases h; rw [fz0s_id ws us e]
  | .lst ws, u, h => by
    unfold fz0 at h
    cases e : fz0s n (fun _ => none) ws with
    | none => rw [e] at h; cases h
    | some us => rw [e] at h; cases h; rw [fz0s_id ws us e]
  | .tpn ws, u, h => by
    unfold fz0 at h
    cases e : fz0s n (fun _ => none) ws with
    | none => rw [e] at h; cases h
    | some us => rw [e] at h; cases h; rw [fz0s_id ws us e]
  | .ro ws, u, h => by
    unfold fz0 at h
    cases e : fz0s n (fun _ => none) ws with
    | none => rw [e] at h; cases h
    | some us => rw [e] at h; cases h; rw [fz0s_id ws us e]
  | .dct ks ws, u, h => by
    unfold fz0 at h
    cases e : fz0s n (fun _ => none) ws with
    | none => rw [e] at h; cases h
    | some us => rw [e] at h; cases h; rw [fz0s_id ws us e]
  | .ins c ns ws, u, h => by
    unfold fz0 at h
    cases e : fz0s n (fun _ => none) ws with
    | none => rw [e] at h; cases h
    | some us => rw [e] at h; cases h; rw [fz0s_id ws us e]
  | .cell k, u, h => by
    unfold fz0 at h
    split at h
    · cases h; rfl
    · cases h
theorem fz0s_id {n : Nat} : ∀ (ws us : List W), fz0s n (fun _ => none) ws = some us → us = ws
  | [], us, h => by unfold fz0s at h; cases h; rfl
  | w :: ws, us, h => by
    unfold fz0s at h
    cases e1 : fz0 n (fun _ => none) w with
    | none => rw [e1] at h; cases h
    | some a =>
      cases e2 : fz0s n (fun _ => none) ws with
      | none => rw [e1, e2] at h; cases h
      | some b => rw [e1, e2] at h; cases h; rw [fz0_id w a e1, fz0s_id ws b e2]
end
section
variable {K : PySem.W.Frag} {mg : Str → Option Value} {μ : List Addr} {st : Sto} {hid : List Addr} {H : Hp} {n : Nat}
theorem take_get {α : Type} {l : List α} {n k : Nat} {a : α} (h : (l.take n)[k]? = some a) : k < n ∧ l[k]? = some a := by
  rw [List.getElem?_take] at h
  split at h
  · exact ⟨by assumption, h⟩
  · cases h
theorem live_take {a : Addr} (h : LiveA (μ.take n) (st.take n) hid a) : LiveA μ st hid a := by
  rcases h with h | ⟨k, c, h1, h2, h3⟩
  · exact .inl h
  · exact .inr ⟨k, c, (take_get h1).2, (take_get h2).2, h3⟩
theorem fz_take (μ : List Addr) (st : Sto) (hid : List Addr) (H : Hp) (n : Nat) : Le (Fz μ st hid H) (Fz (μ.take n) (st.take n) hid H) := Le.of fun a o h => by
  obtain ⟨h1, h2⟩ := Fz.sub h
  exact Fz.mk h1 fun z => h2 (live_take z)
theorem cell_take {F F' : Hp} : ∀ k, k < n → ∀ v, Rep K mg F μ (.cell k) v → Rep K mg F' (μ.take n) (.cell k) v := fun k hk v r => by
  unfold Rep at r ⊢
  obtain ⟨a, h1, h2⟩ := r
  exact ⟨a, by rw [List.getElem?_take, if_pos hk]; exact h1, h2⟩
/-- the cells from n on are let go -/
theorem StOk.take (k : StOk K mg μ st hid H) (hn : n ≤ st.length) (ho : (st.take n).all (oldW n) = true) : StOk K mg (μ.take n) (st.take n) hid H := by
  refine ⟨by rw [List.length_take, List.length_take, k.len], fun i j a c d h1 h2 h3 h4 h5 h6 => k.inj i j a c d (take_get h1).2 (take_get h2).2 (take_get h3).2 (take_get h4).2 h5 h6, fun i a c h1 h2 h3 => k.hidn i a c (take_get h1).2 (take_get h2).2 h3, k.hidt, fun i a c h1 h2 => ?_⟩
  have q := k.ok i a c (take_get h1).2 (take_get h2).2
  have l := fz_take μ st hid H n
  have old : oldW n c = true := List.all_eq_true.mp ho c (List.mem_of_getElem? h2)
  have go : ∀ {ws : List W} {vs : List V}, (fz0s n (fun _ => none) ws).isSome = true → Reps K mg (Fz μ st hid H) μ ws vs → Reps K mg (Fz (μ.take n) (st.take n) hid H) (μ.take n) ws vs := fun {ws vs} hs r => by
    cases e : fz0s n (fun _ => none) ws with
    | none => rw [e] at hs; cases hs
    | some us =>
      have z := fz0s_id ws us e
      subst z
      exact fz0s_at l cell_take (fun _ _ _ _ z => by cases z) _ _ _ e r
  cases c with
  | lst ws => obtain ⟨vs, e, r⟩ := q; exact ⟨vs, e, go old r⟩
  | dct ks ws => obtain ⟨vs, e, r⟩ := q; exact ⟨vs, e, go old r⟩
  | ins c ns ws => obtain ⟨C, dx, vs, g, l', e, r⟩ := q; exact ⟨C, dx, vs, g, l', e, go old r⟩
  | frz w =>
    have old' : (fz0 n (fun _ => none) w).isSome = true := old
    cases e : fz0 n (fun _ => none) w with
    | none => rw [e] at old'; cases old'
    | some u =>
      have z := fz0_id w u e
      subst z
      exact fz0_at l cell_take (fun _ _ _ _ z => by cases z) _ _ _ e q
theorem fzc_at (k : StOk K mg μ st hid H) : ∀ (m j : Nat) (u : W) (v : V), n ≤ j → fzc n st m j = some u → Rep K mg (Fz μ st hid H) μ (.cell j) v → Rep K mg (Fz (μ.take n) (st.take n) hid H) (μ.take n) u v := by
  have l := fz_take μ st hid H n
  intro m
  induction m with
  | zero => intro j u v hj h r; cases h
  | succ m ih =>
    intro j u v hj h r
    obtain ⟨a, e1, rfl⟩ := rep_cell_inv r
    have seen : ∀ {c : Cel} {o : HO}, st[j]? = some c → c.live = true → H a = some o → Fz (μ.take n) (st.take n) hid H a = some o := fun {c o} e2 lc e3 => Fz.mk e3 fun z => by
      rcases z with z | ⟨i, d, h1, h2, h3⟩
      · exact k.hidn j a c e1 e2 lc z
      · have q := k.inj i j a d c (take_get h1).2 e1 (take_get h2).2 e2 h3 lc
        have := (take_get h1).1
        omega
    have go : ∀ {ws us : List W} {vs : List V}, fz0s n (fzc n st m) ws = some us → Reps K mg (Fz μ st hid H) μ ws vs → Reps K mg (Fz (μ.take n) (st.take n) hid H) (μ.take n) us vs := fun e r => fz0s_at l cell_take (fun i hi u v e r => ih i u v hi e r) _ _ _ e r
    unfold fzc at h
    split at h
    · rename_i ws e2
      cases e : fz0s n (fzc n st m) ws with
      | none => rw [e] at h; cases h
      | some us =>
        rw [e] at h; cases h
        obtain ⟨vs, h1, h2⟩ := k.ok j a _ e1 e2
        unfold Rep
        exact ⟨a, vs, rfl, seen e2 rfl h1, go e h2⟩
    · rename_i ks ws e2
      cases e : fz0s n (fzc n st m) ws with
      | none => rw [e] at h; cases h
      | some us =>
        rw [e] at h; cases h
        obtain ⟨vs, h1, h2⟩ := k.ok j a _ e1 e2
        obtain ⟨o, h3⟩ := h1.some
        unfold Rep
        exact ⟨a, vs, rfl, h1.at ((seen e2 rfl h3).trans h3.symm), go e h2⟩
    · rename_i c ns ws e2
      cases e : fz0s n (fzc n st m) ws with
      | none => rw [e] at h; cases h
      | some us =>
        rw [e] at h; cases h
        obtain ⟨C, dx, vs, g, ll, h1, h2⟩ := k.ok j a _ e1 e2
        unfold Rep
        exact ⟨a, C, dx, vs, rfl, g, ll, seen e2 rfl h1, go e h2⟩
    · rename_i w e2
      have q := k.ok j a _ e1 e2
      exact fz0_at l cell_take (fun i hi u v e r => ih i u v hi e r) w u _ h q
    · cases h
theorem leave_at {Wx : WX} {μ0 : List Addr} {st0 : Sto} {H0 : Hp} {σ : L2.St} {Q : VK} {w : W} {v : V} (hn : μ0.length = n) (g : Grow hid μ0 st0 H0 μ st H) (k : StOk K mg μ st hid H) (r : Rep K mg (Fz μ st hid H) μ w v) (P : EPost K mg Wx hid μ0 st0 σ H0 Q (leave n w st)) : Q v H := by
  unfold leave at P
  split at P
  · exact P μ H v k g r
  · split at P
    · rename_i u e
      split at P
      · rename_i ho
        obtain ⟨e2, he⟩ := id g.pre
        have hle : n ≤ st.length := by rw [← k.len, he, List.length_append, hn]; omega
        have ht : μ.take n = μ0 := by rw [he, ← hn]; simp
        have l := fz_take μ st hid H n
        refine P (μ.take n) H v (k.take hle ho) ⟨by rw [ht]; exact .refl _, g.le.trans l, g.hid, g.lck⟩ (fz0_at l cell_take (fun i hi u v e r => fzc_at k _ i u v hi e r) w u v e r)
      · exact P.elim
    · exact P.elim
theorem leaveX_at {Wx : WX} {μ0 : List Addr} {st0 : Sto} {H0 : Hp} {σ : L2.St} {Q : VK} {x : Exc} {c : Value} {d : Option Addr} (hn : μ0.length = n) (g : Grow hid μ0 st0 H0 μ st H) (k : StOk K mg μ st hid H) (r : XRep K mg (Fz μ st hid H) μ x c d) (P : EPost K mg Wx hid μ0 st0 σ H0 Q (leaveX n x st)) : Wx c d σ H := by
  unfold leaveX at P
  split at P
  · exact P μ H c d k g r
  · split at P
    · rename_i us e
      split at P
      · rename_i ho
        obtain ⟨e2, he⟩ := id g.pre
        have hle : n ≤ st.length := by rw [← k.len, he, List.length_append, hn]; omega
        have ht : μ.take n = μ0 := by rw [he, ← hn]; simp
        have l := fz_take μ st hid H n
        refine P (μ.take n) H c d (k.take hle ho) ⟨by rw [ht]; exact .refl _, g.le.trans l, g.hid, g.lck⟩ ?_
        obtain ⟨C, h1, h2, h3⟩ := r
        refine ⟨C, h1, h2, ?_⟩
        rcases h3 with h3 | ⟨dx, vs, h3, h4, h5, h6⟩
        · exact .inl h3
        · exact .inr ⟨dx, vs, h3, h4, l.xd h5, fz0s_at l cell_take (fun i hi u v e r => fzc_at k _ i u v hi e r) _ _ _ e h6⟩
      · exact P.elim
    · exact P.elim
end

/-- a way to leave is sound -/
def LvOk (K : PySem.W.Frag) (mg : Str → Option Value) (lv : Nat → W → Sto → Out W) : Prop := ∀ (n : Nat) (hid μ0 μ : List Addr) (st0 st : Sto) (H0 H : Hp) (Wx : WX) (σ : L2.St) (Q : VK) (w : W) (v : V), μ0.length = n → Grow hid μ0 st0 H0 μ st H → StOk K mg μ st hid H → Rep K mg (Fz μ st hid H) μ w v → EPost K mg Wx hid μ0 st0 σ H0 Q (lv n w st) → Q v H
theorem lv_leave {K : PySem.W.Frag} {mg : Str → Option Value} : LvOk K mg leave := fun n hid μ0 μ st0 st H0 H Wx σ Q w v hn g k r P => leave_at hn g k r P
theorem lv_leaveA {K : PySem.W.Frag} {mg : Str → Option Value} : LvOk K mg leaveA := fun n hid μ0 μ st0 st H0 H Wx σ Q w v hn g k r P => P μ H v k g r
theorem lv_leaveC {K : PySem.W.Frag} {mg : Str → Option Value} : LvOk K mg leaveC := fun n hid μ0 μ st0 st H0 H Wx σ Q w v hn g k r P => by
  unfold leaveC at P
  split at P
  · rename_i j
    split at P
    · rename_i hj
      split at P
      · rename_i c e
        split at P
        · rename_i hc
          obtain ⟨lc, oc, ho⟩ := hc
          obtain ⟨e2, he⟩ := id g.pre
          have hle : n ≤ st.length := by rw [← k.len, he, List.length_append, hn]; omega
          have ht : μ.take n = μ0 := by rw [he, ← hn]; simp
          obtain ⟨a, e1, rfl⟩ := rep_cell_inv r
          have k1 := k.take hle ho
          have l := fz_take μ st hid H n
          have na : ¬ LiveA (μ.take n) (st.take n) hid a := fun z => by
            rcases z with z | ⟨i, d, h1, h2, h3⟩
            · exact k.hidn j a c e1 e lc z
            · have q := k.inj i j a d c (take_get h1).2 e1 (take_get h2).2 e h3 lc
              have := (take_get h1).1
              omega
          have lt : (μ.take n).length = n := by rw [ht]; exact hn
          have ls : (st.take n).length = n := by rw [List.length_take]; omega
          have spl : ∀ {m : Nat} {b : Addr} {d : Cel}, (μ.take n ++ [a])[m]? = some b → (st.take n ++ [c])[m]? = some d → (m < n ∧ μ[m]? = some b ∧ st[m]? = some d ∧ (μ.take n)[m]? = some b ∧ (st.take n)[m]? = some d) ∨ (m = n ∧ b = a ∧ d = c) := fun {m b d} h1 h2 => by
            by_cases z : m < n
            · rw [List.getElem?_append_left (by omega)] at h1 h2
              exact .inl ⟨z, (take_get h1).2, (take_get h2).2, h1, h2⟩
            · by_cases y : m = n
              · subst y
                rw [List.getElem?_append_right (by omega), lt] at h1
                rw [List.getElem?_append_right (by omega), ls] at h2
                simp at h1 h2
                exact .inr ⟨rfl, h1.symm, h2.symm⟩
              · rw [List.getElem?_append_right (by omega), ls, List.getElem?_eq_none (by simp; omega)] at h2
                cases h2
          have lv : ∀ b, LiveA (μ.take n ++ [a]) (st.take n ++ [c]) hid b → b = a ∨ LiveA (μ.take n) (st.take n) hid b := fun b z => by
            rcases z with z | ⟨i, d, h1, h2, h3⟩
            · exact .inr (.inl z)
            · rcases spl h1 h2 with ⟨y1, y2, y3, y4, y5⟩ | ⟨y1, y2, y3⟩
              · exact .inr (.inr ⟨i, d, y4, y5, h3⟩)
              · exact .inl y2
          have lf : ∀ b o, b ≠ a → Fz (μ.take n) (st.take n) hid H b = some o → Fz (μ.take n ++ [a]) (st.take n ++ [c]) hid H b = some o := fun b o hb q => by
            obtain ⟨q1, q2⟩ := Fz.sub q
            exact Fz.mk q1 fun z => (lv b z).elim hb q2
          -- from the whole state: a was live there, so nothing read leans on it
          have lw : Le (Fz μ st hid H) (Fz (μ.take n ++ [a]) (st.take n ++ [c]) hid H) := Le.of fun b o q => by
            obtain ⟨q1, q2⟩ := Fz.sub q
            exact Fz.mk q1 fun z => (lv b z).elim (fun y => q2 (y ▸ .inr ⟨j, c, e1, e, lc⟩)) fun y => q2 (live_take y)
          have cw : ∀ {F : Hp} (i : Nat), i < n → ∀ v, Rep K mg (Fz μ st hid H) μ (.cell i) v → Rep K mg F (μ.take n ++ [a]) (.cell i) v := fun i hi v r => by
            unfold Rep at r ⊢
            obtain ⟨b, h1, h2⟩ := r
            exact ⟨b, by rw [List.getElem?_append_left (by omega), List.getElem?_take, if_pos hi]; exact h1, h2⟩
          have go : ∀ {ws : List W} {vs : List V}, (fz0s n (fun _ => none) ws).isSome = true → Reps K mg (Fz μ st hid H) μ ws vs → Reps K mg (Fz (μ.take n ++ [a]) (st.take n ++ [c]) hid H) (μ.take n ++ [a]) ws vs := fun {ws vs} hs r => by
            cases q : fz0s n (fun _ => none) ws with
            | none => rw [q] at hs; cases hs
            | some us =>
              have z := fz0s_id ws us q
              subst z
              exact fz0s_at lw cw (fun _ _ _ _ z => by cases z) _ _ _ q r
          have cel : ∀ {m : Nat} {b : Addr} {d : Cel}, μ[m]? = some b → st[m]? = some d → oldW n d = true → CelOk K mg (Fz (μ.take n ++ [a]) (st.take n ++ [c]) hid H) (μ.take n ++ [a]) H b d := fun {m b d} h1 h2 old => by
            have q := k.ok m b d h1 h2
            cases d with
            | lst ws => obtain ⟨vs, e, r⟩ := q; exact ⟨vs, e, go old r⟩
            | dct ks ws => obtain ⟨vs, e, r⟩ := q; exact ⟨vs, e, go old r⟩
            | ins c ns ws => obtain ⟨C, dx, vs, g, l', e, r⟩ := q; exact ⟨C, dx, vs, g, l', e, go old r⟩
            | frz w =>
              have old' : (fz0 n (fun _ => none) w).isSome = true := old
              cases y : fz0 n (fun _ => none) w with
              | none => rw [y] at old'; cases old'
              | some u =>
                have z := fz0_id w u y
                subst z
                exact fz0_at lw cw (fun _ _ _ _ z => by cases z) _ _ _ y q
          have oldT : ∀ {m : Nat} {d : Cel}, (st.take n)[m]? = some d → oldW n d = true := fun h => List.all_eq_true.mp ho _ (List.mem_of_getElem? h)
          refine P (μ.take n ++ [a]) H _ ⟨by simp [lt, ls], fun i i2 b d d2 h1 h2 h3 h4 h5 h6 => ?_, fun i b d h1 h2 h3 => ?_, k.hidt, fun i b d h1 h2 => ?_⟩ ⟨by rw [ht]; exact ⟨[a], rfl⟩, g.le.trans lw, g.hid, g.lck⟩ ?_
          · rcases spl h1 h3 with ⟨y1, y2, y3, _, _⟩ | ⟨y1, y2, y3⟩ <;> rcases spl h2 h4 with ⟨z1, z2, z3, _, _⟩ | ⟨z1, z2, z3⟩
            · exact k.inj i i2 b d d2 y2 z2 y3 z3 h5 h6
            · subst z2 z3
              have := k.inj i j b d d2 y2 e1 y3 e h5 h6
              omega
            · subst y2 y3
              have := k.inj i2 j b d2 d z2 e1 z3 e h6 h5
              omega
            · omega
          · rcases spl h1 h2 with ⟨y1, y2, y3, _, _⟩ | ⟨y1, y2, y3⟩
            · exact k.hidn i b d y2 y3 h3
            · subst y2 y3; exact k.hidn j b d e1 e h3
          · rcases spl h1 h2 with ⟨y1, y2, y3, y4, y5⟩ | ⟨y1, y2, y3⟩
            · exact cel y2 y3 (oldT y5)
            · subst y2 y3; exact cel e1 e oc
          · unfold Rep
            exact ⟨a, by rw [List.getElem?_append_right (by omega), lt]; simp, rfl⟩
        · exact P.elim
      · exact P.elim
    · exact P.elim
  · exact P.elim

/-! ## a def keeps what its body says -/
theorem start_get {N : List Str} {vs : List V} {i : Nat} {v : V} (h : vs[i]? = some v) : (L2.start N vs)[i]? = some (some v) := by
  have hi : i < vs.length := by
    rcases Nat.lt_or_ge i vs.length with q | q
    · exact q
    · rw [List.getElem?_eq_none q] at h; cases h
  unfold L2.start
  rw [List.getElem?_append_left (by simpa using hi), List.getElem?_map, h]; rfl
theorem fn_okG {lv : Nat → W → Sto → Out W} {P : Program} {w : World} {K : PySem.W.Frag} {mg : Str → Option Value} {base : Heap} {x qual : Str} {st : Stmt} {f : Addr} {fd : FuncData} {N ps : List Str} {k m n : Nat} {b : SSem} (hlv : LvOk K mg lv) (F : Fun K x qual st f fd) (S : FnScope N ps (defScope st)) (hm : N.length = m := by rfl) (hn : ps.length = n := by rfl)
    (hb : ∀ (cdv : Value) (A : Around) (outer : List Env) (s : Shared) (H : Hp) (E : XK), Ctx (cxOf (L2.CX P w) P w K mg base N qual (defScope st) f cdv A outer s H E) (Wish.of fun c d _ H => E c d H) k → BV (cxOf (L2.CX P w) P w K mg base N qual (defScope st) f cdv A outer s H E) (Wish.of fun c d _ H => E c d H) (defBody st) b) :
    FnOk P w K mg base (L2.CX P w) (k + 1) f fd ps (spF K mg n (mkFnG lv m b)) := by
  refine F.okX S (fun vs H Q E h => ?_) (fun cdv A outer s H vs Q E hr h => ?_)
  · obtain ⟨_, _, _, _, h, _⟩ := h
    rw [h, hn]
  · refine ⟨_, hb cdv A outer s H E ⟨rfl, S.nd, hr, takes_of rfl rfl rfl rfl, passes_of (K := fun e s'' => L2.CX P w outer H s E e s'') rfl⟩, ?_⟩
    obtain ⟨hid, μ, st0, ws, hl, k0, r, P0⟩ := h
    have wl : ws.length = vs.length := r.length
    refine ⟨μ, st0, hid, ws.map some ++ List.replicate (m - ws.length) none, ⟨k0, ?_, fun i u hi => ?_, trivial⟩, ?_⟩
    · unfold L2.start
      simp only [List.length_append, List.length_map, List.length_replicate, wl, hm]
    · by_cases hlt : i < ws.length
      · rw [List.getElem?_append_left (by simpa using hlt), List.getElem?_map] at hi
        cases e : ws[i]? with
        | none => rw [e] at hi; cases hi
        | some u' =>
          rw [e] at hi
          cases hi
          obtain ⟨v, e1, e2⟩ := r.get e
          exact ⟨v, start_get e1, e2⟩
      · rw [List.getElem?_append_right (by simpa using hlt), List.getElem?_replicate] at hi
        split at hi <;> cases hi
    · unfold mkFnG at P0
      cases e : b (ws.map some ++ List.replicate (m - ws.length) none) st0 with
      | bad => rw [e] at P0; exact P0
      | bk f s => rw [e] at P0; exact P0.elim
      | ct f s => rw [e] at P0; exact P0.elim
      | nx f s =>
        rw [e] at P0
        exact fun μ' σ' H' S' g => leave_at k0.len g S'.sto rep_non P0
      | rt u s =>
        rw [e] at P0
        exact fun μ' H' v k' g r' => hlv _ _ _ _ _ _ _ _ _ _ _ _ _ k0.len g k' r' P0
      | er x f s =>
        rw [e] at P0
        exact fun μ' σ' H' c d S' g xr => leaveX_at k0.len g S'.sto xr P0
end SL

namespace SL
open PySem PySem.Spec PyProof.Rows L2

/-! ## a def of the text, by its name -/
structure FnIs (P : Program) (w : World) (K : PySem.W.Frag) (mg : Str → Option Value) (base : Heap) (x : Str) (k n : Nat) (F : Fn) : Prop where
  ex : ∃ (g : Addr) (fd : FuncData) (ps : List Str), FnOk P w K mg base (L2.CX P w) k g fd ps (spF K mg n F) ∧ mg x = some (.ref g) ∧ PySem.W.keepIn K (.ref g) = true ∧ Binds K fd ps []
section
variable {X : Cx} {Wx : Wish}
theorem ev_callI {k j n : Nat} {x : Str} {F : Fn} {e : Expr} {es : List Expr} {f : SemL} {p pos : Pos} (I : FnIs X.prog X.w X.K X.mg X.base x k n F) (C : Ctx X Wx j) (hk : k ≤ j) (ha : AV X Wx (e :: es) f) (ar : ArN n f) (hg : Gl X x := by rfl) (hdb : (x == ("__debug__" : Str)) = false := by decide)
    (he : starEach (e :: es) X.env = (false, eval e X.env) :: starEach es X.env := by rfl) (hpl : (backTo pos (starEach es X.env)).any (·.1) = false := by rfl) : EV X Wx (.Call (.Name x p) (e :: es) [] pos) (eCall F f) := by
  obtain ⟨g, fd, ps, h1, h2, h3, h4⟩ := I.ex
  exact ev_call h1 (C.room.mono hk) h2 h3 h4 C.tk ha ar hg hdb he hpl
theorem ev_call0 {k j : Nat} {x : Str} {F : Fn} {p pos : Pos} (I : FnIs X.prog X.w X.K X.mg X.base x k 0 F) (C : Ctx X Wx j) (hk : k ≤ j) (hg : Gl X x := by rfl) (hdb : (x == ("__debug__" : Str)) = false := by decide) : EV X Wx (.Call (.Name x p) [] [] pos) (eCall F aNil) := by
  obtain ⟨g, fd, ps, h1, h2, h3, h4⟩ := I.ex
  refine ⟨fun pins s σ H Q J hq => ?_⟩
  refine wpAny_Call_Name_kw (ld_glob J hg h2 ?_ hdb)
  exact PySem.W.callWith_K0 J.kIn h3 (run_fnS (us := []) (E := WE Wx.w) h1 (C.room.mono hk) h4 (passAt C.tk σ) J .nil (eCall_read (f := aNil) arN_nil σ H Q hq |> fun z => by
    obtain ⟨μ, st, hid, fr, S, P⟩ := z
    exact P μ H [] S.sto .refl .nil))
/-- a method of a built-in type -/
theorem ev_m {T id : String} {name : Str} {ty : Sto → W → Bool} {op : OpM} {r : V → List V → Hp → VK → Prop} {o e : Expr} {es : List Expr} {f : Sem} {g : SemL} {apos cpos : Pos} (pa : PlainAttrs T) (slot : Slot T name id) (hty : typeOf (.builtin id) = pure (.type "method_descriptor"))
    (ht : ∀ (hid μ : List Addr) (st : Sto) (H : Hp) (w : W) (v : V), StOk X.K X.mg μ st hid H → Rep X.K X.mg (Fz μ st hid H) μ w v → ty st w = true → tyV X.K T v H) (hm : MtR X id r) (hs : OpMS X op r) (ho : EV X Wx o f) (ha : AV X Wx (e :: es) g)
    (hbase : attributeBase o name X.env (eval o X.env) = eval o X.env := by rfl) (hline : (apos.endLine == cpos.line) = true := by rfl) (he : starEach (e :: es) X.env = (false, eval e X.env) :: starEach es X.env := by rfl) (hpl : (backTo cpos (starEach es X.env)).any (·.1) = false := by rfl)
    (hfew : ((backTo cpos (starEach (e :: es) X.env)).all (fun x => !x.1) && (backToKw cpos (keywordEach [] X.env)).all (fun x => x.1.isSome) && decide ((e :: es).length + ([] : List Keyword).length + (if ([] : List Keyword).isEmpty then 0 else 1) < 30)) = true := by rfl) :
    EV X Wx (.Call (.Attribute o name apos) (e :: es) [] cpos) (eM ty op f g) := PEm (pe_bm pa slot hty hm ho ha (hbase := hbase) (hline := hline) (hs := he) (hplain := hpl) (hfew := hfew)) (eM_read ht hs)
/-- {} -/
theorem ev_dict0 {pos : Pos} : EV X Wx (.Dict [] [] pos) (eC (.dct [] [])) := PEm pe_dnewK fun σ H Q ⟨μ, st, hid, fr, S, P⟩ => by
  intro d hd
  refine ok_new (o := .dK []) P S.sto hd fun F l e => ?_
  unfold Rep
  exact ⟨d, [], rfl, ⟨false, .inl [], rfl, rfl, .inl e, fun _ kk z => nomatch z⟩, .nil⟩
theorem lkS {K : PySem.W.Frag} {mg : Str → Option Value} {i j : Nat} {x : Exc} {a : Addr} {cls : Value} {d : Option Addr} (h : i ≠ j) (h2 : i ∉ Wx.lock) : i ∉ (Wx.suite K mg (some j) x a cls d).lock := fun z => by
  rcases List.mem_append.mp z with z | z
  · exact h (List.mem_singleton.mp z)
  · exact h2 z
theorem lkN {K : PySem.W.Frag} {mg : Str → Option Value} {i : Nat} {x : Exc} {a : Addr} {cls : Value} {d : Option Addr} (h2 : i ∉ Wx.lock) : i ∉ (Wx.suite K mg none x a cls d).lock := h2
end
/-- the body's own context -/
theorem fn_is {lv : Nat → W → Sto → Out W} {P : Program} {w : World} {K : PySem.W.Frag} {mg : Str → Option Value} {base : Heap} {x qual : Str} {st : Stmt} {f : Addr} {fd : FuncData} {N ps : List Str} {k m n : Nat} {b : SSem} (hlv : LvOk K mg lv) (F : Fun K x qual st f fd) (hx : mg x = some (.ref f)) (hB : Binds K fd ps []) (S : FnScope N ps (defScope st))
    (hb : ∀ (cdv : Value) (A : Around) (outer : List Env) (s : Shared) (H : Hp) (E : XK), Ctx (cxOf (L2.CX P w) P w K mg base N qual (defScope st) f cdv A outer s H E) (Wish.of fun c d _ H => E c d H) k → BV (cxOf (L2.CX P w) P w K mg base N qual (defScope st) f cdv A outer s H E) (Wish.of fun c d _ H => E c d H) (defBody st) b)
    (hm : N.length = m := by rfl) (hn : ps.length = n := by rfl) : FnIs P w K mg base x (k + 1) n (mkFnG lv m b) :=
  ⟨f, fd, ps, fn_okG hlv F S hm hn hb, hx, F.kp, hB⟩
end SL

namespace SL
open PySem PySem.Spec PyProof.Rows L2
section
variable {X : Cx} {Wx : Wish}
theorem ev_blk {k : Nat} {s : Shared} {H : Hp} {scope : Scope} {cenv : Env} {fp : List Addr} {elt : Expr} {e : Sem} (C : Ctx X Wx k) (h : Ctx (X.blk s H scope cenv fp) Wx.blk k → EV (X.blk s H scope cenv fp) Wx.blk elt e) : EV (X.blk s H scope cenv fp) Wx.blk elt e := h (C.blk ..)
theorem pt_blk {k : Nat} {s : Shared} {H : Hp} {scope : Scope} {cenv : Env} {fp : List Addr} {ifs : List Expr} {t : TT} (C : Ctx X Wx k) (h : Ctx (X.blk s H scope cenv fp) Wx.blk k → PTs (X.blk s H scope cenv fp) ifs t) : PTs (X.blk s H scope cenv fp) ifs t := h (C.blk ..)
theorem bv_bad {ss : List Stmt} : BV X Wx ss (fun _ _ => .bad) := ⟨fun pins s σ H D I h => by
  obtain ⟨μ, st, hid, fr, S, P⟩ := h
  exact False.elim P⟩
theorem ev_gI {x : Str} {i : Int} {pos : Pos} (hm : ∃ t, X.mg x = some (.int i t)) (hg : Gl X x := by rfl) (hd : (x == ("__debug__" : Str)) = false := by decide) : EV X Wx (.Name x pos) (eC (.int i)) := by
  obtain ⟨t, h⟩ := hm
  exact ev_globI h hg hd
theorem ev_gS {x : Str} {i : Str} {pos : Pos} (hm : ∃ t, X.mg x = some (.str i t)) (hg : Gl X x := by rfl) (hd : (x == ("__debug__" : Str)) = false := by decide) : EV X Wx (.Name x pos) (eC (.str i)) := by
  obtain ⟨t, h⟩ := hm
  exact ev_globS h hg hd
end
theorem cx_no {P : Program} (w : World) (H : Hp) (s : Shared) (e : Value) (s' : Shared) (z : L2.CX P w [] H s (fun _ _ _ => False) e s') : False := by
  obtain ⟨_, _, _, _, _, _, _, _, _, _, _, _, z⟩ := z
  exact z
theorem ro_reps {K : PySem.W.Frag} {mg : Str → Option Value} {F : Hp} {μ : List Addr} : ∀ ns : List Int, Reps K mg F μ (ns.map W.int) (ns.map V.int)
  | [] => .nil
  | n :: r => .cons rep_int (ro_reps r)
theorem fz_nil {H : Hp} : Fz [] [] [] H = H := by
  funext a
  unfold Fz
  rw [if_neg]
  rintro (h | ⟨k, c, h, _⟩)
  · cases h
  · cases h
theorem spF_of {K : PySem.W.Frag} {mg : Str → Option Value} {F : Fn} {a : Addr} {ns : List Int} {H : Hp} {Q : VK} {E : XK} {st : Sto} (hS : SqL K H a (ns.map V.int)) (e : F [.ro (ns.map W.int)] [] = .ok (.bl true) st) (hq : ∀ H', Q (.bl true) H') : spF K mg 1 F [.ref a] H Q E := by
  refine ⟨[], [], [], [.ro (ns.map W.int)], rfl, ⟨rfl, fun i j a c d h => (nomatch h), fun i a c h => (nomatch h), fun a h => (nomatch h), fun i a c h => (nomatch h)⟩, .cons ?_ .nil, ?_⟩
  · unfold Rep
    exact ⟨a, _, rfl, by rw [fz_nil]; exact hS, ro_reps ns⟩
  · rw [e]
    intro μ' H' v k g r
    cases rep_bl_inv r
    exact hq H'
end SL

namespace SL
open PySem PySem.Spec PyProof.Rows L2
/-! ## instances of own classes -/
def insW (st : Sto) : W → Option (Str × List Str × List W)
  | .ins c ns ws => some (c, ns, ws)
  | .cell k => match st[k]? with
    | some (.ins c ns ws) => some (c, ns, ws)
    | some (.frz (.ins c ns ws)) => some (c, ns, ws)
    | _ => none
  | _ => none
theorem rep_ins_inv {K : PySem.W.Frag} {mg : Str → Option Value} {F : Hp} {μ : List Addr} {c : Str} {ns : List Str} {ws : List W} {v : V} (h : Rep K mg F μ (.ins c ns ws) v) : ∃ a C dx vs, v = .ref a ∧ mg c = some (.ref C) ∧ ns.length = vs.length ∧ F a = some (.ins C dx (ns.zip vs)) ∧ Reps K mg F μ ws vs := by
  unfold Rep at h; exact h
theorem insW_at {K : PySem.W.Frag} {mg : Str → Option Value} {μ : List Addr} {st : Sto} {hid : List Addr} {H : Hp} (s : StOk K mg μ st hid H) {w : W} {c : Str} {ns : List Str} {ws : List W} {v : V} (h : insW st w = some (c, ns, ws)) (r : Rep K mg (Fz μ st hid H) μ w v) :
    ∃ a C dx vs, v = .ref a ∧ mg c = some (.ref C) ∧ ns.length = vs.length ∧ H a = some (.ins C dx (ns.zip vs)) ∧ Reps K mg (Fz μ st hid H) μ ws vs := by
  cases w with
  | ins c' ns' ws' =>
    unfold insW at h; cases h
    obtain ⟨a, C, dx, vs, h1, h2, h3, h4, h5⟩ := rep_ins_inv r
    exact ⟨a, C, dx, vs, h1, h2, h3, (Fz.sub h4).1, h5⟩
  | cell k =>
    unfold insW at h
    simp only at h
    split at h
    · rename_i c' ns' ws' e
      cases h
      obtain ⟨a, e1, e2, C, dx, vs, h1, h2, h3, h4⟩ := s.cell e r
      exact ⟨a, C, dx, vs, e1, h1, h2, h3, h4⟩
    · rename_i c' ns' ws' e
      cases h
      obtain ⟨a, e1, e2, h1⟩ := s.cell e r
      obtain ⟨b, C, dx, vs, e3, h1, h2, h3, h4⟩ := rep_ins_inv h1
      cases e3
      exact ⟨a, C, dx, vs, e1, h1, h2, (Fz.sub h3).1, h4⟩
    · cases h
  | _ => cases h
def FldOk (K : PySem.W.Frag) (mg : Str → Option Value) (cs : List Str) (f : Str) : Prop := ∀ c ∈ cs, ∀ C, mg c = some (.ref C) → Cls K C ∧ NoAttr K C f
theorem fldNil {K : PySem.W.Frag} {mg : Str → Option Value} {f : Str} : FldOk K mg [] f := fun c h => (nomatch h)
theorem fldCons {K : PySem.W.Frag} {mg : Str → Option Value} {c f : Str} {cs : List Str} {C : Addr} (hm : mg c = some (.ref C)) (h : Cls K C) (n : PySem.W.findIn K (.ref C) f = some none) (t : FldOk K mg cs f) : FldOk K mg (c :: cs) f := fun d hd D hD => by
  rcases List.mem_cons.mp hd with rfl | hd
  · rw [hm] at hD; cases hD; exact ⟨h, n⟩
  · exact t d hd D hD
/-- e.n -/
def eFld (cs : List Str) (n : Str) (f : Sem) : Sem := fun fr st => (f fr st).bind fun w st1 => match insW st1 w with
  | some (c, ns, ws) => if cs.contains c = true then (match lkp ns ws n with
    | some u => .ok u st1
    | none => .bad) else .bad
  | none => .bad
def putNs (n : Str) : List Str → List Str
  | [] => [n]
  | m :: r => if m = n then m :: r else m :: putNs n r
def putL {α : Type} (n : Str) (a : α) : List Str → List α → List α
  | [], _ => [a]
  | m :: r, u :: us => if m = n then a :: us else u :: putL n a r us
  | _ :: _, [] => [a]
theorem put_zip {n : Str} {v : V} : ∀ {ns : List Str} {vs : List V}, ns.length = vs.length → putF n v (ns.zip vs) = (putNs n ns).zip (putL n v ns vs) ∧ (putNs n ns).length = (putL n v ns vs).length
  | [], [], _ => ⟨rfl, rfl⟩
  | m :: ns, [], h => by simp at h
  | [], v :: vs, h => by simp at h
  | m :: ns, u :: vs, h => by
    obtain ⟨h1, h2⟩ := put_zip (n := n) (v := v) (ns := ns) (vs := vs) (by simpa using h)
    have hl : ns.length = vs.length := by simpa using h
    unfold putNs putL
    rw [List.zip_cons_cons, putF]
    by_cases e : m = n
    · rw [if_pos e, if_pos e, if_pos e]
      exact ⟨rfl, by simpa using h⟩
    · rw [if_neg e, if_neg e, if_neg e, h1]
      exact ⟨rfl, by simpa using h2⟩
theorem put_reps {K : PySem.W.Frag} {mg : Str → Option Value} {F : Hp} {μ : List Addr} {n : Str} {w : W} {v : V} (rw_ : Rep K mg F μ w v) : ∀ {ns : List Str} {ws : List W} {vs : List V}, Reps K mg F μ ws vs → ns.length = vs.length → Reps K mg F μ (putL n w ns ws) (putL n v ns vs)
  | [], ws, vs, r, h => by
    cases vs with
    | nil => cases ws <;> exact .cons rw_ .nil
    | cons => simp at h
  | m :: ns, [], vs, r, h => by rw [Reps.nil_iff] at r; subst r; simp at h
  | m :: ns, u :: ws, vs, r, h => by
    obtain ⟨x, t, rfl, h1, h2⟩ := r.cons_inv
    unfold putL
    by_cases e : m = n
    · rw [if_pos e, if_pos e]; exact .cons rw_ h2
    · rw [if_neg e, if_neg e]; exact .cons h1 (put_reps rw_ h2 (by simpa using h))
/-- o.n = e, o under construction -/
def sFldS (cs : List Str) (n : Str) (e o : Sem) : SSem := fun fr st => (e fr st).stm fr fun w st1 => (o fr st1).stm fr fun x st2 => match x with
  | .cell k => match st2[k]? with
    | some (.ins c ns ws) => if cs.contains c = true ∧ ns.length < 1000 then .nx fr (st2.set k (.ins c (putNs n ns) (putL n w ns ws))) else .bad
    | _ => .bad
  | _ => .bad
section
variable {X : Cx} {Wx : Wish}
theorem ev_fld {cs : List Str} {n : Str} {e : Expr} {f : Sem} {pos : Pos} (T : FldOk X.K X.mg cs n) (he : EV X Wx e f) (hb : attributeBase e n X.env (eval e X.env) = eval e X.env := by rfl) : EV X Wx (.Attribute e n pos) (eFld cs n f) := PEm (pe_fld he hb) fun σ H Q ⟨μ, st, hid, fr, S, P⟩ => by
  refine ⟨μ, st, hid, fr, S, ?_⟩
  unfold eFld at P
  cases h : f fr st with
  | bad => rw [h] at P; exact P
  | err x s => rw [h] at P; exact P
  | ok w st1 =>
    rw [h, Out.bind_ok] at P
    intro μ1 H1 v k1 g1 r1
    have P1 := EPost.from g1 P
    split at P1
    · rename_i c ns ws e
      split at P1
      · rename_i hc
        obtain ⟨a, C, dx, vs, rfl, hm, hl, ha, rr⟩ := insW_at k1 e r1
        obtain ⟨cl, no⟩ := T c (by simpa using hc) C hm
        split at P1
        · rename_i u eu
          obtain ⟨y, ey, ry⟩ := lkp_at eu rr
          exact ⟨a, C, dx, _, y, rfl, ha, cl, no, ey, P1 μ1 H1 y k1 .refl ry⟩
        · exact P1.elim
      · exact P1.elim
    · exact P1.elim
theorem sv_fld {cs : List Str} {n : Str} {o e : Expr} {fo fe : Sem} {pos pos' : Pos} (T : FldOk X.K X.mg cs n) (he : EV X Wx e fe) (ho : EV X Wx o fo) (hs : swapsWith e (some (.Attribute o n pos')) pos.line X.env = pure false := by rfl) :
    SV X Wx (.Assign [.Attribute o n pos'] e pos) (sFldS cs n fe fo) := PSm (ps_fld ho he hs) fun D σ H ⟨μ, st, hid, fr, S, P⟩ => by
  refine stm_read (t := id) S P fun w st1 μ1 H1 v S1 g1 r1 P1 => ?_
  refine stm_read (t := id) S1 P1 fun x st2 μ2 H2 ov S2 g2 r2 P2 => ?_
  split at P2
  · rename_i k
    split at P2
    · rename_i c ns ws ek
      split at P2
      · rename_i hc
        obtain ⟨a, rfl, h1, C, dx, vs, hm, hl, ha, rr⟩ := S2.sto.cell ek r2
        obtain ⟨cl, no⟩ := T c (by simpa using hc.1) C hm
        obtain ⟨z1, z2⟩ := put_zip (n := n) (v := v) hl
        refine ⟨a, C, dx, _, rfl, ha, cl, no, by rw [List.length_zip, ← hl, Nat.min_self]; exact hc.2, ?_⟩
        obtain ⟨k2, g3⟩ := S2.sto.setCell (c' := .ins c (putNs n ns) (putL n w ns ws)) (o := .ins C dx (putF n v (ns.zip vs))) h1 ek rfl rfl ⟨C, dx, putL n v ns vs, hm, z2, by rw [upd_same, z1], put_reps (Rep.mono g2.le g2.pre _ _ r1) rr hl⟩
        exact P2 μ2 σ _ (S2.next k2 g3) g3
      · exact P2.elim
    · exact P2.elim
  · exact P2.elim
end
/-! ## making -/
structure MkIs (P : Program) (w : World) (K : PySem.W.Frag) (mg : Str → Option Value) (base : Heap) (c : Str) (k n : Nat) (F : Fn) : Prop where
  ex : ∃ (C g : Addr) (fd : FuncData) (ps : List Str), Mk K C g ∧ FnOk P w K mg base (L2.CX P w) k g fd ps (spF K mg (n + 1) F) ∧ mg c = some (.ref C) ∧ Binds K fd ps []
def eMakeG (lv : Nat → W → Sto → Out W) (c : Str) (F : Fn) (f : SemL) : Sem := fun fr st => (f fr st).bind fun ws st1 => match F (.cell st1.length :: ws) (st1 ++ [.ins c [] []]) with
  | .ok .non st2 => lv st1.length (.cell st1.length) st2
  | .err x st2 => leaveX st1.length x st2
  | _ => .bad
abbrev eMake (c : Str) (F : Fn) (f : SemL) : Sem := eMakeG leave c F f
/-- the wish at one state -/
def tMakeS (C : Addr) (sp : Sp) (E : L2.St → XK) (t : TA) : TE := fun σ H Q => t σ H fun us H1 => ∀ x dx, H1 x = none → H1 dx = none → dx ≠ x → sp (V.ref x :: us) (upd (upd H1 dx (.own x)) x (.ins C dx [])) (fun v H2 => v = .non ∧ Q (.ref x) H2) (E σ)
section
variable {X : Cx} {Wx : Wish}
theorem make_run {k : Nat} {C g : Addr} {fd : FuncData} {ps : List Str} {sp : Sp} {E : XK} {pins : List (Addr × Obj)} {σ : L2.St} {H : Hp} {s : Shared} {Q : VK} {us : List Value} {vs : List V} (M : Mk X.K C g) (G : FnOk X.prog X.w X.K X.mg X.base (L2.CX X.prog X.w) k g fd ps sp) (hr : Room (k + 1) X.A) (B : Binds X.K fd ps [])
    (hx : PassesAt (L2.CX X.prog X.w) X σ E) (J : Inv X pins σ H s) (r : Vals vs us) (hq : ∀ x dx, H x = none → H dx = none → dx ≠ x → sp (V.ref x :: vs) (upd (upd H dx (.own x)) x (.ins C dx [])) (fun v H2 => v = .non ∧ Q (.ref x) H2) E) :
    wpAny (model X.prog X.w) X.A (call (.ref C) us) (EP X pins σ Q) X.xe s := by
  have q1 := hq (s.heap.objs.size + 1) s.heap.objs.size (J.hok.fresh (Nat.le_succ _)) (J.hok.fresh (Nat.le_refl _)) (Nat.ne_of_lt (Nat.lt_succ_self _))
  have J2 := Inv.made (C := C) J
  have rr : Vals (V.ref (s.heap.objs.size + 1) :: vs) (Value.ref (s.heap.objs.size + 1) :: us) := .cons rfl r
  have ll : (Value.ref (s.heap.objs.size + 1) :: us).length = ps.length := by
    have z := rr.length
    rw [G.len _ _ _ _ q1] at z
    exact z.symm
  have bb := B { s with heap := (s.heap.push PySem.W.emptyDict).push (PySem.W.instObj C s.heap.objs.size) } (Value.ref (s.heap.objs.size + 1) :: us) J2.kIn (by rw [List.append_nil]; exact ll)
  rw [List.append_nil] at bb
  refine wpAny_call (make_map (f := g) J.kIn M.makes M.init (beq_iff_eq.mp M.fn) (codeAny_mono (G.run _ X.stack _ _ ⟨Value.ref (s.heap.objs.size + 1) :: us, []⟩ (Value.ref (s.heap.objs.size + 1) :: us) _ _ E (hr.make C us [])
    (J2.env0.make C us []) bb rr q1) fun o s' z => ?_))
  cases o with
  | error e => exact hx pins _ _ e s' J2 z
  | ok fl =>
    cases fl with
    | ret u =>
      obtain ⟨v, H', J3, rv, ev, q3⟩ := J2.after z
      subst ev
      exact ⟨rv, ⟨V.ref (s.heap.objs.size + 1), H', J3, rfl, q3⟩⟩
    | next => exact False.elim z
    | brk => exact False.elim z
    | cont => exact False.elim z
theorem pe_makeS {k : Nat} {C g : Addr} {fd : FuncData} {ps : List Str} {sp : Sp} {E : L2.St → XK} {t : TA} {c : Str} {e : Expr} {es : List Expr} {p pos : Pos} (M : Mk X.K C g) (G : FnOk X.prog X.w X.K X.mg X.base (L2.CX X.prog X.w) k g fd ps sp) (hr : Room (k + 1) X.A) (B : Binds X.K fd ps []) (hm : X.mg c = some (.ref C)) (hx : ∀ σ, PassesAt (L2.CX X.prog X.w) X σ (E σ)) (ha : PA X (e :: es) t) (hg : Gl X c)
    (hdb : (c == ("__debug__" : Str)) = false) (he : starEach (e :: es) X.env = (false, eval e X.env) :: starEach es X.env) (hpl : (backTo pos (starEach es X.env)).any (·.1) = false) : PE X (.Call (.Name c p) (e :: es) [] pos) (tMakeS C sp E t) := ⟨fun pins s σ H Q J hq =>
  wpAny_Call_Name_kw (ld_glob J hg hm (PySem.W.callWith_K (h₀ := X.base) J.ok.mod.kin M.kp (thn (ha.run pos pins s σ H _ J hq) fun us s1 ⟨vs, H1, J1, r, q⟩ => ⟨J1.kIn, make_run M G hr B (hx σ) J1 r q⟩) he hpl) hdb)⟩
theorem make_read {lv : Nat → W → Sto → Out W} (hlv : LvOk X.K X.mg lv) {n : Nat} {c : Str} {C : Addr} {F : Fn} {f : SemL} (hm : X.mg c = some (.ref C)) (ar : ArN n f) : ∀ σ H Q, tE X.K X.mg Wx (eMakeG lv c F f) σ H Q → tMakeS C (spF X.K X.mg (n + 1) F) (WE Wx.w) (tA X.K X.mg Wx f) σ H Q := fun σ H Q ⟨μ, st, hid, fr, S, P⟩ => by
  refine ⟨μ, st, hid, fr, S, ?_⟩
  unfold eMakeG at P
  cases h : f fr st with
  | bad => rw [h] at P; exact P
  | err x s => rw [h] at P; exact P
  | ok ws st1 =>
    rw [h, Out.bind_ok] at P
    intro μ1 H1 vs k1 g1 r1 x dx nx nd ne
    have P1 := EPost.from g1 P
    obtain ⟨k2, g2, _⟩ := k1.laid (o := .own x) nd
    obtain ⟨k3, g3⟩ := k2.newCell (c := .ins c [] []) (p := x) (o := .ins C dx []) (by rw [upd_ne (Ne.symm ne)]; exact nx) rfl ⟨C, dx, [], hm, rfl, upd_same, .nil⟩
    have g4 := g2.trans g3
    refine ⟨hid, μ1 ++ [x], st1 ++ [.ins c [] []], .cell st1.length :: ws, by rw [List.length_cons, ← r1.length, ar _ _ _ _ h], k3, .cons ?_ (r1.mono g4.le g4.pre), ?_⟩
    · unfold Rep
      exact ⟨x, by rw [← k1.len]; simp, rfl⟩
    · cases e : F (.cell st1.length :: ws) (st1 ++ [.ins c [] []]) with
      | bad => rw [e] at P1; exact P1
      | err y st2 =>
        rw [e] at P1
        exact fun μ' H' c d k' g' xr => leaveX_at k1.len (g4.trans g') k' xr P1
      | ok u st2 =>
        rw [e] at P1
        intro μ' H' v k' g' rv
        cases u with
        | non =>
          refine ⟨rep_non_inv rv, ?_⟩
          refine hlv st1.length hid μ1 μ' st1 st2 H1 H' Wx.w σ Q (.cell st1.length) (.ref x) k1.len (g4.trans g') k' ?_ P1
          unfold Rep
          exact ⟨x, g'.pre.get (by rw [← k1.len]; simp), rfl⟩
        | _ => exact P1.elim
theorem ev_makeG {lv : Nat → W → Sto → Out W} (hlv : LvOk X.K X.mg lv) {k j n : Nat} {c : Str} {F : Fn} {f : SemL} {e : Expr} {es : List Expr} {p pos : Pos} (I : MkIs X.prog X.w X.K X.mg X.base c k n F) (C : Ctx X Wx j) (hk : k + 1 ≤ j) (ha : AV X Wx (e :: es) f) (ar : ArN n f) (hg : Gl X c := by rfl) (hdb : (c == ("__debug__" : Str)) = false := by decide)
    (he : starEach (e :: es) X.env = (false, eval e X.env) :: starEach es X.env := by rfl) (hpl : (backTo pos (starEach es X.env)).any (·.1) = false := by rfl) : EV X Wx (.Call (.Name c p) (e :: es) [] pos) (eMakeG lv c F f) := by
  obtain ⟨A, g, fd, ps, M, G, hm, B⟩ := I.ex
  exact PEm (pe_makeS M G (C.room.mono hk) B hm (fun σ => passAt C.tk σ) ha hg hdb he hpl) (make_read hlv hm ar)
end
end SL

namespace SL
open PySem PySem.Spec PyProof.Rows L2
/-! ## own classes: isinstance, == -/
structure ClsC (K : PySem.W.Frag) (C : Addr) : Prop where
  cl : Cls K C
  ha : PySem.W.findIn K (.ref C) "__class__" = some (some (.builtin "object.__class__"))
  hn : PySem.W.specialIn K (.builtin "object.__class__") "__get__" = some (some (.builtin "getset_descriptor.__get__"))
  htk : PySem.W.takesIn K (.builtin "object.__class__") = some true
  hm : PySem.W.mroIn K C (.type "object") = some true
  ic : PySem.W.isClsIn K C = true
  ty : PySem.W.typeIn K (.ref C) = some (.type "type")
def mroNo (t : String) : Bool := match fastBuiltinMro t with
  | some l => l.all fun v => match v with
    | .type _ => true
    | _ => false
  | none => false
theorem sub_no {K : PySem.W.Frag} {C : Addr} {t : String} (h : mroNo t = true) : PySem.W.subIn K (.type t) (.ref C) = some false := by
  show (fastBuiltinMro t).map (·.contains (.ref C)) = some false
  unfold mroNo at h
  cases e : fastBuiltinMro t with
  | none => rw [e] at h; cases h
  | some l =>
    rw [e] at h
    show some (l.contains (Value.ref C)) = some false
    congr 1
    have h' : (l.all fun v => match v with | .type _ => true | _ => false) = true := h
    clear e h
    induction l with
    | nil => rfl
    | cons a l ih =>
      rw [List.all_cons, Bool.and_eq_true] at h'
      rw [List.contains_cons, ih h'.2]
      cases a <;> first | rfl | (exact absurd h'.1 (by simp))
theorem kit_no {K : PySem.W.Frag} {C : Addr} (T : ClsC K C) {t : String} (ht : tyN t = true) : PySem.W.kitOne K (.type t) (.ref C) = some false := by
  have h : mroNo t = true := by
    simp only [tyN, Bool.or_eq_true, beq_iff_eq] at ht
    rcases ht with (((((rfl | rfl) | rfl) | rfl) | rfl) | rfl) | rfl <;> decide +kernel
  have e1 : ((PySem.W.clsIn K C).isSome && PySem.W.typeIn K (.ref C) == some (.type "type")) = true := by
    have z : (PySem.W.clsIn K C).isSome = true := T.ic
    rw [z, T.ty]; rfl
  show (if (Value.type t == Value.ref C) = true then some true else (if ((PySem.W.clsIn K C).isSome && PySem.W.typeIn K (.ref C) == some (.type "type")) = true then PySem.W.subIn K (.type t) (.ref C) else none)) = some false
  rw [if_pos e1, sub_no h]
  rfl
theorem kit_self {K : PySem.W.Frag} {C : Addr} : PySem.W.kitOne K (.ref C) (.ref C) = some true := by
  unfold PySem.W.kitOne
  rw [if_pos (by simp)]
/-- isinstance(x, c) -/
def oIsC (c : Str) : OpN := fun ws st => match ws with
  | [x, .cls d] => if d = c then (match insW st x with
    | some (e, _, _) => if e = c then .ok (.bl true) st else .bad
    | none => match tyW st x with
      | some t => if tyN t = true then .ok (.bl false) st else .bad
      | none => .bad) else .bad
  | _ => .bad
section
variable {X : Cx} {Wx : Wish}
theorem ev_cls {c : Str} {C : Addr} {pos : Pos} (hm : X.mg c = some (.ref C)) (hg : Gl X c := by rfl) (hd : (c == ("__debug__" : Str)) = false := by decide) : EV X Wx (.Name c pos) (eC (.cls c)) :=
  ev_c (v := .ref C) (pe_glob hg hm rfl hd) fun F μ => by unfold Rep; exact ⟨C, hm, rfl⟩
theorem os_isC {c : Str} {C : Addr} (hm : X.mg c = some (.ref C)) (T : ClsC X.K C) : OpNS X (oIsC c) (rIsi X.K) := by
  intro Wx hid μ st σ H Q ws vs k r P
  unfold oIsC at P
  split at P
  · rename_i x d
    obtain ⟨v, z, rfl, r1, r2⟩ := reps2 r
    split at P
    · rename_i hd
      subst hd
      obtain ⟨C', h1, rfl⟩ := rep_cls_inv r2
      rw [hm] at h1
      cases h1
      split at P
      · rename_i e n w hi
        split at P
        · rename_i he
          subst he
          obtain ⟨a, D, dx, us, rfl, g1, g2, g3, g4⟩ := insW_at k hi r1
          rw [hm] at g1
          cases g1
          exact ⟨.ref a, .ref C, .ref C, .ref C, true, rfl, .own C, .base (.ins g3 T.cl T.ha T.hn T.htk T.hm), kit_self, P μ H _ k .refl rep_bl⟩
        · exact P.elim
      · split at P
        · rename_i t ht
          split at P
          · rename_i hn
            exact ⟨v, .ref C, .type t, .ref C, false, rfl, .own C, tyW_at k ht r1, kit_no T hn, P μ H _ k .refl rep_bl⟩
          · exact P.elim
        · exact P.elim
    · exact P.elim
  · exact P.elim
/-! ### == by an own __eq__ -/
structure EqIs (P : Program) (w : World) (K : PySem.W.Frag) (mg : Str → Option Value) (base : Heap) (c : Str) (k : Nat) (F : Fn) : Prop where
  ex : ∃ (C g : Addr) (fd : FuncData) (ps : List Str), mg c = some (.ref C) ∧ FnOk P w K mg base (L2.CX P w) k g fd ps (spF K mg 2 F) ∧ PySem.W.findIn K (.ref C) "__eq__" = some (some (.ref g)) ∧ PySem.W.isFn K (.ref g) = true ∧ Binds K fd ps []
/-- both of the class c, or both data -/
def oEqO (c : Str) (F : Fn) : Op2 := fun x y st => match insW st x, insW st y with
  | some (d, _, _), some (e, _, _) => if d = c ∧ e = c then (match F [x, y] st with
    | .ok (.bl b) st1 => .ok (.bl b) st1
    | _ => .bad) else .bad
  | none, none => oEq x y st
  | _, _ => .bad
def rOwn (K : PySem.W.Frag) (mg : Str → Option Value) (C : Addr) (F : Fn) : R2 := fun x y H Q => ∃ a b dx dy fs gs, x = .ref a ∧ y = .ref b ∧ H a = some (.ins C dx fs) ∧ H b = some (.ins C dy gs) ∧ spF K mg 2 F [x, y] H (fun v H2 => (∃ t, v = .bl t) ∧ Q v H2) fun _ _ _ => False
theorem op_own {k : Nat} {C g : Addr} {fd : FuncData} {ps : List Str} {F : Fn} (G : FnOk X.prog X.w X.K X.mg X.base (L2.CX X.prog X.w) k g fd ps (spF X.K X.mg 2 F)) (he : PySem.W.findIn X.K (.ref C) "__eq__" = some (some (.ref g))) (hf : PySem.W.isFn X.K (.ref g) = true) (B : Binds X.K fd ps []) (hr : Room k X.A) :
    OpR X (compareOp .Eq) (rOwn X.K X.mg C F) := by
  intro pins s σ H x y v u Q J rx ry hq
  obtain ⟨a, b, dx, dy, fs, gs, rfl, rfl, h1, h2, q⟩ := hq
  cases rx
  cases ry
  show wpAny (model X.prog X.w) X.A (richCompare .Eq (.ref a) (.ref b)) (EP X pins σ Q) X.xe s
  obtain ⟨mA, i1, _⟩ := ins_get J.hok h1
  obtain ⟨mB, i2, _⟩ := ins_get J.hok h2
  obtain ⟨oa, i1, _⟩ := i1.look
  obtain ⟨ob, i2, _⟩ := i2.look
  obtain ⟨m, hF⟩ := J.fr
  refine PySem.W.cmp_K (op := .Eq) (tb := .ref C) hr.units0 hF J.ok.mod.kin i1 i2.type (by simp [PySem.W.notFirst]) he hf ?_
  have ll := G.len _ _ _ _ q
  have rr : Vals [V.ref a, V.ref b] [Value.ref a, Value.ref b] := .cons rfl (.cons rfl .nil)
  have bb := B s [.ref a, .ref b] J.kIn (by rw [List.append_nil]; exact ll)
  rw [List.append_nil] at bb
  refine wpAny_call (codeAny_mono (G.run X.A X.stack s H ⟨[.ref a, .ref b], []⟩ [.ref a, .ref b] [.ref a, .ref b] _ _ hr J.env0 bb rr q) fun o s' z => ?_)
  cases o with
  | error e =>
    obtain ⟨_, _, _, _, _, _, _, _, _, _, _, _, z⟩ := z
    exact z.elim
  | ok fl =>
    cases fl with
    | ret w =>
      obtain ⟨t, H', J', rz, ⟨b, ez⟩, ex⟩ := J.after z
      subst ez
      cases rz
      exact ⟨.bl b, H', J', rfl, ex⟩
    | next => exact False.elim z
    | brk => exact False.elim z
    | cont => exact False.elim z
def rEqAllO (K : PySem.W.Frag) (mg : Str → Option Value) (C : Addr) (F : Fn) (r : R2) : R2 := fun x y H Q => r x y H Q ∨ rOwn K mg C F x y H Q
theorem ev_eqO {k j : Nat} {c : Str} {F : Fn} {a b : Expr} {f g : Sem} {pos : Pos} (I : EqIs X.prog X.w X.K X.mg X.base c k F) (C : Ctx X Wx j) (hk : k ≤ j) (ha : EV X Wx a f) (hb : EV X Wx b g) (hmk : behindInMarks .Eq b = false) : EV X Wx (.Compare a [.Eq] [b] pos) (e2 (oEqO c F) f g) := by
  obtain ⟨A, ad, fd, ps, hm, G, he, hf, B⟩ := I.ex
  refine ev_cmp ((op_eqD C.room.units).or (op_own G he hf B (C.room.mono hk))) ?_ ha hb hmk
  intro Wx' hid μ st σ H Q w u x y k1 rx ry P
  unfold oEqO at P
  split at P
  · rename_i d n1 w1 e n2 w2 h1 h2
    split at P
    · rename_i hde
      obtain ⟨rfl, rfl⟩ := hde
      obtain ⟨p, D, dx, us, rfl, g1, g2, g3, g4⟩ := insW_at k1 h1 rx
      obtain ⟨q, D', dy, us', rfl, g1', g2', g3', g4'⟩ := insW_at k1 h2 ry
      rw [hm] at g1 g1'
      cases g1
      cases g1'
      refine .inr ⟨p, q, dx, dy, _, _, rfl, rfl, g3, g3', hid, μ, st, [w, u], rfl, k1, .cons rx (.cons ry .nil), ?_⟩
      cases z : F [w, u] st with
      | bad => rw [z] at P; exact P.elim
      | err e s => rw [z] at P; exact P.elim
      | ok r st1 =>
        rw [z] at P
        cases r with
        | bl t =>
          intro μ' H' v k' g' rv
          exact ⟨⟨t, rep_bl_inv rv⟩, P μ' H' v k' g' rv⟩
        | _ => exact P.elim
    · exact P.elim
  · exact .inl (os_eq _ hid μ st σ H Q w u x y k1 rx ry P)
  · exact P.elim
end
end SL

/-! # sorted of tuples of ints, any number of them -/
namespace SLs
open PySem PySem.Spec PyProof.Rows
section
variable {prog : Program} {w : World} {A : Around} {E : Value → Shared → Prop} {s : Shared}
theorem swo_rank (r : Value → Int) : SrtO.Swo fun v u => decide (r v < r u) := by
  refine ⟨fun x y h => ?_, fun x y z h1 h2 => ?_⟩
  · have := of_decide_eq_true h
    exact decide_eq_false (by omega)
  · have a := of_decide_eq_false h1
    have b := of_decide_eq_false h2
    exact decide_eq_false (by omega)
theorem ints_len {xs : List Value} {ns : List Int} (i : IntsAre xs ns) : xs.length = ns.length := by
  induction i with
  | nil => rfl
  | cons => simp_all
theorem tups_any {a : Addr} {vs : List Value} {d : Nat} {B : Int} (hd : 1 ≤ d) (h2 : 2 ≤ vs.length) (x : TS.TupsOk s.heap d B vs) (r : Value → Int) (hr : ∀ v, v ∈ vs → ∀ ns, TS.TupInts s.heap v ns → r v = TS.code B ns) (ha : ∀ o, s.heap.get? a = some o → o.cls ≠ .type "tuple") :
    SrtO.SortableO prog w A s a vs fun v u => decide (r v < r u) := by
  intro h' keep
  have kp : ∀ b o, s.heap.get? b = some o → o.cls = .type "tuple" → h'.get? b = some o := fun b o e c => keep b o (fun z => by subst z; exact ha o e c) e
  have x' := x.keeps kp
  obtain ⟨fs, k, hl, hi⟩ := TS.firsts_of hd vs x'
  refine ⟨_, fun Q E hq => PySem.W.kat_kind (T := Value.type "int") k (by omega) (fun f hf => ?_) rfl hq, ?_⟩
  · obtain ⟨n, t, rfl⟩ := hi f hf
    exact PySem.W.Looks.of_pure rfl
  · intro p q hm hm'
    obtain ⟨ns0, t0, hn0, hb0⟩ := x _ hm
    obtain ⟨ms0, u0, hn1, hb1⟩ := x _ hm'
    have r1 := hr _ hm _ t0
    have r2 := hr _ hm' _ u0
    obtain ⟨a1, xs, e1, ⟨o1, ho1, hc1, n1, hd1⟩, i1⟩ := t0.keeps kp
    obtain ⟨a2, ys, e2, ⟨o2, ho2, hc2, n2, hd2⟩, i2⟩ := u0.keeps kp
    show wpAny (model prog w) A (keyLt' _ p.1 q.1) (fun z s' => s' = _ ∧ z = decide (r p.1 < r q.1)) (fun _ _ => False) _
    rw [r1, r2, e1, e2]
    refine PySem.W.kat_lt ho1 hd1 ho2 hd2 ?_
    have sz : decide (xs.size < ys.size) = false := by
      have l1 := ints_len i1
      have l2 := ints_len i2
      rw [Array.length_toList] at l1 l2
      exact decide_eq_false (by omega)
    rw [sz]
    exact TS.lex_ints 0 i1 i2 (by omega) hb0 hb1 ⟨rfl, rfl⟩
end
end SLs
namespace SL
open PySem PySem.Spec PyProof.Rows L2
def rSortAny (K : PySem.W.Frag) : List V → Hp → VK → Prop := fun vs H Q => ∃ (a : Addr) (xs : List V) (d : Nat) (B : Int), vs = [V.ref a] ∧ SqL K H a xs ∧ 1 ≤ d ∧ (∀ x ∈ xs, ∃ ns, TupI K H x ns ∧ ns.length = d ∧ TS.Bd B ns) ∧
  ∀ (ys : List V) (p : Addr), ys.Perm xs → ys.Pairwise (fun x y => ∀ n m, TupI K H x n → TupI K H y m → TS.code B n ≤ TS.code B m) → H p = none → Q (.ref p) (upd H p (.lst ys))
section
variable {X : Cx}
theorem cr_sortAny : CallR X (.builtin "sorted") (rSortAny X.K) := by
  intro pins s σ H vs us Q J r hq
  obtain ⟨a, xs, d, B, rfl, hs, hd, hx, q⟩ := hq
  obtain ⟨its, rq, hl, hz⟩ := J.list hs
  rw [Vals.ref1 r]
  obtain ⟨e1, e2⟩ := bkV_refs rq fun x mx => by
    obtain ⟨ks, ⟨t, e, _⟩, _⟩ := hx x mx
    exact ⟨t, e⟩
  have raw : TS.TupsOk s.heap d B its := fun v hv => by
    obtain ⟨t, rfl⟩ := e2 v hv
    have hm : V.ref t ∈ xs := by
      rw [e1]
      exact List.mem_map.mpr ⟨_, hv, rfl⟩
    obtain ⟨ns, ⟨t', e, ht⟩, hn, hb⟩ := hx _ hm
    cases e
    exact ⟨ns, tupI_raw J ht, hn, hb⟩
  refine SrtO.sorted_ord (SLs.swo_rank fun v => TS.code B (TS.intsOf s.heap v)) hl.isList (by rw [← rq.length]; exact hz) (fun h2 h₁ b hb kk => ?_) fun out hs1 hb1 => ?_
  · refine SLs.tups_any (s := { s with heap := h₁ }) hd h2 (raw.keeps fun b o e _ => (kk b o e).2) _ (fun v hv ns t => ?_) fun o e => ?_
    · obtain ⟨ms, t2, _⟩ := raw v hv
      rw [t2.ints, ← t.ints, (t2.keeps fun b o e _ => (kk b o e).2).ints]
    · have e' : some o = some (seqObj "list" its.toArray 0) := e.symm.trans hb
      cases e'
      intro c
      exact absurd (Value.type.inj c) (by decide)
  · obtain ⟨n, hn⟩ := sortedAll_at s.heap its out.toArray
    have h3 : ∀ u ∈ out, ∃ a, u = Value.ref a := fun u hu => e2 u (hb1.perm.mem_iff.mp hu)
    have pm : (out.map bkV).Perm xs := by
      rw [e1]
      exact hb1.perm.map bkV
    have hlen : (out.map bkV).length ≤ sizeLine := by
      rw [pm.length_eq]
      exact hz
    refine ⟨.ref _, upd H (s.heap.objs.size + 1) (.lst (out.map bkV)), J.laid (t' := s.toks) (fun _ _ => sortedAll_old) (Nat.le_succ _) ⟨hlen, out, n, bkV_vals h3, hn⟩, rfl, q _ _ pm ?_ (J.hok.fresh (Nat.le_succ _))⟩
    rw [List.pairwise_map]
    refine List.Pairwise.imp (fun {u v} huv n m k1 k2 => ?_) hs1
    obtain ⟨t, et, ht⟩ := k1
    obtain ⟨t', et', ht'⟩ := k2
    have i1 := (tupI_raw J ht).ints
    have i2 := (tupI_raw J ht').ints
    rw [← bkV_ref et] at i1
    rw [← bkV_ref et'] at i2
    have z := of_decide_eq_false huv
    rw [i1, i2] at z
    omega
end
end SL

/-! # (x,) * n for n = 1 and n <= 0 (for n >= 2 the library has it) -/
namespace SLm
open PySem PySem.Spec PyProof.Rows L2
/-- times one: the tuple itself -/
theorem tup_one (l : Addr) (items : Array Value) (n : Nat) (dd : Option Addr) (sl : Array (Option Value)) (u : Tok) :
    Meets (Builtin.«tuple.__mul__» ⟨[.ref l, .int 1 u], []⟩) (fun _ R s => s.heap.get? l = some { cls := .type "tuple", dict := dd, data := .seq items n, slots := sl } ∧ R (.ok (.ret (Value.ref l))) s) :=
  .of_wp fun prog w A R s h => by
    obtain ⟨hp, g, d, tk, os⟩ := s
    obtain ⟨hl, h⟩ := h
    have f1 := AutoSeq1.idx_int
    have c1 : (items.isEmpty || (1 : Int) == 1) = true := by simp
    wp_walk using wpAny_loadPart' hl
    repeat (first
      | (refine wpAny_ite_false (decide_eq_false (by decide)) ?_; wp_walk using wpAny_loadPart' hl)
      | (refine wpAny_ite_true (decide_eq_true (by exact c1)) ?_; wp_walk using wpAny_loadPart' hl))
    exact ⟨_, rfl, h⟩
/-- times nothing: a new empty tuple -/
theorem tup_none (l : Addr) (items : Array Value) (n : Nat) (dd : Option Addr) (sl : Array (Option Value)) (x : Int) (u : Tok) (c0 : (decide (x < -(2 ^ 63)) || decide (x ≥ 2 ^ 63)) = false) (c1 : x ≤ 0) (c3 : items.isEmpty = false) :
    Meets (Builtin.«tuple.__mul__» ⟨[.ref l, .int x u], []⟩) (fun _ R s => s.heap.get? l = some { cls := .type "tuple", dict := dd, data := .seq items n, slots := sl } ∧
      R (.ok (.ret (Value.ref s.heap.objs.size))) { s with heap := s.heap.push { cls := Value.type "tuple", data := Data.seq #[] }, toks := s.toks }) :=
  .of_wp fun prog w A R s h => by
    obtain ⟨hp, g, d, tk, os⟩ := s
    obtain ⟨hl, h⟩ := h
    have f1 := AutoSeq1.idx_int
    have k1 : (items.isEmpty || x == 1) = false := by
      rw [c3, Bool.false_or]
      exact beq_eq_false_iff_ne.mpr (by omega)
    have k2 : (decide (x ≤ 0) || items.isEmpty) = true := by
      rw [decide_eq_true c1]; rfl
    wp_walk using wpAny_loadPart' hl
    repeat (first
      | (refine wpAny_ite_false (decide_eq_false (by rw [c0]; exact Bool.false_ne_true)) ?_; wp_walk using wpAny_loadPart' hl)
      | (refine wpAny_ite_false (decide_eq_false (by rw [k1]; exact Bool.false_ne_true)) ?_; wp_walk using wpAny_loadPart' hl)
      | (refine wpAny_ite_true (decide_eq_true (by exact k2)) ?_; wp_walk using wpAny_loadPart' hl))
    exact ⟨_, rfl, h⟩
end SLm
namespace SL
open PySem PySem.Spec PyProof.Rows L2
def rRepFew (K : PySem.W.Frag) : R2 := fun x y H Q => ∃ l k xs, x = .ref l ∧ y = .int k ∧ SqT K H l xs ∧ xs ≠ [] ∧ -1000 ≤ k ∧ k ≤ 1 ∧ (k = 1 → Q (.ref l) H) ∧ (k ≤ 0 → ∀ p, H p = none → Q (.ref p) (upd H p (.tup [])))
section
variable {X : Cx}
theorem op_repFew : OpR X (binaryOp .Mult) (rRepFew X.K) := by
  intro pins s σ H x y v u Q J rx ry hq
  obtain ⟨l, k, xs, rfl, rfl, hT, hne, b1, b2, q1, q0⟩ := hq
  cases rx
  obtain ⟨t, rfl⟩ := ry
  obtain ⟨its, r, ⟨⟨cls, dd, data, sl⟩, ho, hc, n, hd⟩, hs⟩ := J.tuple hT
  simp only at hc hd
  subst hc hd
  have em : its.toArray.isEmpty = false := by
    cases its with
    | nil => exact absurd (List.eq_nil_of_length_eq_zero r.length) hne
    | cons a b => rfl
  have rest : ∀ (R : Value → Shared → Prop), (call (.builtin "tuple.__mul__") [.ref l, .int k t] |> fun m => wpAny (model X.prog X.w) X.A m R X.xe s) → wpAny (model X.prog X.w) X.A (binaryOp .Mult (.ref l) (.int k t)) R X.xe s := fun R hm =>
    wpAny_binaryOp_repeat_ref (T := "tuple") (U := "int") (by decide) ⟨_, ho, rfl⟩ (fun s' => typeIs_int s' k t) noFill_tuple_mul F.fills_int_mul F.slot_int_rmul repeat_tuple F.slot_int_index.lookup
      (call_meets F.slot_int_rmul (typeIs_int s k t) F.entry_int_rmul (F.args_int_rmul_2 _ _) (int_rmul_tuple k t l its.toArray n dd sl) ⟨ho, rfl, ⟨_, ho, rfl⟩, hm⟩)
  refine rest _ ?_
  by_cases h1 : k = 1
  · subst h1
    exact call_meets F.slot_tuple_mul ⟨_, ho, rfl⟩ F.entry_tuple_mul (F.args_tuple_mul_2 _ _) (SLm.tup_one l its.toArray n dd sl t) ⟨ho, .ref l, H, J, rfl, q1 rfl⟩
  · have h0 : k ≤ 0 := by omega
    have c0 : (decide (k < -(2 ^ 63)) || decide (k ≥ 2 ^ 63)) = false := by
      rw [decide_eq_false (by omega), decide_eq_false (by omega)] <;> rfl
    refine call_meets F.slot_tuple_mul ⟨_, ho, rfl⟩ F.entry_tuple_mul (F.args_tuple_mul_2 _ _) (SLm.tup_none l its.toArray n dd sl k t c0 h0 em) ⟨ho, ?_⟩
    refine ⟨.ref s.heap.objs.size, _, J.laid (t' := s.toks) (o := .tup []) (fun b ob q => Heap.get?_push_of_some _ q) (Nat.le_refl _) ?_, rfl, q0 h0 _ (J.hok.fresh (Nat.le_refl _))⟩
    exact ⟨Nat.zero_le _, [], .nil, IsTup.new _ _⟩
/-- ints; a tuple so many times -/
noncomputable def oMulX : Op2 := fun x y st => match x, y with
  | .tup ws, .int k => if ws = [] then .bad else if dec (-1000 ≤ k ∧ k ≤ 1000 ∧ ws.length ≤ 1000) = true then .ok (.tup (List.replicate k.toNat ws).flatten) st else .bad
  | x, y => oMul x y st
def rMulX (K : PySem.W.Frag) : R2 := fun x y H Q => rMulAll x y H Q ∨ rRepT K x y H Q ∨ rRepFew K x y H Q
theorem or_mulX : OpR X (binaryOp .Mult) (rMulX X.K) := or_mul.or (op_repT.or op_repFew)
theorem reps_rep {K : PySem.W.Frag} {mg : Str → Option Value} {F : Hp} {μ : List Addr} {ws : List W} {vs : List V} (r : Reps K mg F μ ws vs) : ∀ m : Nat, Reps K mg F μ (List.replicate m ws).flatten (List.replicate m vs).flatten
  | 0 => .nil
  | m + 1 => by
    rw [List.replicate_succ, List.replicate_succ, List.flatten_cons, List.flatten_cons]
    exact r.append (reps_rep r m)
theorem os_mulX : Op2S X oMulX (rMulX X.K) := by
  intro Wx hid μ st σ H Q w u x y k rx ry P
  unfold oMulX at P
  split at P
  · rename_i ws m
    cases rep_int_inv ry
    split at P
    · exact P.elim
    · rename_i hne
      split at P
      · rename_i hg
        obtain ⟨g1, g2, g3⟩ := dec_of hg
        obtain ⟨a, vs, rfl, h1, h2⟩ := rep_tup_inv rx
        have hl := h2.length
        have hv : vs ≠ [] := fun z => by
          rw [z] at hl
          exact hne (List.eq_nil_of_length_eq_zero hl)
        by_cases hm : 2 ≤ m
        · exact .inr (.inl ⟨a, m, vs, rfl, rfl, h1.fz, hv, hm, g2, by rw [← hl]; exact g3, fun p hp => ok_new P k hp fun F l e => rep_tup e (reps_rep (h2.mono l (.refl _)) _)⟩)
        · refine .inr (.inr ⟨a, m, vs, rfl, rfl, h1.fz, hv, g1, by omega, fun e => ?_, fun e p hp => ?_⟩)
          · subst e
            have z : (List.replicate (1 : Int).toNat ws).flatten = ws := by simp
            rw [z] at P
            exact P μ H _ k .refl rx
          · have z : (List.replicate m.toNat ws).flatten = [] := by
              have : m.toNat = 0 := by omega
              rw [this]; rfl
            rw [z] at P
            exact ok_new P k hp fun F l e => rep_tup e .nil
      · exact P.elim
  · exact .inl (os_mul _ hid μ st σ H Q _ _ _ _ k rx ry P)
/-! ## sorted -/
def tupsI : List W → Option (List (List Int))
  | [] => some []
  | .tup ws :: r => match intsW ws, tupsI r with
    | some n, some l => some (n :: l)
    | _, _ => none
  | _ => none
def lexLt : List Int → List Int → Bool
  | [], [] => false
  | [], _ :: _ => true
  | _ :: _, [] => false
  | a :: l, b :: m => if a = b then lexLt l m else decide (a < b)
def sortT (L : List (List Int)) : List (List Int) := L.mergeSort fun a b => !lexLt b a
noncomputable def oSortT : OpN := fun ws st => match ws with
  | [x] => match (lstW st x).bind tupsI with
    | some L => if dec (∃ (d : Nat) (B : Int), 1 ≤ d ∧ ∀ l ∈ L, l.length = d ∧ TS.Bd B l) = true then .ok (.lst ((sortT L).map fun l => .tup (l.map .int))) st else .bad
    | none => .bad
  | _ => .bad
theorem lex_code {B : Int} : ∀ {a b : List Int}, a.length = b.length → TS.Bd B a → TS.Bd B b → lexLt a b = decide (TS.code B a < TS.code B b)
  | [], [], _, _, _ => (decide_eq_false (Int.lt_irrefl _)).symm
  | [], _ :: _, h, _, _ => by simp at h
  | _ :: _, [], h, _, _ => by simp at h
  | p :: l, q :: m, h, h1, h2 => by
    have hl : l.length = m.length := by simpa using h
    unfold lexLt
    by_cases e : p = q
    · subst e
      rw [if_pos rfl, lex_code hl h1.tail h2.tail]
      exact decide_eq_decide.mpr (TS.code_same hl).symm
    · rw [if_neg e]
      refine decide_eq_decide.mpr ⟨fun x => TS.code_lt hl h1.tail h2.tail x, fun x => ?_⟩
      rcases Int.lt_trichotomy p q with y | y | y
      · exact y
      · exact absurd y e
      · have := TS.code_lt hl.symm h2.tail h1.tail y
        omega
theorem lex_tri : ∀ {a b : List Int}, a.length = b.length → lexLt a b = false → lexLt b a = false → a = b
  | [], [], _, _, _ => rfl
  | [], _ :: _, h, _, _ => by simp at h
  | _ :: _, [], h, _, _ => by simp at h
  | p :: l, q :: m, h, h1, h2 => by
    unfold lexLt at h1 h2
    by_cases e : p = q
    · subst e
      rw [if_pos rfl] at h1 h2
      rw [lex_tri (by simpa using h) h1 h2]
    · rw [if_neg e] at h1
      rw [if_neg (Ne.symm e)] at h2
      have a := of_decide_eq_false h1
      have b := of_decide_eq_false h2
      exact absurd (by omega) e
theorem lex_asym : ∀ (a b : List Int), lexLt a b = false ∨ lexLt b a = false
  | [], [] => .inl rfl
  | [], _ :: _ => .inr rfl
  | _ :: _, [] => .inl rfl
  | p :: l, q :: m => by
    unfold lexLt
    by_cases e : p = q
    · subst e
      rw [if_pos rfl, if_pos rfl]
      exact lex_asym l m
    · rw [if_neg e, if_neg (Ne.symm e)]
      rcases Int.lt_or_gt_of_ne e with h | h
      · exact .inr (decide_eq_false (by omega))
      · exact .inl (decide_eq_false (by omega))
theorem lex_trans : ∀ (a b c : List Int), lexLt b a = false → lexLt c b = false → lexLt c a = false
  | [], b, [], _, _ => rfl
  | [], [], _ :: _, _, _ => rfl
  | [], _ :: _, _ :: _, _, _ => rfl
  | _ :: _, [], _, h, _ => by unfold lexLt at h; cases h
  | _ :: _, _ :: _, [], _, h => by unfold lexLt at h; cases h
  | p :: l, q :: m, r :: n, h1, h2 => by
    unfold lexLt at h1 h2 ⊢
    by_cases e1 : q = p
    · subst e1
      rw [if_pos rfl] at h1
      by_cases e2 : r = q
      · subst e2
        rw [if_pos rfl] at h2 ⊢
        exact lex_trans l m n h1 h2
      · rw [if_neg e2] at h2 ⊢
        exact h2
    · rw [if_neg e1] at h1
      have a := of_decide_eq_false h1
      by_cases e2 : r = q
      · subst e2
        rw [if_neg e1]
        exact h1
      · rw [if_neg e2] at h2
        have b := of_decide_eq_false h2
        rw [if_neg (by omega)]
        exact decide_eq_false (by omega)
/-- there is one sorted order -/
theorem one_order {α : Type} {R : α → α → Prop} : ∀ {l m : List α}, l.Perm m → l.Pairwise R → m.Pairwise R → (∀ a ∈ l, ∀ b ∈ l, R a b → R b a → a = b) → l = m
  | [], m, p, _, _, _ => by rw [p.symm.eq_nil]
  | a :: l, [], p, _, _, _ => by exact absurd p.eq_nil (by simp)
  | a :: l, b :: m, p, h1, h2, h => by
    have ha : a ∈ b :: m := p.mem_iff.mp List.mem_cons_self
    have hb : b ∈ a :: l := p.mem_iff.mpr List.mem_cons_self
    have e : a = b := by
      rcases List.mem_cons.mp ha with e | ha'
      · exact e
      · rcases List.mem_cons.mp hb with e | hb'
        · exact e.symm
        · exact h a List.mem_cons_self b hb ((List.pairwise_cons.mp h1).1 b hb') ((List.pairwise_cons.mp h2).1 a ha')
    subst e
    rw [one_order (List.Perm.cons_inv p) (List.pairwise_cons.mp h1).2 (List.pairwise_cons.mp h2).2 fun x hx y hy => h x (List.mem_cons_of_mem _ hx) y (List.mem_cons_of_mem _ hy)]
end
end SL

namespace SL
open PySem PySem.Spec PyProof.Rows L2
/-! ## sorted, sound -/
section
variable {K : PySem.W.Frag} {mg : Str → Option Value} {F : Hp} {μ : List Addr}
def tupOf (l : List Int) : W := .tup (l.map .int)
theorem intsW_eq : ∀ {ws : List W} {ns : List Int}, intsW ws = some ns → ws = ns.map .int
  | [], ns, h => by unfold intsW at h; cases h; rfl
  | .int b :: ws, ns, h => by
    unfold intsW at h
    cases e : intsW ws with
    | none => rw [e] at h; cases h
    | some ms => rw [e] at h; cases h; rw [intsW_eq e]; rfl
  | .non :: _, _, h | .ty _ :: _, _, h | .bl _ :: _, _, h | .str _ :: _, _, h | .tup _ :: _, _, h | .lst _ :: _, _, h | .dct _ _ :: _, _, h | .ins _ _ _ :: _, _, h | .cell _ :: _, _, h | .ro _ :: _, _, h | .tpn _ :: _, _, h | .cls _ :: _, _, h => by unfold intsW at h; cases h
theorem tupsI_eq : ∀ {ws : List W} {L : List (List Int)}, tupsI ws = some L → ws = L.map tupOf
  | [], L, h => by unfold tupsI at h; cases h; rfl
  | .tup us :: ws, L, h => by
    unfold tupsI at h
    cases e1 : intsW us with
    | none => rw [e1] at h; cases h
    | some n =>
      cases e2 : tupsI ws with
      | none => rw [e1, e2] at h; cases h
      | some l =>
        rw [e1, e2] at h; cases h
        rw [intsW_eq e1, tupsI_eq e2]; rfl
  | .non :: _, _, h | .ty _ :: _, _, h | .bl _ :: _, _, h | .str _ :: _, _, h | .int _ :: _, _, h | .lst _ :: _, _, h | .dct _ _ :: _, _, h | .ins _ _ _ :: _, _, h | .cell _ :: _, _, h | .ro _ :: _, _, h | .tpn _ :: _, _, h | .cls _ :: _, _, h => by unfold tupsI at h; cases h
theorem reps_ints : ∀ {ns : List Int} {vs : List V}, Reps K mg F μ (ns.map .int) vs → vs = ns.map .int
  | [], vs, h => by rw [List.map_nil, Reps.nil_iff] at h; exact h
  | n :: ns, vs, h => by
    obtain ⟨v, t, rfl, h1, h2⟩ := h.cons_inv
    rw [rep_int_inv h1, reps_ints h2]; rfl
/-- another order of the values: another order of what they stand for -/
theorem reps_perm {α : Type} {f : α → W} {xs ys : List V} (p : ys.Perm xs) : ∀ {L : List α}, Reps K mg F μ (L.map f) xs → ∃ M : List α, M.Perm L ∧ Reps K mg F μ (M.map f) ys := by
  induction p with
  | nil => intro L r; exact ⟨L, .refl _, r⟩
  | cons x _ ih =>
    intro L r
    cases L with
    | nil => rw [List.map_nil, Reps.nil_iff] at r; cases r
    | cons a L =>
      obtain ⟨v, t, e, h1, h2⟩ := r.cons_inv
      cases e
      obtain ⟨M, h3, h4⟩ := ih h2
      exact ⟨a :: M, h3.cons a, .cons h1 h4⟩
  | swap x y l =>
    intro L r
    match L, r with
    | [], r => rw [List.map_nil, Reps.nil_iff] at r; cases r
    | [a], r =>
      obtain ⟨v, t, e, h1, h2⟩ := r.cons_inv
      cases e
      rw [List.map_nil, Reps.nil_iff] at h2; cases h2
    | a :: b :: L, r =>
      obtain ⟨v, t, e, h1, h2⟩ := r.cons_inv
      cases e
      obtain ⟨v2, t2, e2, h3, h4⟩ := h2.cons_inv
      cases e2
      exact ⟨b :: a :: L, .swap a b L, .cons h3 (.cons h1 h4)⟩
  | trans _ _ ih1 ih2 =>
    intro L r
    obtain ⟨M, h1, h2⟩ := ih2 r
    obtain ⟨N, h3, h4⟩ := ih1 h2
    exact ⟨N, h3.trans h1, h4⟩
theorem pair_of {α : Type} {f : α → W} {R : V → V → Prop} {S : α → α → Prop} {ys : List V} (hp : ys.Pairwise R) : ∀ {M : List α}, Reps K mg F μ (M.map f) ys → (∀ a ∈ M, ∀ b ∈ M, ∀ v u, Rep K mg F μ (f a) v → Rep K mg F μ (f b) u → R v u → S a b) → M.Pairwise S := by
  induction hp with
  | nil =>
    intro M r _
    cases M with
    | nil => exact .nil
    | cons a M => have := r.length; simp at this
  | @cons v ys h _ ih =>
    intro M r hs
    cases M with
    | nil => have := r.length; simp at this
    | cons a M =>
      obtain ⟨v', t, e, h1, h2⟩ := r.cons_inv
      cases e
      refine .cons (fun b hb => ?_) (ih h2 fun a ha b hb => hs a (List.mem_cons_of_mem _ ha) b (List.mem_cons_of_mem _ hb))
      obtain ⟨i, hi, rfl⟩ := List.mem_iff_getElem.mp hb
      obtain ⟨u, e1, e2⟩ := h2.get (i := i) (w := f M[i]) (by simp [hi])
      exact hs a List.mem_cons_self _ (List.mem_cons_of_mem _ (List.getElem_mem hi)) v u h1 e2 (h u (List.mem_of_getElem? e1))
end
section
variable {X : Cx}
theorem tup_I {K : PySem.W.Frag} {mg : Str → Option Value} {H : Hp} {hid μ : List Addr} {st : Sto} {l : List Int} {v : V} (r : Rep K mg (Fz μ st hid H) μ (tupOf l) v) : TupI K H v l := by
  obtain ⟨a, vs, rfl, h1, h2⟩ := rep_tup_inv r
  rw [reps_ints h2] at h1
  exact ⟨a, rfl, h1.fz⟩
theorem os_sortT : OpNS X oSortT (rSortAny X.K) := by
  intro Wx hid μ st σ H Q ws vs k r P
  unfold oSortT at P
  split at P
  · rename_i x
    obtain ⟨v, rfl, r1⟩ := reps1 (ws := []) r
    split at P
    · rename_i L e
      split at P
      · rename_i hg
        obtain ⟨d, B, hd, hL⟩ := dec_of hg
        cases e1 : lstW st x with
        | none => rw [e1] at e; cases e
        | some us =>
          rw [e1] at e
          obtain ⟨a, xs, rfl, h1, h2⟩ := lstW_at k e1 r1
          rw [tupsI_eq e] at h2
          refine ⟨a, xs, d, B, rfl, h1, hd, fun y hy => ?_, fun ys p pm sr hp => ?_⟩
          · obtain ⟨i, hi⟩ := List.getElem?_of_mem hy
            obtain ⟨w, g1, g2⟩ := h2.get' hi
            rw [List.getElem?_map] at g1
            obtain ⟨l, g3, rfl⟩ := Option.map_eq_some_iff.mp g1
            exact ⟨l, tup_I g2, hL l (List.mem_of_getElem? g3)⟩
          · obtain ⟨M, pM, rM⟩ := reps_perm pm h2
            have hM : ∀ l ∈ M, l.length = d ∧ TS.Bd B l := fun l hl => hL l (pM.mem_iff.mp hl)
            have s1 : M.Pairwise fun a b => (!lexLt b a) = true := pair_of sr rM fun a ha b hb v u hv hu hc => by
              have z := hc a b (tup_I hv) (tup_I hu)
              rw [lex_code (by rw [(hM a ha).1, (hM b hb).1]) (hM b hb).2 (hM a ha).2]
              simp
              omega
            have s2 : (sortT L).Pairwise fun a b => (!lexLt b a) = true := by
              refine List.pairwise_mergeSort (le := fun a b => !lexLt b a) (fun a b c h1 h2 => ?_) (fun a b => ?_) L
              · simp at h1 h2 ⊢
                exact lex_trans a b c h1 h2
              · rcases lex_asym a b with h | h <;> simp [h]
            have e2 : M = sortT L := one_order (pM.trans (List.mergeSort_perm L _).symm) s1 s2 fun a ha b hb h1 h2 => lex_tri (by rw [(hM a ha).1, (hM b hb).1]) (by simpa using h2) (by simpa using h1)
            rw [e2] at rM
            exact ok_new P k hp fun F l e => rep_lst e (rM.mono l (.refl _))
      · exact P.elim
    · exact P.elim
  · exact P.elim
end
end SL

/-! # sum of a tuple of ints -/
namespace SLt
open PySem PySem.Spec PyProof.Rows
section
variable {prog : Program} {w : World} {A : Around} {E : Value → Shared → Prop} {s : Shared}
theorem sum_tup {t : Addr} {its : List Value} {ns : List Int} {Q : Value → Shared → Prop} (hh : A.handled = none) (ht : s.heap.IsTuple t its.toArray) (hi : IntsAre its ns)
    (h : ∀ h' tk t', (∀ b o, s.heap.get? b = some o → h'.get? b = some o) → Q (.int ns.sum t') { s with heap := h', toks := tk }) : wpAny (model prog w) A (call (.builtin "sum") [.ref t]) Q E s := by
  obtain ⟨xs, e⟩ := hi.allInts.items
  have hn : numsOf (intItems xs).toList = ns := by rw [← e]; exact hi.numsOf
  rw [nums_intItems] at hn
  rw [e] at ht
  have hlt : t < s.heap.objs.size := by obtain ⟨_, q, _⟩ := ht; exact Heap.lt_size q
  refine call_sum_walkG (wpAny_pyIter_tuple ht ?_)
  refine ⟨_, _, _, _, _, _, numAt xs, rfl, Walks.tuple (A := A.in1) hh s.heap.objs.size t (Nat.ne_of_lt hlt) (intItems xs), ⟨⟨_, Heap.get?_push_size _ rfl, rfl, rfl⟩, ht.at fun o q => Heap.get?_push_of_some _ q⟩, fun b hb => ?_, (fun _ _ => intItems_at), fun h' tk t' hk => ?_⟩
  · show b < (s.heap.push _).objs.size
    rw [Heap.size_push]
    rcases List.mem_cons.mp hb with rfl | hb
    · exact Nat.lt_succ_self _
    · rcases List.mem_cons.mp hb with rfl | hb
      · exact Nat.lt_succ_of_lt hlt
      · cases hb
  · have q := h h' tk t' fun b o eb => hk b o (fun z => by
      rcases List.mem_cons.mp z with rfl | z
      · exact Nat.lt_irrefl _ (Heap.lt_size eb)
      · cases z) (Heap.get?_push_of_some _ eb)
    have z : preSum (numAt xs) (intItems xs).size = ns.sum := by
      rw [preSum_eq, List.take_of_length_le (by simp [intItems]), hn]
    rw [z]
    exact q
end
end SLt
namespace SL
open PySem PySem.Spec PyProof.Rows L2
def rSumT (K : PySem.W.Frag) : List V → Hp → VK → Prop := fun vs H Q => ∃ (a : Addr) (ns : List Int), vs = [V.ref a] ∧ SqT K H a (ns.map V.int) ∧ Q (.int ns.sum) H
section
variable {X : Cx}
theorem cr_sumT (hc : X.calm = true) : CallR X (.builtin "sum") (rSumT X.K) := by
  intro pins s σ H vs us Q J r hq
  obtain ⟨a, ns, rfl, hs, q⟩ := hq
  obtain ⟨its, rr, hT, _⟩ := J.tuple hs
  rw [Vals.ref1 r]
  exact SLt.sum_tup (J.ok.hd hc) hT rr.ints fun h' tk t' hk => ⟨.int _, H, J.kept hk, ⟨_, rfl⟩, q⟩
/-- sum(x), a list or a tuple -/
def oSumX : OpN := fun ws st => match ws with
  | [x] => match (seqW st x).bind intsW with
    | some bs => .ok (.int bs.sum) st
    | none => .bad
  | _ => .bad
theorem os_sumX : OpNS X oSumX (fun vs H Q => rSum X.K vs H Q ∨ rSumT X.K vs H Q) := by
  intro Wx hid μ st σ H Q ws vs k r P
  unfold oSumX at P
  split at P
  · rename_i x
    obtain ⟨v, rfl, r1⟩ := reps1 (ws := []) r
    split at P
    · rename_i bs e
      cases e1 : seqW st x with
      | none => rw [e1] at e; cases e
      | some us =>
        rw [e1] at e
        obtain ⟨a, xs, rfl, h1, h2⟩ := seqW_at k e1 r1
        rw [intsW_eq e] at h2
        rw [reps_ints h2] at h1
        rcases h1 with h1 | h1
        · exact .inl ⟨a, bs, rfl, h1, P μ H _ k .refl rep_int⟩
        · exact .inr ⟨a, bs, rfl, h1, P μ H _ k .refl rep_int⟩
    · exact P.elim
  · exact P.elim
theorem cr_sumX (hc : X.calm = true) : CallR X (.builtin "sum") (fun vs H Q => rSum X.K vs H Q ∨ rSumT X.K vs H Q) := (cr_sum hc).or (cr_sumT hc)
/-! ## list(x), that is to change -/
def oListC : OpN := fun ws st => match ws with
  | [x] => match seqW st x with
    | some us => .ok (.cell st.length) (st ++ [.lst us])
    | none => .bad
  | _ => .bad
theorem os_listC : OpNS X oListC (fun xs H Q => ∃ p ys, xs = [.ref p] ∧ (SqL X.K H p ys ∨ SqT X.K H p ys) ∧ ∀ l, H l = none → Q (.ref l) (upd H l (.lst ys))) := by
  intro Wx hid μ st σ H Q ws vs k r P
  unfold oListC at P
  split at P
  · rename_i x
    obtain ⟨v, rfl, r1⟩ := reps1 (ws := []) r
    split at P
    · rename_i us e
      obtain ⟨a, xs, rfl, h1, h2⟩ := seqW_at k e r1
      refine ⟨a, xs, rfl, h1, fun l hl => ?_⟩
      obtain ⟨k2, g2⟩ := k.newCell (c := .lst us) (o := .lst xs) hl rfl ⟨xs, upd_same, h2.mono (.refl _) ⟨[l], rfl⟩⟩
      refine P _ _ _ k2 g2 ?_
      unfold Rep
      exact ⟨l, by rw [← k.len]; simp, rfl⟩
    · exact P.elim
  · exact P.elim
end
end SL

namespace SL
open PySem PySem.Spec PyProof.Rows L2
/-! # more of lists: extend by a list, pop; max and min -/
section
variable {X : Cx}
def mExtend : OpM := fun x ws st => match x, ws with
  | .cell k, [.lst us] => match st[k]? with
    | some (.lst vs) => if vs.length + us.length ≤ LINE then .ok .non (st.set k (.lst (vs ++ us))) else .bad
    | _ => .bad
  | _, _ => .bad
theorem os_extend : OpMS X mExtend rExtend := by
  intro Wx hid μ st σ H Q w ws x vs k rx rs P
  unfold mExtend at P
  split at P
  · rename_i n us
    obtain ⟨v, rfl, r1⟩ := reps1 (ws := []) rs
    obtain ⟨b, ys, rfl, h1, h2⟩ := rep_lst_inv r1
    split at P
    · rename_i zs e1
      split at P
      · rename_i hz
        obtain ⟨a, rfl, h3, xs, h4, h5⟩ := k.cell e1 rx
        refine ⟨a, b, xs, ys, rfl, rfl, h4, (Fz.sub h1).1, by rw [← h5.length, ← h2.length]; exact le_line hz, ?_⟩
        obtain ⟨k2, g2⟩ := k.setCell (c' := .lst (zs ++ us)) (o := .lst (xs ++ ys)) h3 e1 rfl rfl ⟨_, upd_same, h5.append h2⟩
        exact P μ _ _ k2 g2 rep_non
      · exact P.elim
    · exact P.elim
  · exact P.elim
theorem reps_dropLast {K : PySem.W.Frag} {mg : Str → Option Value} {F : Hp} {μ : List Addr} {ws : List W} {vs : List V} (r : Reps K mg F μ ws vs) : Reps K mg F μ ws.dropLast vs.dropLast := by
  rw [List.dropLast_eq_take, List.dropLast_eq_take, r.length]
  exact r.take _
def mPop : OpM := fun x ws st => match x, ws with
  | .cell k, [] => match st[k]? with
    | some (.lst vs) => match vs[vs.length - 1]? with
      | some u => .ok u (st.set k (.lst vs.dropLast))
      | none => .bad
    | _ => .bad
  | _, _ => .bad
theorem os_pop : OpMS X mPop rPop := by
  intro Wx hid μ st σ H Q w ws x vs k rx rs P
  unfold mPop at P
  split at P
  · rename_i n
    rw [Reps.nil_iff] at rs
    subst rs
    split at P
    · rename_i zs e1
      split at P
      · rename_i u eu
        obtain ⟨a, rfl, h3, xs, h4, h5⟩ := k.cell e1 rx
        obtain ⟨y, ey, ry⟩ := h5.get eu
        refine ⟨a, xs, y, rfl, rfl, h4, by rw [← h5.length]; exact ey, ?_⟩
        obtain ⟨k2, g2⟩ := k.setCell (c' := .lst zs.dropLast) (o := .lst xs.dropLast) h3 e1 rfl rfl ⟨_, upd_same, reps_dropLast h5⟩
        exact P μ _ _ k2 g2 (Rep.mono g2.le g2.pre _ _ ry)
      · exact P.elim
    · exact P.elim
  · exact P.elim
def oMax2 : OpN := fun ws st => match ws with
  | [.int i, .int j] => .ok (.int (if j > i then j else i)) st
  | _ => .bad
def oMin2 : OpN := fun ws st => match ws with
  | [.int i, .int j] => .ok (.int (if j < i then j else i)) st
  | _ => .bad
theorem os_max2 : OpNS X oMax2 (fun xs H Q => ∃ i j, xs = [.int i, .int j] ∧ Q (.int (if j > i then j else i)) H) := by
  intro Wx hid μ st σ H Q ws vs k r P
  unfold oMax2 at P
  split at P
  · obtain ⟨v, y, rfl, r1, r2⟩ := reps2 r
    cases rep_int_inv r1
    cases rep_int_inv r2
    exact ⟨_, _, rfl, P μ H _ k .refl rep_int⟩
  · exact P.elim
theorem os_min2 : OpNS X oMin2 (fun xs H Q => ∃ i j, xs = [.int i, .int j] ∧ Q (.int (if j < i then j else i)) H) := by
  intro Wx hid μ st σ H Q ws vs k r P
  unfold oMin2 at P
  split at P
  · obtain ⟨v, y, rfl, r1, r2⟩ := reps2 r
    cases rep_int_inv r1
    cases rep_int_inv r2
    exact ⟨_, _, rfl, P μ H _ k .refl rep_int⟩
  · exact P.elim
end
end SL

namespace SLx
open PySem PySem.AutoSeq1
theorem ext_tup (l : Addr) (ia : Array Value) (n : Nat) (b : Addr) (ib : Array Value) (m : Nat) (dd : Option Addr) (sl : Array (Option Value)) (c0 : ¬(!ia.isEmpty && Builtin.List.listTooLong (ia.size + ib.size)) = true) (c1 : ia.size ≤ sizeLine) (c2 : ia.size + ib.size ≤ sizeLine + 1) :
    Meets (Builtin.«list.extend» ⟨[.ref l, .ref b], []⟩) (fun _ R s => s.heap.get? l = some { cls := .type "list", dict := none, data := .seq ia n, slots := #[] } ∧ s.heap.get? b = some { cls := .type "tuple", dict := dd, data := .seq ib m, slots := sl } ∧
      R (.ok (.ret Value.none)) { s with heap := s.heap.update l (Obj.mapSeq fun x => x ++ ib), toks := s.toks }) :=
  .of_wp fun prog w A R s h => by
    obtain ⟨hp, g, d, tk, os⟩ := s
    obtain ⟨hl, hb, h⟩ := h
    have f1 := idx_int
    have f2 := sub_tuple_tuple
    have f3 := sub_list_list
    have f4 := sub_tuple_list
    have f5 := sub_list_tuple
    have z2 : (ia ++ ib).size ≤ sizeLine + 1 := by rw [Array.size_append]; exact c2
    wp_walk using (wpAny_updateSeq hl rfl (hz := c1) (_hz' := z2)), wpAny_loadPart' hl, wpAny_loadPart' hb
    exact ⟨_, rfl, h⟩
end SLx
namespace SL
open PySem PySem.Spec PyProof.Rows L2
/-! # extend by a tuple -/
section
variable {X : Cx}
def rExtT (K : PySem.W.Frag) : V → List V → Hp → VK → Prop := fun x vs H Q => ∃ l b xs zs, x = .ref l ∧ vs = [.ref b] ∧ H l = some (.lst xs) ∧ SqT K H b zs ∧ xs.length + zs.length ≤ 1000000 ∧ Q .non (upd H l (.lst (xs ++ zs)))
theorem mt_extT : MtM X "list.extend" (rExtT X.K) := by
  intro pins s σ H x vs v us Q J rx rv hq
  obtain ⟨l, b, xs, zs, rfl, rfl, hH, hB, hz, q⟩ := hq
  cases rx
  obtain ⟨u, rfl, ru⟩ := rv.one
  cases ru
  obtain ⟨z, its, n, r, hl, e⟩ := J.lstM hH
  obtain ⟨its2, r2, ⟨⟨cls, dd, data, sl⟩, ho, hc, n2, hd⟩, hs⟩ := J.tuple hB
  simp only at hc hd
  subst hc hd
  have l1 : its.length = xs.length := r.length.symm
  have l2 : its2.length = zs.length := r2.length.symm
  have sz : its.toArray.size + its2.toArray.size ≤ sizeLine := by rw [List.size_toArray, List.size_toArray, sizeLine_eq]; omega
  have lg : ¬ (!its.toArray.isEmpty && Builtin.List.listTooLong (its.toArray.size + its2.toArray.size)) = true := by
    rw [notLongL sz, Bool.and_false]
    exact Bool.false_ne_true
  refine call_meets F.slot_list_extend ⟨_, e, rfl⟩ F.entry_list_extend (F.args_list_extend_2 _ _) (SLx.ext_tup l its.toArray n b its2.toArray n2 dd sl lg (by omega) (by omega)) ⟨e, ho, ?_⟩
  refine ⟨.non, _, J.lset (its' := its ++ its2) hH e (by simp) (r.append r2) ?_, rfl, q⟩
  rw [List.length_append, sizeLine_eq]
  omega
/-- extend by data: a list or a tuple -/
def mExt : OpM := fun x ws st => match x, ws with
  | .cell k, [u] => match st[k]?, tupW st u with
    | some (.lst vs), some us => if vs.length + us.length ≤ 1000000 then .ok .non (st.set k (.lst (vs ++ us))) else .bad
    | some (.lst _), none => mExtend x ws st
    | _, _ => .bad
  | _, _ => .bad
theorem mt_ext : MtM X "list.extend" (fun x vs H Q => rExtend x vs H Q ∨ rExtT X.K x vs H Q) := by
  intro pins s σ H x vs v us Q J rx rv hq
  rcases hq with hq | hq
  · exact mt_extend pins s σ H x vs v us Q J rx rv hq
  · exact mt_extT pins s σ H x vs v us Q J rx rv hq
theorem os_ext : OpMS X mExt (fun x vs H Q => rExtend x vs H Q ∨ rExtT X.K x vs H Q) := by
  intro Wx hid μ st σ H Q w ws x vs k rx rs P
  unfold mExt at P
  split at P
  · rename_i n u
    split at P
    · rename_i zs us e1 e2
      split at P
      · rename_i hz
        obtain ⟨v, rfl, r1⟩ := reps1 (ws := []) rs
        obtain ⟨a, rfl, h3, xs, h4, h5⟩ := k.cell e1 rx
        obtain ⟨b, ys, rfl, h1, h2⟩ := tupW_at k e2 r1
        refine .inr ⟨a, b, xs, ys, rfl, rfl, h4, h1, by rw [← h5.length, ← h2.length]; exact hz, ?_⟩
        obtain ⟨k2, g2⟩ := k.setCell (c' := .lst (zs ++ us)) (o := .lst (xs ++ ys)) h3 e1 rfl rfl ⟨_, upd_same, h5.append h2⟩
        exact P μ _ _ k2 g2 rep_non
      · exact P.elim
    · exact .inl (os_extend Wx hid μ st σ H Q _ _ x vs k rx rs P)
    · exact P.elim
  · exact P.elim
end
end SL

/-! # max, min of a tuple of ints -/
namespace SLt
open PySem PySem.Spec PyProof.Rows
section
variable {prog : Program} {w : World} {A : Around} {E : Value → Shared → Prop} {s : Shared}
theorem iter_tupInts {t : Addr} {xs : Array (Int × Tok)} {Q : Value → Shared → Prop} (ht : s.heap.IsTuple t (intItems xs))
    (h : ∀ s2 : Shared, s2 = { s with heap := s.heap.push { cls := .type "tuple_iterator", data := .fields #[.ref t, .int 0 0] } } → (s2.heap.IsTupleIter s.heap.objs.size t 0 ∧ s2.heap.IsTuple t (intItems xs)) → (∀ b ∈ [s.heap.objs.size, t], b < s2.heap.objs.size) → t ≠ s.heap.objs.size → Q (.ref s.heap.objs.size) s2) :
    wpAny (model prog w) A (pyIter (.ref t)) Q E s := by
  have hlt : t < s.heap.objs.size := by obtain ⟨_, q, _⟩ := ht; exact Heap.lt_size q
  refine wpAny_pyIter_tuple ht (h _ rfl ⟨⟨_, Heap.get?_push_size _ rfl, rfl, rfl⟩, ht.at fun o q => Heap.get?_push_of_some _ q⟩ (fun b hb => ?_) (Nat.ne_of_lt hlt))
  show b < (s.heap.push _).objs.size
  rw [Heap.size_push]
  rcases List.mem_cons.mp hb with e | hb
  · subst e; exact Nat.lt_succ_self _
  · rcases List.mem_cons.mp hb with e | hb
    · subst e; exact Nat.lt_succ_of_lt hlt
    · cases hb
theorem max_tup {t : Addr} {its : List Value} {ns : List Int} {Q : Value → Shared → Prop} (hh : A.handled = none) (ht : s.heap.IsTuple t its.toArray) (hi : IntsAre its ns) (hne : 0 < ns.length)
    (h : ∀ h' tk M t', (∀ b o, s.heap.get? b = some o → h'.get? b = some o) → M ∈ ns → (∀ a, a ∈ ns → a ≤ M) → Q (.int M t') { s with heap := h', toks := tk }) : wpAny (model prog w) A (call (.builtin "max") [.ref t]) Q E s := by
  obtain ⟨xs, e⟩ := hi.allInts.items
  have en : numsOf (intItems xs).toList = ns := by rw [← e]; exact hi.numsOf
  rw [nums_intItems] at en
  subst en
  rw [e] at ht
  have hsz : 0 < xs.size := by simpa using hne
  refine call_max_walk (iter_tupInts ht fun s2 e2 st hfp hlI => ?_)
  subst e2
  refine ⟨_, _, _, _, _, _, _, rfl, Walks.tuple (A := A.in1) hh _ t hlI (intItems xs), st, hfp, by simpa [intItems] using hsz, CmpOf.ints_gt (numAt xs) (fun _ _ => intItems_at), fun v h' tk hP hk => ?_⟩
  have hv : (intItems xs)[argBest (fun i j => decide (numAt xs i > numAt xs j)) (xs.size - 1)]? = some v := by simpa [intItems] using hP
  obtain ⟨u, rfl⟩ := intItems_at hv
  obtain ⟨g1, g2⟩ := argBest_gt (numAt xs) (xs.size - 1)
  refine h h' tk _ u (fun b o eb => hk b o (fun z => by
    rcases List.mem_cons.mp z with z | z
    · subst z; exact Nat.lt_irrefl _ (Heap.lt_size eb)
    · cases z) (Heap.get?_push_of_some _ eb)) ?_ fun a ha => ?_
  · rw [numAt_eq]; exact PySem.getD_mem (by rw [List.length_map, Array.length_toList]; omega)
  · obtain ⟨j, hj, rfl⟩ := mem_getD ha
    rw [List.length_map, Array.length_toList] at hj
    rw [← numAt_eq]; exact g2 j (by omega)
theorem min_tup {t : Addr} {its : List Value} {ns : List Int} {Q : Value → Shared → Prop} (hh : A.handled = none) (ht : s.heap.IsTuple t its.toArray) (hi : IntsAre its ns) (hne : 0 < ns.length)
    (h : ∀ h' tk M t', (∀ b o, s.heap.get? b = some o → h'.get? b = some o) → M ∈ ns → (∀ a, a ∈ ns → M ≤ a) → Q (.int M t') { s with heap := h', toks := tk }) : wpAny (model prog w) A (call (.builtin "min") [.ref t]) Q E s := by
  obtain ⟨xs, e⟩ := hi.allInts.items
  have en : numsOf (intItems xs).toList = ns := by rw [← e]; exact hi.numsOf
  rw [nums_intItems] at en
  subst en
  rw [e] at ht
  have hsz : 0 < xs.size := by simpa using hne
  refine call_min_walk (iter_tupInts ht fun s2 e2 st hfp hlI => ?_)
  subst e2
  refine ⟨_, _, _, _, _, _, _, rfl, Walks.tuple (A := A.in1) hh _ t hlI (intItems xs), st, hfp, by simpa [intItems] using hsz, CmpOf.ints_lt (numAt xs) (fun _ _ => intItems_at), fun v h' tk hP hk => ?_⟩
  have hv : (intItems xs)[argBest (fun i j => decide (numAt xs i < numAt xs j)) (xs.size - 1)]? = some v := by simpa [intItems] using hP
  obtain ⟨u, rfl⟩ := intItems_at hv
  obtain ⟨g1, g2⟩ := argBest_lt (numAt xs) (xs.size - 1)
  refine h h' tk _ u (fun b o eb => hk b o (fun z => by
    rcases List.mem_cons.mp z with z | z
    · subst z; exact Nat.lt_irrefl _ (Heap.lt_size eb)
    · cases z) (Heap.get?_push_of_some _ eb)) ?_ fun a ha => ?_
  · rw [numAt_eq]; exact PySem.getD_mem (by rw [List.length_map, Array.length_toList]; omega)
  · obtain ⟨j, hj, rfl⟩ := mem_getD ha
    rw [List.length_map, Array.length_toList] at hj
    rw [← numAt_eq]; exact g2 j (by omega)
end
end SLt
namespace SL
open PySem PySem.Spec PyProof.Rows L2
section
variable {X : Cx}
def rMaxT (K : PySem.W.Frag) : List V → Hp → VK → Prop := fun vs H Q => ∃ (a : Addr) (ns : List Int), vs = [V.ref a] ∧ SqT K H a (ns.map V.int) ∧ 0 < ns.length ∧ ∀ m, m ∈ ns → (∀ y, y ∈ ns → y ≤ m) → Q (.int m) H
def rMinT (K : PySem.W.Frag) : List V → Hp → VK → Prop := fun vs H Q => ∃ (a : Addr) (ns : List Int), vs = [V.ref a] ∧ SqT K H a (ns.map V.int) ∧ 0 < ns.length ∧ ∀ m, m ∈ ns → (∀ y, y ∈ ns → m ≤ y) → Q (.int m) H
theorem cr_maxT (hc : X.calm = true) : CallR X (.builtin "max") (rMaxT X.K) := by
  intro pins s σ H vs us Q J r hq
  obtain ⟨a, ns, rfl, hs, hne, q⟩ := hq
  obtain ⟨its, rr, hT, _⟩ := J.tuple hs
  rw [Vals.ref1 r]
  exact SLt.max_tup (J.ok.hd hc) hT rr.ints hne fun h' tk m t' hk g1 g2 => ⟨.int _, H, J.kept hk, ⟨_, rfl⟩, q m g1 g2⟩
theorem cr_minT (hc : X.calm = true) : CallR X (.builtin "min") (rMinT X.K) := by
  intro pins s σ H vs us Q J r hq
  obtain ⟨a, ns, rfl, hs, hne, q⟩ := hq
  obtain ⟨its, rr, hT, _⟩ := J.tuple hs
  rw [Vals.ref1 r]
  exact SLt.min_tup (J.ok.hd hc) hT rr.ints hne fun h' tk m t' hk g1 g2 => ⟨.int _, H, J.kept hk, ⟨_, rfl⟩, q m g1 g2⟩
/-- the greatest, the least of a row of ints -/
def bestI (p : Int → Int → Bool) : List Int → Option Int
  | [] => none
  | a :: l => match bestI p l with
    | none => some a
    | some b => some (if p a b then a else b)
theorem best_max : ∀ {l : List Int} {m : Int}, bestI (fun a b => decide (b ≤ a)) l = some m → ∀ n ∈ l, (∀ y ∈ l, y ≤ n) → n = m
  | [], m, h, n, hn, _ => nomatch hn
  | a :: l, m, h, n, hn, hy => by
    unfold bestI at h
    cases e : bestI (fun a b => decide (b ≤ a)) l with
    | none =>
      rw [e] at h
      cases h
      cases l with
      | nil => exact List.mem_singleton.mp hn
      | cons b l =>
        unfold bestI at e
        split at e <;> cases e
    | some b =>
      rw [e] at h
      have hb : b ∈ l ∧ ∀ y ∈ l, y ≤ b := by
        have q : ∀ {l : List Int} {b : Int}, bestI (fun a b => decide (b ≤ a)) l = some b → b ∈ l ∧ ∀ y ∈ l, y ≤ b := by
          intro l
          induction l with
          | nil => intro b h; cases h
          | cons c l ih =>
            intro b h
            unfold bestI at h
            cases e : bestI (fun a b => decide (b ≤ a)) l with
            | none =>
              rw [e] at h
              cases h
              cases l with
              | nil => exact ⟨List.mem_cons_self, fun y hy => by rw [List.mem_singleton.mp hy]; exact Int.le_refl _⟩
              | cons d l =>
                unfold bestI at e
                split at e <;> cases e
            | some d =>
              rw [e] at h
              obtain ⟨h1, h2⟩ := ih e
              have h' : (if d ≤ c then c else d) = b := by simpa using h
              by_cases z : d ≤ c
              · rw [if_pos z] at h'
                subst h'
                refine ⟨List.mem_cons_self, fun y hy => ?_⟩
                rcases List.mem_cons.mp hy with hy | hy
                · rw [hy]; exact Int.le_refl _
                · exact Int.le_trans (h2 y hy) z
              · rw [if_neg z] at h'
                subst h'
                refine ⟨List.mem_cons_of_mem _ h1, fun y hy => ?_⟩
                rcases List.mem_cons.mp hy with hy | hy
                · rw [hy]; omega
                · exact h2 y hy
        exact q e
      have h' : (if b ≤ a then a else b) = m := by simpa using h
      by_cases z : b ≤ a
      · rw [if_pos z] at h'
        subst h'
        have g1 := hy a List.mem_cons_self
        rcases List.mem_cons.mp hn with e | e
        · exact e
        · have := hb.2 n e; omega
      · rw [if_neg z] at h'
        subst h'
        have g1 := hy b (List.mem_cons_of_mem _ hb.1)
        rcases List.mem_cons.mp hn with e | e
        · subst e; omega
        · have := hb.2 n e; omega
end
end SL

namespace SL
open PySem PySem.Spec PyProof.Rows L2
/-! # max(x), min(x), x a list or a tuple of ints -/
def IsMax (l : List Int) (m : Int) : Prop := m ∈ l ∧ ∀ y ∈ l, y ≤ m
def IsMin (l : List Int) (m : Int) : Prop := m ∈ l ∧ ∀ y ∈ l, m ≤ y
open Classical in
/-- the one that is so, if there is one -/
noncomputable def theOne (p : Int → Prop) : Option Int := if h : ∃ m, p m then some h.choose else none
theorem theOne_ok {p : Int → Prop} {m : Int} (h : theOne p = some m) : p m := by
  unfold theOne at h
  split at h
  · rename_i e
    cases h
    exact e.choose_spec
  · cases h
theorem theOne_is {p : Int → Prop} {m : Int} (h : p m) (u : ∀ k, p k → k = m) : theOne p = some m := by
  unfold theOne
  have e : ∃ m, p m := ⟨m, h⟩
  rw [dif_pos e, u _ e.choose_spec]
theorem max_one {l : List Int} {m k : Int} (h : IsMax l m) (g : IsMax l k) : k = m := by
  have a := h.2 k g.1
  have b := g.2 m h.1
  omega
theorem min_one {l : List Int} {m k : Int} (h : IsMin l m) (g : IsMin l k) : k = m := by
  have a := h.2 k g.1
  have b := g.2 m h.1
  omega
noncomputable def oBestX (P : List Int → Int → Prop) : OpN := fun ws st => match ws with
  | [x] => match (seqW st x).bind intsW with
    | some bs => match theOne (P bs) with
      | some m => .ok (.int m) st
      | none => .bad
    | none => .bad
  | _ => .bad
section
variable {X : Cx}
theorem os_maxX : OpNS X (oBestX IsMax) (fun vs H Q => rMax X.K vs H Q ∨ rMaxT X.K vs H Q) := by
  intro Wx hid μ st σ H Q ws vs k r P
  unfold oBestX at P
  split at P
  · rename_i x
    obtain ⟨v, rfl, r1⟩ := reps1 (ws := []) r
    split at P
    · rename_i bs e
      split at P
      · rename_i m em
        have g := theOne_ok em
        cases e1 : seqW st x with
        | none => rw [e1] at e; cases e
        | some us =>
          rw [e1] at e
          obtain ⟨a, xs, rfl, h1, h2⟩ := seqW_at k e1 r1
          rw [intsW_eq e] at h2
          rw [reps_ints h2] at h1
          have hne : 0 < bs.length := List.length_pos_of_mem g.1
          have fin : ∀ n, n ∈ bs → (∀ y, y ∈ bs → y ≤ n) → Q (.int n) H := fun n n1 n2 => by
            rw [max_one g ⟨n1, n2⟩]
            exact P μ H _ k .refl rep_int
          rcases h1 with h1 | h1
          · exact .inl ⟨a, bs, rfl, h1, hne, fin⟩
          · exact .inr ⟨a, bs, rfl, h1, hne, fin⟩
      · exact P.elim
    · exact P.elim
  · exact P.elim
theorem os_minX : OpNS X (oBestX IsMin) (fun vs H Q => rMin X.K vs H Q ∨ rMinT X.K vs H Q) := by
  intro Wx hid μ st σ H Q ws vs k r P
  unfold oBestX at P
  split at P
  · rename_i x
    obtain ⟨v, rfl, r1⟩ := reps1 (ws := []) r
    split at P
    · rename_i bs e
      split at P
      · rename_i m em
        have g := theOne_ok em
        cases e1 : seqW st x with
        | none => rw [e1] at e; cases e
        | some us =>
          rw [e1] at e
          obtain ⟨a, xs, rfl, h1, h2⟩ := seqW_at k e1 r1
          rw [intsW_eq e] at h2
          rw [reps_ints h2] at h1
          have hne : 0 < bs.length := List.length_pos_of_mem g.1
          have fin : ∀ n, n ∈ bs → (∀ y, y ∈ bs → n ≤ y) → Q (.int n) H := fun n n1 n2 => by
            rw [min_one g ⟨n1, n2⟩]
            exact P μ H _ k .refl rep_int
          rcases h1 with h1 | h1
          · exact .inl ⟨a, bs, rfl, h1, hne, fin⟩
          · exact .inr ⟨a, bs, rfl, h1, hne, fin⟩
      · exact P.elim
    · exact P.elim
  · exact P.elim
theorem cr_maxX (hc : X.calm = true) : CallR X (.builtin "max") (fun vs H Q => rMax X.K vs H Q ∨ rMaxT X.K vs H Q) := (cr_max hc).or (cr_maxT hc)
theorem cr_minX (hc : X.calm = true) : CallR X (.builtin "min") (fun vs H Q => rMin X.K vs H Q ∨ rMinT X.K vs H Q) := (cr_min hc).or (cr_minT hc)
end
end SL

namespace SL
open PySem PySem.Spec PyProof.Rows L2
/-! ## != of own instances: object.__ne__ asks the own __eq__ -/
section
variable {prog : Program} {w : World} {A : Around} {E : Value → Shared → Prop} {s : Shared} {K : PySem.W.Frag} {x y C f : Addr} {ox oy : Obj} {od od2 : Option Obj}
theorem ne_bound {M : Model} {args : List Value} {Q : Option Value → Shared → Prop} (hK : K.In s.heap) (I : PySem.W.InstAt s.heap x ox C od) (hs : PySem.W.findIn K (.ref C) "__ne__" = some (some (.builtin "object.__ne__")))
    (h : wpAny M A (call (.builtin "object.__ne__") (.ref x :: args)) (fun v => Q (some v)) E s) : wpAny M A (callSpecialIfBound? (.ref x) "__ne__" args) Q E s := by
  have last : wpAny M A (call (.builtin "object.__ne__") ([.ref x] ++ args) >>= fun v => pure (some v)) Q E s := wpAny_bind (wpAny_mono h (fun _ _ z => wpAny_pure z) fun _ _ z => z)
  simp only [callSpecialIfBound?, bindSpecialIfBound?]
  refine wpAny_holding (wpAny_bind ?_)
  refine wpAny_bind (wpAny_bind (I.type.here ((PySem.W.looks_findIn hK hs).here (wpAny_bind (wpAny_askSetting (wpAny_ite ?_))))))
  split
  · exact wpAny_bind (wpAny_of_eq (PySem.F.cmp_object.ne.bind _) (wpAny_pure (by exact last)))
  · exact wpAny_tryCatch (wpAny_bind (wpAny_of_eq (PySem.F.cmp_object.ne.bind _) (wpAny_pure (by exact last))))
theorem ne_entry (hK : K.In s.heap) (I : PySem.W.InstAt s.heap x ox C od) (hu : A.units < cLine) (he : PySem.W.findIn K (.ref C) "__eq__" = some (some (.ref f))) (hf : PySem.W.isFn K (.ref f) = true) {Q : Fin → Shared → Prop}
    (h : wpAny (model prog w) A (call (.ref f) [.ref x, .ref y]) (fun v s' => ∃ b, v = .bool b ∧ Q (.done (.ret (.bool (!b)))) s') E s) : wpAny (model prog w) A (Builtin.«object.__ne__» ⟨[.ref x, .ref y], []⟩) Q E s := by
  unfold Builtin.«object.__ne__»
  repeat (first
    | with_reducible refine wpAny_cRoomFor hu ?_
    | (refine wpAny_bind (m := callSpecialIfBound? (.ref x) (Str.ofString "__eq__") [.ref y])
        (PySem.W.ifBound_K hK I he hf (wpAny_mono h (fun r s' z => by
          obtain ⟨b, rfl, q⟩ := z
          repeat (first | exact q | exact wpAny_pure q | exact wpAny_truthy_bool q | (refine wpAny_bind (m := truthy (.bool _)) (wpAny_truthy_bool ?_)) | wp_step)) fun _ _ z => z)))
    | wp_step)
theorem rc_ne (hu : A.units + 1 < cLine) (hK : K.In s.heap) (I : PySem.W.InstAt s.heap x ox C od) (J : PySem.W.InstAt s.heap y oy C od2) (hm : PySem.W.mroIn K C (.type "object") = some true)
    (hs : PySem.W.findIn K (.ref C) "__ne__" = some (some (.builtin "object.__ne__"))) (he : PySem.W.findIn K (.ref C) "__eq__" = some (some (.ref f))) (hf : PySem.W.isFn K (.ref f) = true) {Q : Value → Shared → Prop}
    (h : wpAny (model prog w) A.in1 (call (.ref f) [.ref x, .ref y]) (fun v s' => ∃ b, v = .bool b ∧ Q (.bool (!b)) s') E s) : wpAny (model prog w) A (richCompare .NotEq (.ref x) (.ref y)) Q E s := by
  have one : wpAny (model prog w) A (tryCompare (.ref x) "__ne__" (.ref y)) (fun r s' => ∃ v, r = some v ∧ Q v s') E s := by
    unfold tryCompare
    refine wpAny_bind (ne_bound hK I hs (wpAny_call (codeAny_call_builtin PySem.F.cmp_object.ne.plain PySem.F.cmpEntry_ne (PySem.W.check_slot PySem.F.cmpKind_ne PySem.F.cmpSplit_ne (I.type.andThen (PySem.W.looks_mroIn hK hm)) (PySem.F.cmpArgs_ne _ _)
      (ne_entry (A := A.in1) hK I hu he hf (wpAny_mono h (fun v s' z => ?_) fun _ _ z => z))))))
    obtain ⟨b, rfl, q⟩ := z
    exact ⟨b, rfl, wpAny_pure ⟨_, rfl, q⟩⟩
  simp only [richCompare, cmpInfo_NotEq, oneThing_ref]
  refine wpAny_holding (wpAny_bind (wpAny_cRoomFor (Nat.lt_of_succ_lt hu) (wpAny_bind (I.type.here (wpAny_bind (J.type.here ?_))))))
  rw [show (Value.ref C != Value.ref C) = false from by simp]
  simp only [Bool.false_eq_true, if_false]
  refine wpAny_bind (wpAny_pure ?_)
  simp only [Bool.false_eq_true, if_false]
  refine wpAny_bind (wpAny_mono one (fun r s' z => ?_) fun _ _ z => z)
  obtain ⟨v, rfl, q⟩ := z
  exact wpAny_pure q
end
structure NeIs (K : PySem.W.Frag) (mg : Str → Option Value) (c : Str) : Prop where
  ex : ∃ C : Addr, mg c = some (.ref C) ∧ PySem.W.findIn K (.ref C) "__ne__" = some (some (.builtin "object.__ne__")) ∧ PySem.W.mroIn K C (.type "object") = some true
def oNeO (c : Str) (F : Fn) : Op2 := fun x y st => match insW st x, insW st y with
  | some (d, _, _), some (e, _, _) => if d = c ∧ e = c then (match F [x, y] st with
    | .ok (.bl b) st1 => .ok (.bl (!b)) st1
    | _ => .bad) else .bad
  | none, none => oNe x y st
  | _, _ => .bad
def rOwnN (K : PySem.W.Frag) (mg : Str → Option Value) (C : Addr) (F : Fn) : R2 := fun x y H Q => ∃ a b dx dy fs gs, x = .ref a ∧ y = .ref b ∧ H a = some (.ins C dx fs) ∧ H b = some (.ins C dy gs) ∧ spF K mg 2 F [x, y] H (fun v H2 => ∃ t, v = .bl t ∧ Q (.bl (!t)) H2) fun _ _ _ => False
section
variable {X : Cx} {Wx : Wish}
theorem op_ownN {k : Nat} {C g : Addr} {fd : FuncData} {ps : List Str} {F : Fn} (G : FnOk X.prog X.w X.K X.mg X.base (L2.CX X.prog X.w) k g fd ps (spF X.K X.mg 2 F)) (he : PySem.W.findIn X.K (.ref C) "__eq__" = some (some (.ref g))) (hf : PySem.W.isFn X.K (.ref g) = true) (B : Binds X.K fd ps []) (hs : PySem.W.findIn X.K (.ref C) "__ne__" = some (some (.builtin "object.__ne__"))) (hm : PySem.W.mroIn X.K C (.type "object") = some true) (hr : Room (k + 1) X.A) :
    OpR X (compareOp .NotEq) (rOwnN X.K X.mg C F) := by
  intro pins s σ H x y v u Q J rx ry hq
  obtain ⟨a, b, dx, dy, fs, gs, rfl, rfl, h1, h2, q⟩ := hq
  cases rx
  cases ry
  show wpAny (model X.prog X.w) X.A (richCompare .NotEq (.ref a) (.ref b)) (EP X pins σ Q) X.xe s
  obtain ⟨mA, i1, _⟩ := ins_get J.hok h1
  obtain ⟨mB, i2, _⟩ := ins_get J.hok h2
  obtain ⟨oa, i1, _⟩ := i1.look
  obtain ⟨ob, i2, _⟩ := i2.look
  have hu : X.A.units + 1 < cLine := by have := hr.un; omega
  refine rc_ne hu J.kIn i1 i2 hm hs he hf ?_
  have ll := G.len _ _ _ _ q
  have rr : Vals [V.ref a, V.ref b] [Value.ref a, Value.ref b] := .cons rfl (.cons rfl .nil)
  have bb := B s [.ref a, .ref b] J.kIn (by rw [List.append_nil]; exact ll)
  rw [List.append_nil] at bb
  have e0 : Env0 X.prog X.w X.K X.mg X.base X.A.in1 X.stack s H := by
    have e := J.env0
    exact ⟨e.frames, e.mod, e.bs, e.bsz, e.funs, e.frf, e.hok, e.bare⟩
  refine wpAny_call (codeAny_mono (G.run X.A.in1 X.stack s H ⟨[.ref a, .ref b], []⟩ [.ref a, .ref b] [.ref a, .ref b] _ _ hr.in1 e0 bb rr q) fun o s' z => ?_)
  cases o with
  | error e =>
    obtain ⟨_, _, _, _, _, _, _, _, _, _, _, _, z⟩ := z
    exact z.elim
  | ok fl =>
    cases fl with
    | ret w =>
      obtain ⟨t, H', J', rz, ⟨b, ez, ex⟩⟩ := J.after z
      subst ez
      cases rz
      exact ⟨b, rfl, .bl (!b), H', J', rfl, ex⟩
    | next => exact False.elim z
    | brk => exact False.elim z
    | cont => exact False.elim z
theorem os_neO {A : Addr} {c : Str} {F : Fn} (hm : X.mg c = some (.ref A)) : Op2S X (oNeO c F) (fun x y H Q => rNeD X.K x y H Q ∨ rOwnN X.K X.mg A F x y H Q) := by
  intro Wx' hid μ st σ H Q w u x y k1 rx ry P
  unfold oNeO at P
  split at P
  · rename_i d n1 w1 e n2 w2 h1 h2
    split at P
    · rename_i hde
      obtain ⟨rfl, rfl⟩ := hde
      obtain ⟨p, D, dx, us, rfl, g1, g2, g3, g4⟩ := insW_at k1 h1 rx
      obtain ⟨q, D', dy, us', rfl, g1', g2', g3', g4'⟩ := insW_at k1 h2 ry
      rw [hm] at g1 g1'
      cases g1
      cases g1'
      refine .inr ⟨p, q, dx, dy, _, _, rfl, rfl, g3, g3', hid, μ, st, [w, u], rfl, k1, .cons rx (.cons ry .nil), ?_⟩
      cases z : F [w, u] st with
      | bad => rw [z] at P; exact P.elim
      | err e s => rw [z] at P; exact P.elim
      | ok r st1 =>
        rw [z] at P
        cases r with
        | bl t =>
          intro μ' H' v k' g' rv
          exact ⟨t, rep_bl_inv rv, P μ' H' _ k' g' rep_bl⟩
        | _ => exact P.elim
    · exact P.elim
  · exact .inl (os_ne _ hid μ st σ H Q w u x y k1 rx ry P)
  · exact P.elim
theorem op_neO {k j : Nat} {A g : Addr} {c : Str} {F : Fn} {fd : FuncData} {ps : List Str} (C : Ctx X Wx j) (hk : k + 1 ≤ j) (N : NeIs X.K X.mg c) (hm : X.mg c = some (.ref A)) (G : FnOk X.prog X.w X.K X.mg X.base (L2.CX X.prog X.w) k g fd ps (spF X.K X.mg 2 F)) (he : PySem.W.findIn X.K (.ref A) "__eq__" = some (some (.ref g))) (hf : PySem.W.isFn X.K (.ref g) = true) (B : Binds X.K fd ps []) :
    OpR X (compareOp .NotEq) (fun x y H Q => rNeD X.K x y H Q ∨ rOwnN X.K X.mg A F x y H Q) := by
  obtain ⟨A2, hm2, hs, ho⟩ := N.ex
  rw [hm] at hm2
  cases hm2
  exact (op_neD C.room.units).or (op_ownN G he hf B hs ho (C.room.mono hk))
theorem ev_neO {k j : Nat} {c : Str} {F : Fn} {a b : Expr} {f g : Sem} {pos : Pos} (I : EqIs X.prog X.w X.K X.mg X.base c k F) (N : NeIs X.K X.mg c) (C : Ctx X Wx j) (hk : k + 1 ≤ j) (ha : EV X Wx a f) (hb : EV X Wx b g) (hmk : behindInMarks .NotEq b = false) : EV X Wx (.Compare a [.NotEq] [b] pos) (e2 (oNeO c F) f g) := by
  obtain ⟨A, ad, fd, ps, hm, G, he, hf, B⟩ := I.ex
  exact ev_cmp (op_neO C hk N hm G he hf B) (os_neO hm) ha hb hmk
theorem tv_neO {k j : Nat} {c : Str} {F : Fn} {a b : Expr} {f g : Sem} {pos : Pos} (I : EqIs X.prog X.w X.K X.mg X.base c k F) (N : NeIs X.K X.mg c) (C : Ctx X Wx j) (hk : k + 1 ≤ j) (ha : EV X Wx a f) (hb : EV X Wx b g) (hmk : behindInMarks .NotEq b = false) : TV X Wx (.Compare a [.NotEq] [b] pos) (bOf (e2 (oNeO c F) f g)) := by
  obtain ⟨A, ad, fd, ps, hm, G, he, hf, B⟩ := I.ex
  exact tv_cmp (op_neO C hk N hm G he hf B) (os_neO hm) ha hb hmk
theorem os_eqO {A : Addr} {c : Str} {F : Fn} (hm : X.mg c = some (.ref A)) : Op2S X (oEqO c F) (fun x y H Q => rEqD X.K x y H Q ∨ rOwn X.K X.mg A F x y H Q) := by
  intro Wx' hid μ st σ H Q w u x y k1 rx ry P
  unfold oEqO at P
  split at P
  · rename_i d n1 w1 e n2 w2 h1 h2
    split at P
    · rename_i hde
      obtain ⟨rfl, rfl⟩ := hde
      obtain ⟨p, D, dx, us, rfl, g1, g2, g3, g4⟩ := insW_at k1 h1 rx
      obtain ⟨q, D', dy, us', rfl, g1', g2', g3', g4'⟩ := insW_at k1 h2 ry
      rw [hm] at g1 g1'
      cases g1
      cases g1'
      refine .inr ⟨p, q, dx, dy, _, _, rfl, rfl, g3, g3', hid, μ, st, [w, u], rfl, k1, .cons rx (.cons ry .nil), ?_⟩
      cases z : F [w, u] st with
      | bad => rw [z] at P; exact P.elim
      | err e s => rw [z] at P; exact P.elim
      | ok r st1 =>
        rw [z] at P
        cases r with
        | bl t =>
          intro μ' H' v k' g' rv
          exact ⟨⟨t, rep_bl_inv rv⟩, P μ' H' _ k' g' rv⟩
        | _ => exact P.elim
    · exact P.elim
  · exact .inl (os_eq _ hid μ st σ H Q w u x y k1 rx ry P)
  · exact P.elim
theorem tv_eqO {k j : Nat} {c : Str} {F : Fn} {a b : Expr} {f g : Sem} {pos : Pos} (I : EqIs X.prog X.w X.K X.mg X.base c k F) (C : Ctx X Wx j) (hk : k ≤ j) (ha : EV X Wx a f) (hb : EV X Wx b g) (hmk : behindInMarks .Eq b = false) : TV X Wx (.Compare a [.Eq] [b] pos) (bOf (e2 (oEqO c F) f g)) := by
  obtain ⟨A, ad, fd, ps, hm, G, he, hf, B⟩ := I.ex
  exact tv_cmp ((op_eqD C.room.units).or (op_own G he hf B (C.room.mono hk))) (os_eqO hm) ha hb hmk
end
end SL

/-! # sorted of a tuple of ints; a list, times an int -/
namespace SLs
open PySem PySem.Spec PyProof.Rows Srt SrtO
section
variable {prog : Program} {w : World} {A : Around} {E : Value → Shared → Prop} {s : Shared}
theorem collect_tupL {t : Addr} {us : List Value} {Q : List Value → Shared → Prop} (ht : s.heap.IsTuple t us.toArray) (hu : us.length ≤ sizeLine)
    (hQ : Q us { s with heap := (s.heap.push (seqObj "list" #[] 0)).update s.heap.objs.size (Obj.mapSeq (· ++ us.toArray)) }) : wpAny (model prog w) A (collect (.ref t)) Q E s := by
  obtain ⟨ob, g1, g2, g3, g4⟩ := id ht
  have g1' : (s.heap.push (seqObj "list" #[] 0)).get? t = some ob := Heap.get?_push_of_some _ g1
  have gN : (s.heap.push (seqObj "list" #[] 0)).get? s.heap.objs.size = some (seqObj "list" #[] 0) := Heap.get?_push_size _ rfl
  have tt : (Value.type "tuple" == Value.type "tuple") = true := by rfl
  unfold collect
  refine wpAny_bind (wpAny_runValue (codeAny_builtin entry_proto_collect' ?_))
  show wpAny _ _ (newList [] >>= fun l => again (.builtin "list.__iadd__" ⟨[l, .ref t], []⟩)) _ _ s
  refine wpAny_bind (wpAny_newList (wpAny_pure ⟨Code.quiet_builtin _ (by decide +kernel), codeAny_builtin entry_list_iadd' ?_⟩))
  show wpAny _ _ (Builtin.List.listExtendWith (.ref s.heap.objs.size) (.ref t) (.ref s.heap.objs.size)) _ _ { s with heap := s.heap.push (seqObj "list" #[] 0) }
  unfold Builtin.List.listExtendWith
  refine wpAny_bind (wpAny_typeOf (T := "tuple") ⟨ob, g1', g2⟩ ?_)
  rw [if_pos (by rw [tt]; simp)]
  refine wpAny_bind (listItems_at g1' g4 (wpAny_bind (listItems_at (xs := #[]) (n := 0) gN rfl ?_)))
  rw [if_neg (by simp)]
  refine wpAny_bind (listUpdate_at (xs := #[]) (n := 0) gN rfl (wpAny_pure ?_) (Nat.zero_le _) (by show (#[] ++ us.toArray).size ≤ sizeLine + 1; simp only [Array.size_append, List.size_toArray, List.length_nil]; omega))
  show wpAny (model prog w) A (load s.heap.objs.size >>= fun o => match o.data with
      | .seq xs _ => pure xs.toList
      | _ => unsupported "internal:collect") Q E { s with heap := (s.heap.push (seqObj "list" #[] 0)).update s.heap.objs.size (Obj.mapSeq (· ++ us.toArray)) }
  refine wpAny_bind (wpAny_load (get?_update_seq gN _) ?_)
  show wpAny _ _ (pure ((#[] : Array Value) ++ us.toArray).toList) Q E _
  rw [show ((#[] : Array Value) ++ us.toArray).toList = us by simp]
  exact wpAny_pure hQ
theorem sorted_tupO {t : Addr} {us : List Value} {lt0 : Value → Value → Bool} {Q : Value → Shared → Prop} (O : Swo lt0) (ht : s.heap.IsTuple t us.toArray) (hu : us.length ≤ sizeLine)
    (hS : 2 ≤ us.length → ∀ (g : Heap) (a : Addr), SortableO prog w A.in1.in1 { s with heap := g } a us lt0)
    (hQ : ∀ out : List Value, Srtd lt0 out → Stb lt0 out us → Q (.ref (s.heap.objs.size + 1)) { s with heap := sortedAll s.heap us out.toArray }) :
    wpAny (model prog w) A (call (.builtin "sorted") [.ref t]) Q E s := by
  have z1 : ((s.heap.push (seqObj "list" #[] 0)).update s.heap.objs.size (Obj.mapSeq (· ++ us.toArray))).objs.size = s.heap.objs.size + 1 := by rw [Heap.size_update, size_push']
  have z2 : (((s.heap.push (seqObj "list" #[] 0)).update s.heap.objs.size (Obj.mapSeq (· ++ us.toArray))).push (seqObj "list" us.toArray 0)).get? (s.heap.objs.size + 1) = some (seqObj "list" us.toArray 0) := by rw [← z1]; exact Heap.get?_push_size _ rfl
  refine Calls.call_function_entry kind_sorted plain_sorted entry_sorted (args_sorted1 _) ?_
  unfold Builtin.«sorted»
  refine wpAny_bind (m := checkCount "sorted" 1 1 _) (wpAny_pure (wpAny_bind (collect_tupL ht hu (wpAny_bind (wpAny_newList ?_ hu)))))
  show wpAny _ _ _ _ _ { s with heap := ((s.heap.push (seqObj "list" #[] 0)).update s.heap.objs.size (Obj.mapSeq (· ++ us.toArray))).push (seqObj "list" us.toArray 0) }
  rw [z1]
  refine wpAny_bind (wpAny_holding (wpAny_call_entry slot_list_sort ⟨_, z2, rfl⟩ entry_list_sort (list_sort_ord O z2 hu (fun h2 => hS h2 _ _) fun out a1 a2 => ⟨_, rfl, ?_⟩) (args_list_sort _)))
  exact wpAny_pure ⟨_, rfl, hQ out a1 a2⟩
end
end SLs
namespace SL
open PySem PySem.Spec PyProof.Rows L2
def rSortIT (K : PySem.W.Frag) : List V → Hp → VK → Prop := fun vs H Q => ∃ (a : Addr) (ns : List Int), vs = [V.ref a] ∧ SqT K H a (ns.map V.int) ∧
  ∀ (ms : List Int) (p : Addr), ms.Perm ns → ms.Pairwise (· ≤ ·) → H p = none → Q (.ref p) (upd H p (.lst (ms.map V.int)))
def sortI (ns : List Int) : List Int := ns.mergeSort fun a b => decide (a ≤ b)
theorem sortI_of {ms ns : List Int} (p : ms.Perm ns) (h : ms.Pairwise (· ≤ ·)) : ms = sortI ns := by
  refine one_order (p.trans (List.mergeSort_perm ns _).symm) h ?_ fun a _ b _ h1 h2 => Int.le_antisymm h1 h2
  have z := List.pairwise_mergeSort (le := fun a b : Int => decide (a ≤ b)) (fun a b c h1 h2 => by simp at h1 h2 ⊢; omega) (fun a b => by simp; omega) ns
  exact z.imp fun {a b} h => of_decide_eq_true h
noncomputable def oSortX : OpN := fun ws st => match ws with
  | [x] => match (seqW st x).bind intsW with
    | some ns => .ok (.lst ((sortI ns).map .int)) st
    | none => oSortT ws st
  | _ => .bad
noncomputable def oMulL : Op2 := fun x y st => match x, y with
  | .lst ws, .int k => if dec (-1000 ≤ k ∧ k ≤ 1000 ∧ ws.length ≤ 1000) = true then .ok (.lst (List.replicate k.toNat ws).flatten) st else .bad
  | x, y => oMulX x y st
section
variable {X : Cx}
theorem cr_sortIT : CallR X (.builtin "sorted") (rSortIT X.K) := by
  intro pins s σ H vs us Q J r hq
  obtain ⟨a, ns, rfl, hs, q⟩ := hq
  obtain ⟨its, rr, hT, hz⟩ := J.tuple hs
  rw [Vals.ref1 r]
  have ii := rr.ints
  refine SLs.sorted_tupO SrtO.swo_int hT (by rw [← rr.length]; exact hz) (fun h2 g b => SrtO.ints_sortable ii h2) fun out a1 a2 => ?_
  obtain ⟨b1, b2, b3⟩ := SrtO.ints_out ii a1 a2
  obtain ⟨n, hn⟩ := sortedAll_at s.heap its out.toArray
  have hl : ((out.map SrtO.iv).map V.int).length ≤ sizeLine := by
    rw [List.length_map, b2.length_eq]
    rwa [List.length_map] at hz
  exact ⟨.ref _, upd H (s.heap.objs.size + 1) (.lst ((out.map SrtO.iv).map V.int)), J.laid (t' := s.toks) (fun _ _ => sortedAll_old) (Nat.le_succ _) ⟨hl, out, n, vals_of_ints b1, hn⟩, rfl, q _ _ b2 b3 (J.hok.fresh (Nat.le_succ _))⟩
def rSortX (K : PySem.W.Frag) : List V → Hp → VK → Prop := fun vs H Q => (rSortedI K vs H Q ∨ rSortIT K vs H Q) ∨ rSortAny K vs H Q
theorem cr_sortX : CallR X (.builtin "sorted") (rSortX X.K) := (cr_sortedI.or cr_sortIT).or cr_sortAny
theorem os_sortX : OpNS X oSortX (rSortX X.K) := by
  intro Wx hid μ st σ H Q ws vs k r P
  unfold oSortX at P
  split at P
  · rename_i x
    split at P
    · rename_i ns e
      obtain ⟨v, rfl, r1⟩ := reps1 (ws := []) r
      cases e1 : seqW st x with
      | none => rw [e1] at e; cases e
      | some us =>
        rw [e1] at e
        obtain ⟨a, xs, rfl, h1, h2⟩ := seqW_at k e1 r1
        rw [intsW_eq e] at h2
        rw [reps_ints h2] at h1
        have q : ∀ (ms : List Int) (p : Addr), ms.Perm ns → ms.Pairwise (· ≤ ·) → H p = none → Q (.ref p) (upd H p (.lst (ms.map V.int))) := fun ms p pm sr hp => by
          rw [sortI_of pm sr]
          exact ok_new P k hp fun F l e => rep_lst e (ro_reps _)
        rcases h1 with h1 | h1
        · exact .inl (.inl ⟨a, ns, rfl, h1, q⟩)
        · exact .inl (.inr ⟨a, ns, rfl, h1, q⟩)
    · exact .inr (os_sortT _ hid μ st σ H Q _ vs k r P)
  · exact P.elim
theorem or_mulL : OpR X (binaryOp .Mult) (fun x y H Q => rRep x y H Q ∨ rMulX X.K x y H Q) := op_rep.or or_mulX
theorem os_mulL : Op2S X oMulL (fun x y H Q => rRep x y H Q ∨ rMulX X.K x y H Q) := by
  intro Wx hid μ st σ H Q w u x y k rx ry P
  unfold oMulL at P
  split at P
  · rename_i ws m
    cases rep_int_inv ry
    split at P
    · rename_i hg
      obtain ⟨g1, g2, g3⟩ := dec_of hg
      obtain ⟨a, vs, rfl, h1, h2⟩ := rep_lst_inv rx
      have hl := h2.length
      refine .inl ⟨a, m, vs, rfl, rfl, Fz.le.lst h1, by omega, by omega, ?_, fun p hp => ok_new P k hp fun F l e => rep_lst e (reps_rep (h2.mono l (.refl _)) _)⟩
      have : vs.length * m.toNat ≤ 1000 * 1000 := Nat.mul_le_mul (by omega) (by omega)
      rw [sizeLine_eq]; omega
    · exact P.elim
  · exact .inr (os_mulX _ hid μ st σ H Q _ _ _ _ k rx ry P)
end
end SL

namespace SL
open PySem PySem.Spec PyProof.Rows L2
/-! ## a, b = a list or a tuple -/
def gTl (n : Nat) (r : TgsF) : TgF := fun w fr st => match seqW st w with
  | some ws => if ws.length = n then r ws fr st else none
  | none => none
section
variable {X : Cx} {Wx : Wish}
theorem pg_two {es : List Expr} {k n : Nat} {t : TGs} {pos : Pos} (hc : X.calm = true) (h : PGs X es t) (hn : (assignEach es X.env).length = n) (hst : (assignEach es X.env).findIdx? (·.1) = none) :
    PG X (.Tuple es k pos) (fun v σ H Q => gTup X.K n t v σ H Q ∨ gUnl X.K n t v σ H Q) :=
  ⟨fun pins s σ H v u Q I r q => q.elim (fun q => (pg_tup hc h hn hst).run pins s σ H v u Q I r q) fun q => (pg_unl hc h hn hst).run pins s σ H v u Q I r q⟩
theorem gv_tl {es : List Expr} {k n : Nat} {r : TgsF} {sl : List Nat} {pos : Pos} (hc : X.calm = true) (h : GsV X Wx es r sl) (hn : (assignEach es X.env).length = n := by rfl) (hst : (assignEach es X.env).findIdx? (·.1) = none := by rfl) : GV X Wx (.Tuple es k pos) (gTl n r) sl :=
  PGm (pg_two hc h hn hst) fun v σ H Q ⟨μ, st, hid, fr, w, fr', S, rr, e, q⟩ => by
    unfold gTl at e
    split at e
    · rename_i ws e1
      split at e
      · rename_i hl
        obtain ⟨a, vs, rfl, h1, h2⟩ := seqW_at S.sto e1 rr
        rcases h1 with h1 | h1
        · exact .inr ⟨a, vs, rfl, h1, by rw [← h2.length]; exact hl, μ, st, hid, fr, ws, fr', S, h2, e, q⟩
        · exact .inl ⟨a, vs, rfl, h1, by rw [← h2.length]; exact hl, μ, st, hid, fr, ws, fr', S, h2, e, q⟩
      · cases e
    · cases e
end
end SL

/-! # enumerate of a tuple -/
namespace SLe
open PySem Builtin
open AutoSeq1 (wpAny_loadPart')
section
variable {prog : Program} {w : World} {A : Around} {E : Value → Shared → Prop} {s : Shared}
theorem nextT_item {it l : Addr} {i : Nat} {items} {x : Value} {Q : Value → Shared → Prop} (zit : s.heap.IsTupleIter it l i)
    (zl : s.heap.IsTuple l items) (zx : items[i]? = some x)
    (zQ : ∀ m', m'.IsTupleIter it l (i + 1) → Heap.SameBut it s.heap m' → Q x { s with heap := m' }) :
    wpAny (model prog w) A (Builtin.SmallTypes.nextOf (.ref it)) Q E s := by
  obtain ⟨o, zo, zc, zd⟩ := id zit
  obtain ⟨zob, zol, _, zn, zdl⟩ := zl
  unfold Builtin.SmallTypes.nextOf
  refine wpAny_bind (wpAny_callSpecial?_slot (name := Str.ofString "__next__") zit.typeIs F.slot_tuple_iterator_next
    (wpAny_call_entry F.slot_tuple_iterator_next zit.typeIs F.entry_tuple_iterator_next ?_ (F.args_tuple_iterator_next_1 _)))
  show wpAny _ _ (field (.ref it) 0 >>= _) _ _ s
  refine wpAny_bind (wpAny_field zo zd (x := .ref l) rfl ?_)
  show wpAny _ _ (if (Value.ref l == Value.none) = true then _ else _) _ _ s
  rw [if_neg (show ¬ ((Value.ref l == Value.none) = true) from Bool.false_ne_true)]
  show wpAny _ _ (field (.ref it) 1 >>= _) _ _ s
  refine wpAny_bind (wpAny_field zo zd (x := .int i 0) rfl ?_)
  show wpAny _ _ (seqItems? (.ref l) >>= _) _ _ s
  refine wpAny_bind (wpAny_seqItems zol zdl ?_)
  simp only [Int.toNat_natCast, zx]
  refine wpAny_bind (wpAny_setField zo zd (by simp) (wpAny_pure ⟨x, rfl, wpAny_pure (zQ _ ?_ (Heap.SameBut.update ..))⟩))
  exact ⟨_, Heap.get?_update_self _ zo (Obj.isFreed_of_fields (Obj.data_mapFields zd _)), (Obj.cls_mapFields ..).trans zc, by
    rw [Obj.data_mapFields zd]; simp [rawInt]⟩

theorem nextT_end {it l : Addr} {i : Nat} {items} {Q : Value → Shared → Prop} (zh : A.handled = none)
    (zit : s.heap.IsTupleIter it l i) (zl : s.heap.IsTuple l items) (zx : items[i]? = none)
    (zE : ∀ m' e, Heap.ExtBut it s.heap m' → (∃ o, m'.get? e = some o ∧ o.cls = .type "StopIteration") → E (.ref e) { s with heap := m' }) :
    wpAny (model prog w) A (Builtin.SmallTypes.nextOf (.ref it)) Q E s := by
  obtain ⟨o, zo, zc, zd⟩ := id zit
  obtain ⟨zob, zol, _, zn, zdl⟩ := zl
  unfold Builtin.SmallTypes.nextOf
  refine wpAny_bind (wpAny_callSpecial?_slot (name := Str.ofString "__next__") zit.typeIs F.slot_tuple_iterator_next
    (wpAny_call_entry F.slot_tuple_iterator_next zit.typeIs F.entry_tuple_iterator_next ?_ (F.args_tuple_iterator_next_1 _)))
  show wpAny _ _ (field (.ref it) 0 >>= _) _ _ s
  refine wpAny_bind (wpAny_field zo zd (x := .ref l) rfl ?_)
  show wpAny _ _ (if (Value.ref l == Value.none) = true then _ else _) _ _ s
  rw [if_neg (show ¬ ((Value.ref l == Value.none) = true) from Bool.false_ne_true)]
  show wpAny _ _ (field (.ref it) 1 >>= _) _ _ s
  refine wpAny_bind (wpAny_field zo zd (x := .int i 0) rfl ?_)
  show wpAny _ _ (seqItems? (.ref l) >>= _) _ _ s
  refine wpAny_bind (wpAny_seqItems zol zdl ?_)
  simp only [Int.toNat_natCast, zx]
  refine wpAny_bind (wpAny_rule (wpAny_bind (wpAny_setField zo zd (by simp) ?_)))
  show wpAny _ _ (newExc (.type "StopIteration") [] >>= _) _ _ _
  refine wpAny_bind ?_
  simp only [newExc, newTuple]
  refine wpAny_bind (wpAny_newObj_type ?_ (by size_fits))
  refine wpAny_bind (m := firstArgMember _ _) (wpAny_of_eq (a := Value.none) (by first | rfl | (simp only [firstArgMember]; rfl)) ?_)
  refine wpAny_newObj_type ?_ (by size_fits)
  simp only [raiseNew]
  refine wpAny_bind (wpAny_handled ?_)
  first | rw [show A.in1.handled = none from zh] | rw [zh]
  refine wpAny_bind (wpAny_pure (wpAny_throw ?_))
  exact zE _ _ (((Heap.SameBut.update ..).extBut.push _).push _) ⟨_, Heap.get?_push_size _ rfl, rfl⟩

theorem enumT_next {e it l : Addr} {i : Nat} {items : Array Value} {x was : Value} {Q : Value → Shared → Prop}
    (ze : IsEnum s.heap e it i was) (zit : s.heap.IsTupleIter it l i) (zl : s.heap.IsTuple l items) (zx : items[i]? = some x) (zne : e ≠ it)
    (zQ : ∀ m', IsEnumOut m' e it ((i : Int) + 1) x s.heap.objs.size → m'.IsTupleIter it l (i + 1) →
      m'.get? s.heap.objs.size = some { cls := .type "tuple", data := .seq #[.int i s.toks, x] } → m'.objs.size = s.heap.objs.size + 1 →
      (∀ b o, b ≠ e → b ≠ it → s.heap.get? b = some o → m'.get? b = some o) → Q (.ref s.heap.objs.size) { s with heap := m', toks := s.toks + 1 }) :
    wpAny (model prog w) A (Builtin.«enumerate.__next__» ⟨[.ref e], []⟩) (fun fin s' => ∃ v, fin = .done (.ret v) ∧ Q v s') E s := by
  obtain ⟨zp, g, d, tk, os⟩ := s
  show wpAny _ _ (field (.ref e) 2 >>= _) _ _ _
  refine wpAny_bind (wpAny_field ze rfl (x := .ref it) rfl ?_)
  refine wpAny_bind (nextT_item zit zl zx fun k1 zi1 zs1 => ?_)
  replace zs1 : Heap.SameBut it zp k1 := zs1
  have ze1 : IsEnum k1 e it i was := (zs1.2 e zne).trans ze
  show wpAny _ _ (field (.ref e) 3 >>= _) _ _ ⟨k1, g, d, tk, os⟩
  refine wpAny_bind (wpAny_field ze1 rfl (x := rawInt i) rfl ?_)
  show wpAny _ _ (field (.ref e) 4 >>= _) _ _ ⟨k1, g, d, tk, os⟩
  refine wpAny_bind (wpAny_field ze1 rfl (x := .none) rfl ?_)
  show wpAny _ _ (mkInt i >>= _) _ _ ⟨k1, g, d, tk, os⟩
  refine wpAny_bind (wpAny_mkInt ?_)
  show wpAny _ _ (setField (.ref e) 3 (rawInt ((i : Int) + 1)) >>= _) _ _ ⟨k1, g, d, tk + 1, os⟩
  refine wpAny_bind (wpAny_setField_rec ze1 (by simp) fun k2 ze2 zs2 => ?_)
  replace zs2 : Heap.SameBut e k1 k2 := zs2
  replace ze2 : IsEnum k2 e it ((i : Int) + 1) was := ze2
  show wpAny _ _ (setField (.ref e) 4 .none >>= _) _ _ ⟨k2, g, d, tk + 1, os⟩
  refine wpAny_bind (wpAny_setField_rec ze2 (by simp) fun k3 ze3 zs3 => ?_)
  replace zs3 : Heap.SameBut e k2 k3 := zs3
  replace ze3 : IsEnum k3 e it ((i : Int) + 1) was := ze3
  show wpAny _ _ (newTuple [.int i tk, x] >>= _) _ _ ⟨k3, g, d, tk + 1, os⟩
  refine wpAny_bind (wpAny_newTuple ?_)
  have ze4 : IsEnum (k3.push { cls := .type "tuple", data := .seq #[.int i tk, x] }) e it ((i : Int) + 1) was := Heap.get?_push_of_some _ ze3
  generalize zh4 : k3.push { cls := .type "tuple", data := .seq #[.int i tk, x] } = k4 at ze4
  have zsz : k3.objs.size = zp.objs.size := by rw [zs3.1, zs2.1, zs1.1]
  have zel : e < zp.objs.size := Heap.lt_size ze
  have zt4 : k4.get? zp.objs.size = some { cls := .type "tuple", data := .seq #[.int i tk, x] } := by rw [← zh4, ← zsz]; exact Heap.get?_push_size _ rfl
  have zz4 : k4.objs.size = zp.objs.size + 1 := by rw [← zh4, Heap.size_push, zsz]
  have zk4 : ∀ b o, b ≠ e → b ≠ it → zp.get? b = some o → k4.get? b = some o := fun b o zbe zbi zb => by
    rw [← zh4]; exact Heap.get?_push_of_some _ (zs3.extBut b o zbe (zs2.extBut b o zbe (zs1.extBut b o zbi zb)))
  have zi4 : k4.IsTupleIter it l (i + 1) := by
    rw [← zh4]; obtain ⟨o, zo, r⟩ := (zi1.extBut zs2.extBut (Ne.symm zne)).extBut zs3.extBut (Ne.symm zne); exact ⟨o, Heap.get?_push_of_some _ zo, r⟩
  show wpAny _ _ (Builtin.SmallTypes.ownedTupleIsFree (.ref e) >>= _) _ _ ⟨k4, g, d, tk + 1, os⟩
  rw [zsz]
  clear zh4 ze3 zs3 ze2 zs2 ze1 zs1 zi1 zsz k3 k2 k1
  refine wpAny_bind ?_
  · unfold Builtin.SmallTypes.ownedTupleIsFree
    refine wpAny_bind (wpAny_field ze4 rfl (x := .none) rfl (wpAny_pure ?_))
    simp only [if_true]
    refine wpAny_bind (wpAny_rule ?_)
    refine wpAny_bind (wpAny_field ze4 rfl (x := was) rfl ?_)
    refine wpAny_bind (wpAny_setField_rec ze4 (by simp) fun k5 ze5 zs5 => ?_)
    replace zs5 : Heap.SameBut e k4 k5 := zs5
    replace ze5 : IsEnum k5 e it ((i : Int) + 1) x := ze5
    show wpAny _ _ (Builtin.SmallTypes.ownedTupleHandOut (.ref e) (.ref zp.objs.size) >>= _) _ _ ⟨k5, g, d, tk + 1, os⟩
    refine wpAny_bind ?_
    · unfold Builtin.SmallTypes.ownedTupleHandOut
      refine wpAny_bind (wpAny_setField_rec ze5 (by simp) fun k6 ze6 zs6 => ?_)
      replace zs6 : Heap.SameBut e k5 k6 := zs6
      replace ze6 : IsEnumOut k6 e it ((i : Int) + 1) x zp.objs.size := ze6
      refine wpAny_setField_rec ze6 (by simp) fun k7 ze7 zs7 => ?_
      replace zs7 : Heap.SameBut e k6 k7 := zs7
      replace ze7 : IsEnumOut k7 e it ((i : Int) + 1) x zp.objs.size := ze7
      refine wpAny_bind (wpAny_letGo (wpAny_pure ⟨_, rfl, zQ k7 ze7 ?_ ?_ ?_ ?_⟩))
      · exact ((zi4.extBut zs5.extBut (Ne.symm zne)).extBut zs6.extBut (Ne.symm zne)).extBut zs7.extBut (Ne.symm zne)
      · exact zs7.extBut _ _ (Nat.ne_of_gt zel) (zs6.extBut _ _ (Nat.ne_of_gt zel) (zs5.extBut _ _ (Nat.ne_of_gt zel) zt4))
      · rw [zs7.1, zs6.1, zs5.1, zz4]
      · exact fun b o zbe zbi zb => zs7.extBut b o zbe (zs6.extBut b o zbe (zs5.extBut b o zbe (zk4 b o zbe zbi zb)))

theorem pyNextT_item {e it l : Addr} {i : Nat} {items : Array Value} {x was : Value} {Q : Option Value → Shared → Prop}
    (ze : IsEnum s.heap e it i was) (zit : s.heap.IsTupleIter it l i) (zl : s.heap.IsTuple l items) (zx : items[i]? = some x) (zne : e ≠ it)
    (zQ : ∀ m', IsEnumOut m' e it ((i : Int) + 1) x s.heap.objs.size → m'.IsTupleIter it l (i + 1) →
      m'.get? s.heap.objs.size = some { cls := .type "tuple", data := .seq #[.int i s.toks, x] } → m'.objs.size = s.heap.objs.size + 1 →
      (∀ b o, b ≠ e → b ≠ it → s.heap.get? b = some o → m'.get? b = some o) → Q (some (.ref s.heap.objs.size)) { s with heap := m', toks := s.toks + 1 }) :
    wpAny (model prog w) A (pyNext (.ref e)) Q E s := by
  have zT : s.TypeIs (.ref e) "enumerate" := ⟨_, ze, rfl⟩
  unfold pyNext
  exact wpAny_bind (wpAny_attempt (wpAny_callSpecial?_slot (name := Str.ofString "__next__") zT F.slot_enumerate_next
    (wpAny_call_entry F.slot_enumerate_next zT F.entry_enumerate_next
      (enumT_next ze zit zl zx zne fun m' a b c d k => wpAny_pure (zQ m' a b c d k)) (F.args_enumerate_next_1 _))))

theorem pyNextT_end {e it l : Addr} {i : Nat} {items : Array Value} {was : Value} {Q : Option Value → Shared → Prop} (zh : A.handled = none)
    (ze : IsEnum s.heap e it i was) (zit : s.heap.IsTupleIter it l i) (zl : s.heap.IsTuple l items) (zx : items[i]? = none)
    (zQ : ∀ m', Heap.ExtBut it s.heap m' → Q none { s with heap := m' }) : wpAny (model prog w) A (pyNext (.ref e)) Q E s := by
  have zT : s.TypeIs (.ref e) "enumerate" := ⟨_, ze, rfl⟩
  unfold pyNext
  refine wpAny_bind (wpAny_attempt (wpAny_callSpecial?_slot (name := Str.ofString "__next__") zT F.slot_enumerate_next
    (wpAny_call_entry F.slot_enumerate_next zT F.entry_enumerate_next ?_ (F.args_enumerate_next_1 _))))
  show wpAny _ _ (field (.ref e) 2 >>= _) _ _ _
  refine wpAny_bind (wpAny_field ze rfl (x := .ref it) rfl ?_)
  refine wpAny_bind (nextT_end zh zit zl zx fun m' x ze' zx' => ?_)
  obtain ⟨o, zo, zc⟩ := zx'
  refine wpAny_bind (wpAny_isInstance (T := "StopIteration") (b := true) ⟨o, zo, zc⟩ isSubtype_stop ?_)
  exact wpAny_pure (zQ _ ze')
theorem meets_enumT (l : Addr) (items : Array Value) (n : Nat) (dct : Option Addr) (sl : Array (Option Value)) :
    Meets (Builtin.«enumerate.__new__» ⟨[.type "enumerate", .ref l], []⟩) (fun _ R s => s.heap.get? l = some { cls := .type "tuple", dict := dct, data := .seq items n, slots := sl } ∧
      R (.ok (.ret (.ref (s.heap.push { cls := .type "tuple_iterator", data := .fields #[.ref l, .int 0 0] }).objs.size)))
        { s with heap := (s.heap.push { cls := .type "tuple_iterator", data := .fields #[.ref l, .int 0 0] }).push { cls := .type "enumerate", data := .fields #[.none, .bool false, .ref s.heap.objs.size, rawInt 0, .none, .none] } }) :=
  .of_wp fun prog w A R s h => by
    obtain ⟨zp, g, d, tk, os⟩ := s; obtain ⟨zl, h⟩ := h
    have zsub := sub_enumerate
    have zL : Heap.IsTuple (Shared.heap ⟨zp, g, d, tk, os⟩) l items := ⟨_, zl, rfl, n, rfl⟩
    wp_walk using wpAny_loadPart' zl
    refine wpAny_stack_any fun zst => wpAny_pure ?_
    split
    · rename_i c _ _ _ _ _
      cases (c == Value.type "enumerate")
      · wp_walk using wpAny_loadPart' zl, wpAny_pyIter_tuple zL
        exact ⟨_, rfl, h⟩
      · wp_walk using wpAny_loadPart' zl, wpAny_pyIter_tuple zL
        exact ⟨_, rfl, h⟩
    · wp_walk using wpAny_loadPart' zl, wpAny_pyIter_tuple zL
      exact ⟨_, rfl, h⟩

theorem call_enumT {l : Addr} {items : Array Value} {Q : Value → Shared → Prop} (zL : s.heap.IsTuple l items)
    (h : ∀ m', IsEnum m' (s.heap.objs.size + 1) s.heap.objs.size 0 .none → m'.IsTupleIter s.heap.objs.size l 0 → m'.objs.size = s.heap.objs.size + 2 →
      (∀ b o, s.heap.get? b = some o → m'.get? b = some o) → Q (.ref (s.heap.objs.size + 1)) { s with heap := m' }) :
    wpAny (model prog w) A (call (.type "enumerate") [.ref l]) Q E s := by
  obtain ⟨⟨c, dct, dt, sl⟩, zl, zc, n, zd⟩ := zL
  replace zc : c = .type "tuple" := zc
  replace zd : dt = .seq items n := zd
  subst zc zd
  refine callType_new F.called_enumerate (by decide) (F.typeCall_enumerate_1 _) (F.newCall_enumerate_1 _) (fun obj => F.args_object_init_2 obj _) F.entry_enumerate_new
    (meets_enumT l items n dct sl) ⟨zl, ?_⟩
  have zz : (s.heap.push { cls := .type "tuple_iterator", data := .fields #[.ref l, .int 0 0] }).objs.size = s.heap.objs.size + 1 := Heap.size_push ..
  show _ ∧ _
  rw [zz]
  have ze : IsEnum ((s.heap.push { cls := .type "tuple_iterator", data := .fields #[.ref l, .int 0 0] }).push
      { cls := .type "enumerate", data := .fields #[.none, .bool false, .ref s.heap.objs.size, rawInt 0, .none, .none] }) (s.heap.objs.size + 1) s.heap.objs.size 0 .none := by
    have := Heap.get?_push_size (s.heap.push { cls := .type "tuple_iterator", data := .fields #[.ref l, .int 0 0] })
      (o := { cls := .type "enumerate", data := .fields #[.none, .bool false, .ref s.heap.objs.size, rawInt 0, .none, .none] }) rfl
    rw [zz] at this; exact this
  refine ⟨⟨_, ze, rfl⟩, h _ ze ⟨_, Heap.get?_push_of_some _ (Heap.get?_push_size _ rfl), rfl, rfl⟩ (by rw [Heap.size_push, zz]) fun b o x => Heap.get?_push_of_some _ (Heap.get?_push_of_some _ x)⟩

end
end SLe
namespace SLe
open PySem PySem.Spec PyProof.Rows L2
def IteT (K : PySem.W.Frag) (a : Addr) : It :=
  ⟨fun i H => ∃ (xs : List V) (x : V), SqT K H a xs ∧ xs[i]? = some x, fun i H v H' => ∃ T x, v = .ref T ∧ H T = none ∧ H' = upd H T (.tup [.int (i : Nat), x]) ∧ ∀ xs, SqT K H a xs → xs[i]? = some x, fun i H => ∃ xs : List V, SqT K H a xs ∧ xs.length ≤ i⟩
theorem turn_enumT {P : Program} {w : World} {K : PySem.W.Frag} {elts : List Expr} {kk : Nat} {tpos : Pos} (a e it : Addr) :
    Turn P w K (.Tuple elts kk tpos) (IteT K a) [e, it] e (fun i h => (∃ was, IsEnum h e it ((i : Nat) : Int) was) ∧ h.IsTupleIter it a i ∧ e ≠ it) where
  mem := by simp
  obj := fun i h zst b zb => by
    obtain ⟨⟨was, ze⟩, ⟨o, zo, zc, zd⟩, _⟩ := zst
    have e' : b = e ∨ b = it := by simpa using zb
    rcases e' with z | z
    · rw [z]; exact ⟨_, ze, fun v q => nomatch q⟩
    · rw [z]; exact ⟨o, zo, fun v q => by rw [zd] at q; cases q⟩
  keep := fun i h m' zst k => let ⟨⟨was, ze⟩, hi, zne⟩ := zst; ⟨⟨was, k e (by simp) _ ze⟩, hi.at fun o q => k it (by simp) o q, zne⟩
  item := by
    intro X hP hw hK zc i pins s σ H E J zf zst zg
    subst hP hw hK
    obtain ⟨⟨was, ze⟩, zit, zne⟩ := zst
    obtain ⟨xs, x, zq, zx⟩ := zg
    obtain ⟨zits, zrv, p, zz⟩ := J.tuple zq
    obtain ⟨u, zu, zru⟩ := zrv.get zx
    have zel : e < s.heap.objs.size := Heap.lt_size ze
    have hil : it < s.heap.objs.size := by obtain ⟨_, q, _⟩ := zit; exact Heap.lt_size q
    refine pyNextT_item ze zit p (x := u) (by simpa using zu) zne fun m' zo zit' zT zsz zk => ?_
    refine ⟨_, rfl, wpAny_letOwnedTupleGo_enum (s := { s with heap := m', toks := s.toks + 1 }) zo fun m'' ze' zsb => ?_⟩
    have zT2 : m''.get? s.heap.objs.size = some { cls := .type "tuple", data := .seq #[.int i s.toks, u] } := (zsb.2 _ (Nat.ne_of_gt zel)).trans zT
    have znew : ObjOk X.prog X.w (upd H s.heap.objs.size (.tup [.int (i : Nat), x])) m'' s.heap.objs.size (.tup [.int (i : Nat), x]) :=
      ⟨by show 2 ≤ sizeLine; decide, [.int i s.toks, u], .cons ⟨_, rfl⟩ (.cons zru .nil), ⟨_, zT2, rfl, _, rfl⟩⟩
    have J1 : Inv X pins σ (upd H s.heap.objs.size (.tup [.int (i : Nat), x])) { s with heap := m'', toks := s.toks + 1 } :=
      J.turnedNew (ch := [e, it]) (fun b ob zb q => (zsb.2 b (fun z => zb (by simp [z]))).trans (zk b ob (fun z => zb (by simp [z])) (fun z => zb (by simp [z])) q)) zf (Nat.le_refl _) znew
    refine ⟨.ref s.heap.objs.size, _, J1, rfl, ⟨_, x, rfl, J.hok.fresh (Nat.le_refl _), rfl, fun ys hy => by rw [J.tuple_inj hy zq]; exact zx⟩, ⟨⟨u, ?_⟩, zit'.at fun o q => (zsb.2 it (Ne.symm zne)).trans q, zne⟩, fun b zb => ?_⟩
    · have e1 : ((i + 1 : Nat) : Int) = (i : Int) + 1 := by omega
      rw [e1]; exact ze'
    · have hb' : b < s.heap.objs.size := by
        have e' : b = e ∨ b = it := by simpa using zb
        rcases e' with z | z
        · rw [z]; exact zel
        · rw [z]; exact hil
      rw [upd_ne (Nat.ne_of_lt hb')]
      exact (zf b zb).1
  done := by
    intro X hP hw hK zc i pins s σ H E J zf zst zg
    subst hP hw hK
    obtain ⟨⟨was, ze⟩, zit, zne⟩ := zst
    obtain ⟨xs, zq, zx⟩ := zg
    obtain ⟨zits, zrv, p, zz⟩ := J.tuple zq
    obtain ⟨f0, f1, f2, f3, f4, f5⟩ := zf it (by simp)
    have zl := zrv.length
    exact pyNextT_end (J.ok.hd zc) ze zit p (by simp; omega) fun m' eb => ⟨rfl, J.turned (t' := s.toks) (fun b o zb q => eb b o zb q) f0 f1 f3 f4 f5⟩
  self := fun A i s Q E zst h => let ⟨⟨_, ze⟩, _⟩ := zst; wpAny_pyIter_enum ze h
end SLe
namespace SL
open PySem PySem.Spec PyProof.Rows L2
/-- enumerate of a list or a tuple -/
def iEnumX (K : PySem.W.Frag) (ta : TA) : TI := fun σ H R => ta σ H fun vs H1 => ∃ a xs, vs = [.ref a] ∧ ((SqL K H1 a xs ∧ (xs.length ≤ sizeLine → R (Ite K a) H1)) ∨ (SqT K H1 a xs ∧ (xs.length ≤ sizeLine → R (SLe.IteT K a) H1)))
theorem pi_enumX {X : Cx} {e : Expr} {ta : TA} {p pos tpos : Pos} {elts : List Expr} {kk : Nat} (hm : X.mg "enumerate" = none) (ha : PA X [e] ta) (hg : Gl X "enumerate") (hs : starEach [e] X.env = [(false, eval e X.env)]) :
    PI X (.Tuple elts kk tpos) (.Call (.Name "enumerate" p) [e] [] pos) (iEnumX X.K ta) := by
  refine ⟨fun pins s σ H R J q => Call_ (ld_blt J hg hm boot_enumerate (PyProof.Rows.callWith_type1 (thn (ha.run pos pins s σ H _ J q) fun us s1 ⟨vs, H1, J1, r1, a, xs, ex, q1⟩ => ?_) hs rfl))⟩
  subst ex
  cases r1 with
  | cons r rr =>
    cases rr
    cases r
    have fin : ∀ c : Addr, c = s1.heap.objs.size + 1 ∨ c = s1.heap.objs.size → s1.heap.objs.size ≤ c := fun c hc => by
      rcases hc with z | z <;> rw [z] <;> omega
    rcases q1 with ⟨hq, q1⟩ | ⟨hq, q1⟩
    · obtain ⟨its, rv, pp, hz⟩ := J1.list hq
      refine call_enumerate_list pp.isList fun h' ze zi _ zk => wpAny_pyIter_enum ze ?_
      have J2 : Inv X pins σ H1 { s1 with heap := h' } := J1.kept (t' := s1.toks) zk
      refine ⟨s1.heap.objs.size + 1, [s1.heap.objs.size + 1, s1.heap.objs.size], _, _, H1, rfl, J2, turn_enum a _ _, ⟨⟨.none, ze⟩, zi, Nat.succ_ne_self _⟩, fun c hc => ?_, q1 hz⟩
      have hle := fin c (by simpa using hc)
      exact J1.fpOk hle (J1.hok.fresh hle)
    · obtain ⟨its, rv, pp, hz⟩ := J1.tuple hq
      refine SLe.call_enumT (show s1.heap.IsTuple a its.toArray from pp) fun h' ze zi _ zk => wpAny_pyIter_enum ze ?_
      have J2 : Inv X pins σ H1 { s1 with heap := h' } := J1.kept (t' := s1.toks) zk
      refine ⟨s1.heap.objs.size + 1, [s1.heap.objs.size + 1, s1.heap.objs.size], _, _, H1, rfl, J2, SLe.turn_enumT a _ _, ⟨⟨.none, ze⟩, zi, Nat.succ_ne_self _⟩, fun c hc => ?_, q1 hz⟩
      have hle := fin c (by simpa using hc)
      exact J1.fpOk hle (J1.hok.fresh hle)
theorem numbered_get {ws : List W} {i : Nat} {w : W} (h : ws[i]? = some w) : (numbered ws)[i]? = some (.tup [.int (i : Nat), w]) := by
  unfold numbered; rw [List.getElem?_mapIdx, h]; rfl
/-- what is walked is no list that may change -/
def isCel : W → Bool
  | .cell _ => true
  | _ => false
def enSrc : W → W
  | .cell k => .int k
  | _ => .non
theorem numbered_inj {us ws : List W} (h : numbered us = numbered ws) : us = ws := by
  have hl : us.length = ws.length := by
    have := congrArg List.length h
    simpa [numbered] using this
  refine List.ext_getElem? fun i => ?_
  rcases Nat.lt_or_ge i us.length with q | q
  · have h1 := numbered_get (List.getElem?_eq_getElem q)
    have q2 : i < ws.length := by omega
    have h2 := numbered_get (List.getElem?_eq_getElem q2)
    rw [h, h2] at h1
    injection h1 with h1
    injection h1 with h1
    injection h1 with _ h1
    injection h1 with h1 _
    rw [List.getElem?_eq_getElem q, List.getElem?_eq_getElem q2, h1]
  · rw [List.getElem?_eq_none q, List.getElem?_eq_none (by omega)]
theorem enSrc_ok {x : W} {us : List W} {st : Sto} (hx : ∀ i, x ≠ .int i) (h : srcOk (enSrc x) (numbered us) st) : srcOk x us st := by
  cases x with
  | cell k =>
    obtain ⟨vs, h1, h2⟩ := h
    rw [numbered_inj h2]
    exact h1
  | int k => exact absurd rfl (hx k)
  | _ => trivial
def iEn (f : SemL) : SemI := fun fr st => (f fr st).bind fun vs st1 => match vs with
  | [x] => (match itW st1 x with
    | some ws => .ok (enSrc x, numbered ws) st1
    | none => .bad)
  | _ => .bad
section
variable {X : Cx} {Wx : Wish}
/-- a new tuple is laid -/
theorem enum_yld {K : PySem.W.Frag} {mg : Str → Option Value} {hid μ : List Addr} {st : Sto} {H H' : Hp} {ws : List W} {i : Nat} {v : V} {vs : List V} (k : StOk K mg μ st hid H) (r : Reps K mg (Fz μ st hid H) μ ws vs)
    (y : ∃ T x, v = .ref T ∧ H T = none ∧ H' = upd H T (.tup [.int (i : Nat), x]) ∧ vs[i]? = some x) : StOk K mg μ st hid H' ∧ Grow hid μ st H μ st H' ∧ ∃ w, (numbered ws)[i]? = some w ∧ Rep K mg (Fz μ st hid H') μ w v := by
  obtain ⟨T, x, rfl, hT, rfl, hx⟩ := y
  obtain ⟨w, h1, h2⟩ := r.get' hx
  obtain ⟨k1, g1, e1⟩ := k.laid (o := .tup [.int (i : Nat), x]) hT
  refine ⟨k1, g1, _, numbered_get h1, ?_⟩
  exact rep_tup e1 (.cons rep_int (.cons (h2.mono g1.le (.refl _)) .nil))
theorem iv_enum {e : Expr} {f : SemL} {p pos tpos : Pos} {elts : List Expr} {kk : Nat} (hm : X.mg "enumerate" = none) (ha : AV X Wx [e] f) (hg : Gl X "enumerate" := by rfl) (hs : starEach [e] X.env = [(false, eval e X.env)] := by rfl) :
    IV X Wx (.Tuple elts kk tpos) (.Call (.Name "enumerate" p) [e] [] pos) (iEn f) := PIm (pi_enumX hm ha hg hs) fun σ H R ⟨μ, st, hid, fr, S, P⟩ => by
  refine ⟨μ, st, hid, fr, S, ?_⟩
  unfold iEn at P
  cases h1 : f fr st with
  | bad => rw [h1] at P; exact P
  | err x s => rw [h1] at P; exact P
  | ok ws st1 =>
    rw [h1, Out.bind_ok] at P
    intro μ1 H1 vs k1 g1 r1
    have P1 := IPost.from g1 P
    split at P1
    · rename_i x
      obtain ⟨v, rfl, r2⟩ := reps1 (ws := []) r1
      split at P1
      · rename_i us e
        · have hn' : ∀ i, x ≠ .int i := fun i ex => by subst ex; cases e
          have hnl : (numbered us).length = us.length := by simp [numbered]
          obtain ⟨a, vs0, rfl, hl, q | q⟩ := seq_now k1 e r2
          · refine ⟨a, vs0, rfl, .inl ⟨q.1, fun hz => P1 μ1 H1 _ k1 .refl ?_⟩⟩
            exact {
              len := by rw [hnl, ← hl]; exact hz
              go := fun hid μ st H i k l p _ _ hi => by
                obtain ⟨ys, h1, h2⟩ := q.2 hid μ st H k l p (enSrc_ok hn' ‹srcOk (enSrc x) (numbered us) st›)
                rw [hnl] at hi
                exact ⟨ys, ys[i]'(by rw [← h2.length]; exact hi), h1, by simp⟩
              yld := fun hid μ st H i v H' k l p _ _ hi y => by
                obtain ⟨ys, h1, h2⟩ := q.2 hid μ st H k l p (enSrc_ok hn' ‹srcOk (enSrc x) (numbered us) st›)
                obtain ⟨T, x, a1, a2, a3, a4⟩ := y
                exact enum_yld k h2 ⟨T, x, a1, a2, a3, a4 ys h1⟩
              stop := fun hid μ st H i k l p _ _ hi => by
                obtain ⟨ys, h1, h2⟩ := q.2 hid μ st H k l p (enSrc_ok hn' ‹srcOk (enSrc x) (numbered us) st›)
                rw [hnl] at hi
                exact ⟨ys, h1, by rw [← h2.length]; exact hi⟩ }
          · refine ⟨a, vs0, rfl, .inr ⟨q.1, fun hz => P1 μ1 H1 _ k1 .refl ?_⟩⟩
            exact {
              len := by rw [hnl, ← hl]; exact hz
              go := fun hid μ st H i k l p _ _ hi => by
                obtain ⟨ys, h1, h2⟩ := q.2 hid μ st H k l p (enSrc_ok hn' ‹srcOk (enSrc x) (numbered us) st›)
                rw [hnl] at hi
                exact ⟨ys, ys[i]'(by rw [← h2.length]; exact hi), h1, by simp⟩
              yld := fun hid μ st H i v H' k l p _ _ hi y => by
                obtain ⟨ys, h1, h2⟩ := q.2 hid μ st H k l p (enSrc_ok hn' ‹srcOk (enSrc x) (numbered us) st›)
                obtain ⟨T, x, a1, a2, a3, a4⟩ := y
                exact enum_yld k h2 ⟨T, x, a1, a2, a3, a4 ys h1⟩
              stop := fun hid μ st H i k l p _ _ hi => by
                obtain ⟨ys, h1, h2⟩ := q.2 hid μ st H k l p (enSrc_ok hn' ‹srcOk (enSrc x) (numbered us) st›)
                rw [hnl] at hi
                exact ⟨ys, h1, by rw [← h2.length]; exact hi⟩ }
      · exact P1.elim
    · exact P1.elim
end
end SL

namespace SL
open PySem PySem.Spec PyProof.Rows L2
/-! ## own exceptions with two fields -/
def spI2 (C : Addr) (f1 f2 : Str) : Sp := fun vs H Q _ => ∃ a y z, vs = [.ref a, y, z] ∧ H a = some (exo a C none) ∧ ∀ dx, H dx = none → dx ≠ a → Q .non (upd (upd (upd H dx (exd dx [(f1, y)])) a (exo a C (some dx))) dx (exd dx [(f2, z), (f1, y)]))
structure Exc2 (P : Program) (w : World) (K : PySem.W.Frag) (mg : Str → Option Value) (base : Heap) (c f1 f2 : Str) : Prop where
  ex : ∃ (C fI : Addr) (fd : FuncData) (x y : Str), OexC K C ∧ PySem.W.findIn K (.ref C) "__init__" = some (some (.ref fI)) ∧ PySem.W.typeIn K (.ref fI) = some (.type "function") ∧ FnOk P w K mg base (L2.CX P w) 1 fI fd ["self", x, y] (spI2 C f1 f2) ∧ Binds K fd ["self", x, y] [] ∧ mg c = some (.ref C)
theorem init2 {P : Program} {w : World} {K : PySem.W.Frag} {mg : Str → Option Value} {base : Heap} {qual : Str} {st : Stmt} {f C : Addr} {fd : FuncData} {x y f1 f2 : Str} {p1 p2 p3 p4 q1 q2 q3 q4 : Pos} (F : Fun K "__init__" qual st f fd) (S : FnScope ["self", x, y] ["self", x, y] (defScope st))
    (hb : defBody st = [.Assign [.Attribute (.Name "self" p1) f1 p2] (.Name x p3) p4, .Assign [.Attribute (.Name "self" q1) f2 q2] (.Name y q3) q4]) (T : OexC K C) (h1 : PySem.W.findIn K (.ref C) f1 = some none) (h2 : PySem.W.findIn K (.ref C) f2 = some none)
    (hd : (x == ("__debug__" : Str)) = false) (hc : (x == ("__classdict__" : Str)) = false) (hd2 : (y == ("__debug__" : Str)) = false) (hc2 : (y == ("__classdict__" : Str)) = false) : FnOk P w K mg base (L2.CX P w) 1 f fd ["self", x, y] (spI2 C f1 f2) := by
  refine F.okX (k := 0) S (fun vs H Q E h => ?_) (fun cdv A outer s H vs Q E hr h => ?_)
  · obtain ⟨a, y, z, rfl, _⟩ := h; rfl
  · rw [hb]
    have vis : ∀ z ∈ (["self", x, y] : List Str), Vis (defScope st) z := fun z hz => (S.par z hz).elim .inl fun q => .inr (.inl q)
    refine ⟨_, pss_cons (ps_ost (pe_var (i := 0) rfl (vis "self" (by simp))) (pe_var (i := 1) rfl (vis x (by simp)) hd hc)) (pss_one (ps_ost (pe_var (i := 0) rfl (vis "self" (by simp))) (pe_var (i := 2) rfl (vis y (by simp)) hd2 hc2))), ?_⟩
    obtain ⟨a, u, z, rfl, g1, g2⟩ := h
    refine ⟨u, rfl, .ref a, rfl, a, C, rfl, T, h1, .inl ⟨g1, fun dx n ne => ?_⟩⟩
    exact ⟨z, rfl, .ref a, rfl, a, C, rfl, T, h2, .inr ⟨dx, [(f1, u)], upd_same, by rw [upd_ne ne, upd_same], (by decide : 1 ≤ 900), g2 dx n ne⟩⟩
theorem del_eq2 {H : Hp} {a d : Addr} {o o1 o2 o3 o4 : HO} (ha : H a = none) (hd : d ≠ a) : upd (del (upd (upd (upd (upd H a o) d o1) a o2) d o4) a) d o3 = upd H d o3 := by
  funext b
  by_cases e : b = d
  · subst e; rw [upd_same, upd_same]
  · rw [upd_ne e, upd_ne e]
    by_cases z : b = a
    · subst z; rw [del_same, ha]
    · rw [del_ne z, upd_ne e, upd_ne z, upd_ne e, upd_ne z]
/-- raise C(e, f): the fields stand from behind -/
def sRaise2 (c f1 f2 : Str) (f : SemL) : SSem := fun fr st => (f fr st).stm fr fun ws st1 => match ws with
  | [u, v] => .er ⟨c, [f2, f1], [v, u]⟩ fr st1
  | _ => .bad
section
variable {X : Cx} {Wx : Wish}
theorem sv_raise2 {k : Nat} {c f1 f2 : Str} {f : SemL} {e : Expr} {es : List Expr} {p p2 pos : Pos} (C : Ctx X Wx k) (hk : 2 ≤ k) (E : Exc2 X.prog X.w X.K X.mg X.base c f1 f2) (ha : AV X Wx (e :: es) f) (hg : Gl X c := by rfl) (hdb : (c == ("__debug__" : Str)) = false := by decide)
    (he : starEach (e :: es) X.env = (false, eval e X.env) :: starEach es X.env := by rfl) (hpl : (backTo p2 (starEach es X.env)).any (·.1) = false := by rfl) :
    SV X Wx (.Raise (some (.Call (.Name c p) (e :: es) [] p2)) none pos) (sRaise2 c f1 f2 f) := by
  obtain ⟨A, fI, fd, x, y, T, h1, h2, F, B, hm⟩ := E.ex
  refine PSm (ps_raise C.calm C.tk (pmk_oex (CX := L2.CX X.prog X.w) (k := 1) T h1 h2 F (C.room.mono hk) B .nil (fun pins σ H s u s' I z => ?_) hg hm ha hdb he hpl)) fun D σ H ⟨μ, st, hid, fr, S, P⟩ => ?_
  · obtain ⟨_, _, _, _, _, _, _, _, _, _, _, _, z⟩ := z
    exact z.elim
  · refine ⟨μ, st, hid, fr, S, ?_⟩
    unfold sRaise2 at P
    cases e1 : f fr st with
    | bad => rw [e1] at P; exact P
    | err x s => rw [e1] at P; exact fun μ1 H1 c d k1 g1 xr => P μ1 σ H1 c d (S.next k1 g1) g1 xr
    | ok ws st1 =>
      rw [e1, Out.stm_ok] at P
      intro μ1 H1 vs k1 g1 r1
      have P1 := SPost.from g1 P
      split at P1
      · rename_i u v
        obtain ⟨u', vs1, rfl, ru, r2⟩ := r1.cons_inv
        obtain ⟨v', vs2, rfl, rv, r3⟩ := r2.cons_inv
        rw [Reps.nil_iff] at r3
        subst r3
        refine ⟨by simp, fun a na => ⟨a, u', v', rfl, upd_same, fun dx nd ne => ⟨rfl, dx, [(f2, v'), (f1, u')], by rw [upd_ne (Ne.symm ne), upd_same], upd_same, ?_, ?_⟩⟩⟩
        · rw [upd_ne ne] at nd; exact nd
        · rw [upd_ne ne] at nd
          rw [del_eq2 na ne]
          obtain ⟨k2, g2, e2⟩ := k1.laid (o := .xd [(f2, v'), (f1, u')]) nd
          exact P1 μ1 σ _ _ _ ((S.next k1 g1).next k2 g2) g2 ⟨A, hm, rfl, .inr ⟨dx, [v', u'], rfl, rfl, e2, .cons (rv.mono g2.le (.refl _)) (.cons (ru.mono g2.le (.refl _)) .nil)⟩⟩
      · exact P1.elim
end
end SL

namespace SL
open PySem PySem.Spec PyProof.Rows L2
/-! # dicts whose keys are ints and texts -/
/-- the keys, the values -/
def dctW (st : Sto) (x : W) : Option (List Key × List W) := match x with
  | .cell k => match st[k]? with
    | some (.dct ks ws) => (match kindW ks with
      | some (_, .inl kk) => some (kk, ws)
      | _ => none)
    | _ => none
  | .dct ks ws => (match kindW ks with
    | some (_, .inl kk) => some (kk, ws)
    | _ => none)
  | _ => none
def valW {α : Type} (l : List (Key × α)) (k : Key) : Option α := (l.find? fun p => decide (p.1 = k)).map (·.2)
def putX {α : Type} (kk : List Key) (xs : List α) (k : Key) (x : α) : List α := (kk.zip xs).map fun p => if p.1 = k then x else p.2
theorem zip_put {α : Type} (k : Key) (x : α) : ∀ (kk : List Key) (xs : List α), kk.length = xs.length → (kk.zip xs).map (fun kv => if kv.1 = k then (kv.1, x) else kv) = kk.zip (putX kk xs k x)
  | [], xs, _ => by simp
  | j :: kk, [], h => by simp at h
  | j :: kk, y :: xs, h => by
    have ih := zip_put k x kk xs (by simpa using h)
    unfold putX at ih ⊢
    rw [List.zip_cons_cons, List.map_cons, List.map_cons, List.zip_cons_cons, ih]
    by_cases e : j = k <;> simp [e]
theorem putX_len {α : Type} {kk : List Key} {xs : List α} {k : Key} {x : α} (h : kk.length = xs.length) : (putX kk xs k x).length = kk.length := by
  unfold putX; rw [List.length_map, List.length_zip]; omega
theorem any_zip {α : Type} (k : Key) : ∀ (kk : List Key) (xs : List α), kk.length = xs.length → ((kk.zip xs).any fun kv => decide (kv.1 = k)) = kk.any fun j => decide (j = k)
  | [], xs, _ => by simp
  | j :: kk, [], h => by simp at h
  | j :: kk, y :: xs, h => by
    rw [List.zip_cons_cons, List.any_cons, List.any_cons, any_zip k kk xs (by simpa using h)]
theorem mapO_len {α β : Type} {f : α → Option β} : ∀ {l : List α} {m : List β}, mapO f l = some m → m.length = l.length
  | [], m, h => by unfold mapO at h; cases h; rfl
  | a :: l, m, h => by
    unfold mapO at h
    cases e1 : f a with
    | none => rw [e1] at h; cases h
    | some b =>
      cases e2 : mapO f l with
      | none => rw [e1, e2] at h; cases h
      | some bs => rw [e1, e2] at h; cases h; simp [mapO_len e2]
theorem mapO_snoc {α β : Type} {f : α → Option β} : ∀ {l : List α} {m : List β} {a : α} {b : β}, mapO f l = some m → f a = some b → mapO f (l ++ [a]) = some (m ++ [b])
  | [], m, a, b, h, h2 => by
    unfold mapO at h; cases h
    show (match f a, mapO f [] with | some b, some bs => some (b :: bs) | _, _ => none) = _
    rw [h2]; rfl
  | c :: l, m, a, b, h, h2 => by
    unfold mapO at h
    cases e1 : f c with
    | none => rw [e1] at h; cases h
    | some d =>
      cases e2 : mapO f l with
      | none => rw [e1, e2] at h; cases h
      | some bs =>
        rw [e1, e2] at h; cases h
        show (match f c, mapO f (l ++ [a]) with | some b, some bs => some (b :: bs) | _, _ => none) = _
        rw [e1, mapO_snoc e2 h2]; rfl
theorem mapO_get {α β : Type} {f : α → Option β} : ∀ {l : List α} {m : List β}, mapO f l = some m → ∀ {i : Nat} {a : α} {b : β}, l[i]? = some a → m[i]? = some b → f a = some b
  | [], m, h, i, a, b, h1, _ => by simp at h1
  | c :: l, m, h, i, a, b, h1, h2 => by
    unfold mapO at h
    cases e1 : f c with
    | none => rw [e1] at h; cases h
    | some d =>
      cases e2 : mapO f l with
      | none => rw [e1, e2] at h; cases h
      | some bs =>
        rw [e1, e2] at h; cases h
        cases i with
        | zero => simp at h1 h2; rw [← h1, ← h2]; exact e1
        | succ i => simp at h1 h2; exact mapO_get e2 h1 h2
theorem kind_plain {ks : List W} {kk : List Key} (h : mapO keyW ks = some kk) : kindW ks = some (false, .inl kk) := by
  cases ks with
  | nil => unfold mapO at h; cases h; rfl
  | cons w ks =>
    have z : ∀ t, w ≠ .ty t := fun t e => by
      subst e
      have : mapO keyW (.ty t :: ks) = none := rfl
      rw [this] at h; cases h
    cases w with
    | ty t => exact absurd rfl (z t)
    | int i =>
      show (mapO keyW (.int i :: ks)).map _ = _
      rw [h]; rfl
    | str i =>
      show (mapO keyW (.str i :: ks)).map _ = _
      rw [h]; rfl
    | _ => exact nomatch h
theorem unl_plain {ks : List W} {ws : List W} {kk : List Key} (h : mapO keyW ks = some kk) : (Cel.dct ks ws).unl = true := by
  cases ks with
  | nil => rfl
  | cons w ks =>
    cases w with
    | ty t =>
      have : mapO keyW (.ty t :: ks) = none := rfl
      rw [this] at h; cases h
    | _ => rfl
section
variable {K : PySem.W.Frag} {mg : Str → Option Value} {F : Hp} {μ : List Addr}
theorem key_rep {w : W} {k : Key} {v : V} (h : keyW w = some k) (r : Rep K mg F μ w v) : v = kV k := by
  cases w with
  | int i => unfold keyW at h; cases h; exact rep_int_inv r
  | str i => unfold keyW at h; cases h; exact rep_str_inv r
  | _ => cases h
theorem rep_key {w : W} {k : Key} (h : keyW w = some k) : Rep K mg F μ w (kV k) := by
  cases w with
  | int i => unfold keyW at h; cases h; exact rep_int
  | str i => unfold keyW at h; cases h; unfold Rep; rfl
  | _ => cases h
/-- what is found: alike -/
theorem val_at (k : Key) : ∀ {kk : List Key} {ws : List W} {vs : List V}, kk.length = vs.length → Reps K mg F μ ws vs → (∀ w, valW (kk.zip ws) k = some w → ∃ v, valV (kk.zip vs) k = some v ∧ Rep K mg F μ w v) ∧ (valW (kk.zip ws) k = none → valV (kk.zip vs) k = none)
  | [], ws, vs, _, _ => by
    refine ⟨fun w h => ?_, fun _ => rfl⟩
    simp [valW] at h
  | j :: kk, ws, [], h, _ => by simp at h
  | j :: kk, ws, v :: vs, h, r => by
    have hl := r.length
    cases ws with
    | nil => simp at hl
    | cons w ws =>
      obtain ⟨v', vs', e, r1, r2⟩ := r.cons_inv
      cases e
      obtain ⟨i1, i2⟩ := val_at k (kk := kk) (ws := ws) (vs := vs) (by simpa using h) r2
      by_cases e : j = k
      · rw [List.zip_cons_cons, List.zip_cons_cons, valV_pos (p := (j, v)) e]
        have z : valW ((j, w) :: kk.zip ws) k = some w := by simp [valW, List.find?_cons, e]
        rw [z]
        exact ⟨fun u h => by cases h; exact ⟨v, rfl, r1⟩, fun h => nomatch h⟩
      · rw [List.zip_cons_cons, List.zip_cons_cons, valV_neg (p := (j, v)) e]
        have z : valW ((j, w) :: kk.zip ws) k = valW (kk.zip ws) k := by simp [valW, List.find?_cons, e]
        rw [z]
        exact ⟨i1, i2⟩
theorem reps_put {k : Key} {w : W} {v : V} (rw_ : Rep K mg F μ w v) : ∀ {kk : List Key} {ws : List W} {vs : List V}, kk.length = vs.length → Reps K mg F μ ws vs → Reps K mg F μ (putX kk ws k w) (putX kk vs k v)
  | [], ws, vs, _, _ => by unfold putX; simp; exact .nil
  | j :: kk, ws, [], h, _ => by simp at h
  | j :: kk, ws, u :: vs, h, r => by
    have hl := r.length
    cases ws with
    | nil => simp at hl
    | cons w' ws =>
      obtain ⟨v', vs', e, r1, r2⟩ := r.cons_inv
      cases e
      have ih := reps_put (k := k) rw_ (kk := kk) (ws := ws) (vs := vs) (by simpa using h) r2
      unfold putX at ih ⊢
      rw [List.zip_cons_cons, List.zip_cons_cons, List.map_cons, List.map_cons]
      refine .cons ?_ ih
      by_cases e : j = k
      · simp only [e, if_true]; exact rw_
      · simp only [e, if_false]; exact r1
theorem dctW_at {hid : List Addr} {st : Sto} {H : Hp} {x : W} {v : V} {kk : List Key} {ws : List W} (k : StOk K mg μ st hid H) (h : dctW st x = some (kk, ws)) (r : Rep K mg (Fz μ st hid H) μ x v) :
    ∃ a vs, v = .ref a ∧ kk.length = vs.length ∧ Rd H a (.dK (kk.zip vs)) ∧ Reps K mg (Fz μ st hid H) μ ws vs := by
  have go : ∀ {F : Hp} {a : Addr} {ks us : List W} {vs : List V}, (∀ o, F a = some o → H a = some o) → DctAt F a ks vs → (match kindW ks with
      | some (_, .inl kk) => some (kk, us)
      | _ => none) = some (kk, ws) → us = ws ∧ kk.length = vs.length ∧ Rd H a (.dK (kk.zip vs)) := fun {F a ks us vs} l d e => by
    obtain ⟨b, q, h1, h2, h3, _⟩ := d
    rw [h1] at e
    cases q with
    | inr q => cases e
    | inl q =>
      cases e
      refine ⟨rfl, h2, ?_⟩
      rcases h3 with h3 | ⟨o, h3⟩
      · exact .inl (l _ h3)
      · exact .inr ⟨o, l _ h3⟩
  cases x with
  | cell n =>
    unfold dctW at h
    simp only at h
    split at h
    · rename_i ks us e
      obtain ⟨a, rfl, e2, vs, h1, h2⟩ := k.cell e r
      obtain ⟨rfl, g1, g2⟩ := go (fun _ z => z) h1.rd h
      exact ⟨a, vs, rfl, g1, g2, h2⟩
    · cases h
  | dct ks us =>
    unfold Rep at r
    obtain ⟨a, vs, rfl, h1, h2⟩ := r
    obtain ⟨rfl, g1, g2⟩ := go (us := us) (fun _ z => (Fz.sub z).1) h1 h
    exact ⟨a, vs, rfl, g1, g2, h2⟩
  | _ => cases h
end
/-! ## reading -/
def oDGet : Op2 := fun x y st => match dctW st x, keyW y with
  | some (kk, ws), some k => (match valW (kk.zip ws) k with
    | some w => .ok w st
    | none => .bad)
  | _, _ => .bad
def oDIn (f : Bool → Bool) : Op2 := fun y x st => match dctW st x, keyW y with
  | some (kk, ws), some k => .ok (.bl (f (valW (kk.zip ws) k).isSome)) st
  | _, _ => .bad
def rDGet : R2 := fun x y H Q => ∃ a v, x = .ref a ∧ DGet H a y (some v) ∧ Q v H
def rDIn (f : Bool → Bool) : R2 := fun y x H Q => ∃ a o, x = .ref a ∧ DGet H a y o ∧ Q (.bl (f o.isSome)) H
def oDLen : OpN := fun ws st => match ws with
  | [x] => (match dctW st x with
    | some (kk, _) => .ok (.int kk.length) st
    | none => .bad)
  | _ => .bad
def rDLen : List V → Hp → VK → Prop := fun xs H Q => ∃ a kvs, xs = [V.ref a] ∧ Rd H a (.dK kvs) ∧ Q (.int kvs.length) H
/-- d.get(k, x) -/
def eDGet2 (f g h : Sem) : Sem := fun fr st => (f fr st).bind fun x st1 => if (dctW st1 x).isSome = true then (g fr st1).bind fun y st2 => (h fr st2).bind fun z st3 => (match dctW st3 x, keyW y with
  | some (kk, ws), some k => .ok ((valW (kk.zip ws) k).getD z) st3
  | _, _ => .bad) else .bad
section
variable {X : Cx} {Wx : Wish}
theorem dget_of {K : PySem.W.Frag} {mg : Str → Option Value} {μ hid : List Addr} {st : Sto} {H : Hp} {x y : W} {xv yv : V} {kk : List Key} {ws : List W} {j : Key} (k : StOk K mg μ st hid H) (hx : dctW st x = some (kk, ws)) (hy : keyW y = some j) (rx : Rep K mg (Fz μ st hid H) μ x xv) (ry : Rep K mg (Fz μ st hid H) μ y yv) :
    ∃ a, xv = .ref a ∧ ((∃ w v, valW (kk.zip ws) j = some w ∧ DGet H a yv (some v) ∧ Rep K mg (Fz μ st hid H) μ w v) ∨ (valW (kk.zip ws) j = none ∧ DGet H a yv none)) := by
  obtain ⟨a, vs, rfl, h1, h2, h3⟩ := dctW_at k hx rx
  obtain ⟨v1, v2⟩ := val_at (K := K) (mg := mg) (F := Fz μ st hid H) (μ := μ) j h1 h3
  refine ⟨a, rfl, ?_⟩
  cases e : valW (kk.zip ws) j with
  | some w =>
    obtain ⟨v, e2, r⟩ := v1 w e
    exact .inl ⟨w, v, rfl, .inl ⟨_, j, h2, key_rep hy ry, e2.symm⟩, r⟩
  | none => exact .inr ⟨rfl, .inl ⟨_, j, h2, key_rep hy ry, (v2 e).symm⟩⟩
theorem os_dget : Op2S X oDGet rDGet := by
  intro Wx hid μ st σ H Q x y xv yv k rx ry P
  unfold oDGet at P
  split at P
  · rename_i kk ws j hx hy
    obtain ⟨a, rfl, ⟨w, v, e1, e2, e3⟩ | ⟨e1, _⟩⟩ := dget_of k hx hy rx ry
    · rw [e1] at P
      exact ⟨a, v, rfl, e2, P μ H _ k .refl e3⟩
    · rw [e1] at P; exact P.elim
  · exact P.elim
theorem os_din {f : Bool → Bool} : Op2S X (oDIn f) (rDIn f) := by
  intro Wx hid μ st σ H Q y x yv xv k ry rx P
  unfold oDIn at P
  split at P
  · rename_i kk ws j hx hy
    obtain ⟨a, rfl, ⟨w, v, e1, e2, e3⟩ | ⟨e1, e2⟩⟩ := dget_of k hx hy rx ry
    · rw [e1] at P
      exact ⟨a, _, rfl, e2, P μ H _ k .refl rep_bl⟩
    · rw [e1] at P
      exact ⟨a, _, rfl, e2, P μ H _ k .refl rep_bl⟩
  · exact P.elim
theorem ev_dget {k : Nat} {o i : Expr} {f g : Sem} {pos : Pos} (C : Ctx X Wx k) (ho : EV X Wx o f) (hi : EV X Wx i g) (hs : NoSl i := by intro _ _; rfl) : EV X Wx (.Subscript o i pos) (e2 oDGet f g) :=
  PEm (pe_dget (by have := C.room.un; omega) ho hi hs) (e2_read os_dget)
theorem ev_din {k : Nat} {o i : Expr} {f g : Sem} {pos : Pos} (C : Ctx X Wx k) (hi : EV X Wx i g) (ho : EV X Wx o f) (hm : behindInMarks .In o = false := by rfl) : EV X Wx (.Compare i [.In] [o] pos) (e2 (oDIn fun b => b) g f) :=
  PEm (pe_cmp (pc_din (by have := C.room.un; omega) hi ho) hm) (e2_read os_din)
theorem tv_din {k : Nat} {o i : Expr} {f g : Sem} {pos : Pos} (C : Ctx X Wx k) (hi : EV X Wx i g) (ho : EV X Wx o f) (hm : behindInMarks .In o = false := by rfl) : TV X Wx (.Compare i [.In] [o] pos) (bOf (e2 (oDIn fun b => b) g f)) :=
  PTm (pt_cmp (pc_din (by have := C.room.un; omega) hi ho) hm) (bOf_read (e2_read os_din))
theorem ev_dnin {k : Nat} {o i : Expr} {f g : Sem} {pos : Pos} (C : Ctx X Wx k) (hi : EV X Wx i g) (ho : EV X Wx o f) (hm : behindInMarks .NotIn o = false := by rfl) : EV X Wx (.Compare i [.NotIn] [o] pos) (e2 (oDIn not) g f) :=
  PEm (pe_cmp (pc_dnotin (by have := C.room.un; omega) hi ho) hm) (e2_read os_din)
theorem tv_dnin {k : Nat} {o i : Expr} {f g : Sem} {pos : Pos} (C : Ctx X Wx k) (hi : EV X Wx i g) (ho : EV X Wx o f) (hm : behindInMarks .NotIn o = false := by rfl) : TV X Wx (.Compare i [.NotIn] [o] pos) (bOf (e2 (oDIn not) g f)) :=
  PTm (pt_cmp (pc_dnotin (by have := C.room.un; omega) hi ho) hm) (bOf_read (e2_read os_din))
theorem cr_dlen : CallR X (.builtin "len") rDLen := by
  intro pins s σ H vs us Q J r hq
  obtain ⟨a, kvs, rfl, hd, q⟩ := hq
  rw [Vals.ref1 r]
  exact d_len J hd fun t s' J' => ⟨.int _, H, J', ⟨_, rfl⟩, q⟩
theorem os_dlen : OpNS X oDLen rDLen := by
  intro Wx hid μ st σ H Q ws vs k r P
  unfold oDLen at P
  split at P
  · rename_i x
    obtain ⟨v, rfl, r1⟩ := reps1 (ws := []) r
    split at P
    · rename_i kk us e
      obtain ⟨a, xs, rfl, h1, h2, h3⟩ := dctW_at k e r1
      have hl : (kk.zip xs).length = kk.length := by rw [List.length_zip]; omega
      exact ⟨a, _, rfl, h2, by rw [hl]; exact P μ H _ k .refl rep_int⟩
    · exact P.elim
  · exact P.elim
theorem dctW_isD {K : PySem.W.Frag} {mg : Str → Option Value} {μ hid : List Addr} {st : Sto} {H : Hp} {x : W} {v : V} (k : StOk K mg μ st hid H) (h : (dctW st x).isSome = true) (r : Rep K mg (Fz μ st hid H) μ x v) : ∃ a, v = .ref a ∧ IsD H a := by
  cases e : dctW st x with
  | none => rw [e] at h; cases h
  | some p =>
    obtain ⟨a, vs, rfl, _, h2, _⟩ := dctW_at (kk := p.1) (ws := p.2) k e r
    exact ⟨a, rfl, .inl ⟨_, h2⟩⟩
theorem ev_dget2 {k : Nat} {o e d : Expr} {f g h : Sem} {apos cpos : Pos} (C : Ctx X Wx k) (ho : EV X Wx o f) (he : EV X Wx e g) (hd : EV X Wx d h) (m : M2 X o "get" apos e d cpos := by exact ⟨rfl, rfl, rfl, rfl⟩) : EV X Wx (.Call (.Attribute o "get" apos) [e, d] [] cpos) (eDGet2 f g h) :=
  PEm (pe_dget2 (by have := C.room.un; omega) ho he hd m) fun σ H Q ⟨μ, st, hid, fr, S, P⟩ => by
    refine ⟨μ, st, hid, fr, S, ?_⟩
    unfold eDGet2 at P
    cases h1 : f fr st with
    | bad => rw [h1] at P; exact P
    | err x s => rw [h1] at P; exact P
    | ok x st1 =>
      rw [h1, Out.bind_ok] at P
      intro μ1 H1 xv k1 g1 r1
      have P1 := EPost.from g1 P
      split at P1
      · rename_i hx
        obtain ⟨a, rfl, hd⟩ := dctW_isD k1 hx r1
        refine ⟨a, rfl, hd, μ1, st1, hid, fr, S.next k1 g1, ?_⟩
        cases h2 : g fr st1 with
        | bad => rw [h2] at P1; exact P1
        | err x s => rw [h2] at P1; exact P1
        | ok y st2 =>
          rw [h2, Out.bind_ok] at P1
          intro μ2 H2 yv k2 g2 r2
          have P2 := EPost.from g2 P1
          refine ⟨μ2, st2, hid, fr, (S.next k1 g1).next k2 g2, ?_⟩
          cases h3 : h fr st2 with
          | bad => rw [h3] at P2; exact P2
          | err x s => rw [h3] at P2; exact P2
          | ok z st3 =>
            rw [h3, Out.bind_ok] at P2
            intro μ3 H3 zv k3 g3 r3
            have P3 := EPost.from g3 P2
            split at P3
            · rename_i kk ws j hx3 hy
              obtain ⟨a', e1, ⟨w, v, e2, e3, e4⟩ | ⟨e2, e3⟩⟩ := dget_of k3 hx3 hy (Rep.mono (g2.trans g3).le (g2.trans g3).pre _ _ r1) (Rep.mono g3.le g3.pre _ _ r2)
              · cases e1
                rw [e2] at P3
                exact ⟨some v, e3, P3 μ3 H3 _ k3 .refl e4⟩
              · cases e1
                rw [e2] at P3
                exact ⟨none, e3, P3 μ3 H3 _ k3 .refl r3⟩
            · exact P3.elim
      · exact P1.elim
/-! ## making -/
def eDct0 : Sem := fun _ st => .ok (.cell st.length) (st ++ [.dct [] []])
theorem ev_dct0 {pos : Pos} : EV X Wx (.Dict [] [] pos) eDct0 := PEm pe_dnewK fun σ H Q ⟨μ, st, hid, fr, S, P⟩ => by
  intro p hp
  obtain ⟨k2, g2⟩ := S.sto.newCell (c := .dct [] []) (o := .dK []) hp rfl ⟨[], ⟨false, .inl [], rfl, rfl, upd_same⟩, .nil⟩
  refine P _ _ _ k2 g2 ?_
  unfold Rep
  exact ⟨p, by rw [← S.sto.len]; simp, rfl⟩
/-- {i: j} -/
def eDct1 (i j : Int) : Sem := fun _ st => .ok (.cell st.length) (st ++ [.dct [.int i] [.int j]])
theorem ev_dct1 {i j : Int} {n m : Nat} {p1 p2 pos : Pos} : EV X Wx (.Dict [some (.Constant (.int i) n p1)] [.Constant (.int j) m p2] pos) (eDct1 i j) :=
  PEm (pe_disp (pps_cons pe_int pe_int pps_nil) rfl rfl (by simp) (by simp)) fun σ H Q ⟨μ, st, hid, fr, S, P⟩ => by
    intro p hp
    refine ⟨upd_same, [(.inl i, .int j)], rfl, by simp, ?_⟩
    have e : upd (upd H p (.dK [])) p (.dK (mergeK [] [(.inl i, .int j)])) = upd H p (.dK [(.inl i, .int j)]) := by
      funext b
      by_cases z : b = p
      · subst z; rw [upd_same, upd_same]; rfl
      · rw [upd_ne z, upd_ne z, upd_ne z]
    rw [e]
    obtain ⟨k2, g2⟩ := S.sto.newCell (c := .dct [.int i] [.int j]) (o := .dK [(.inl i, .int j)]) hp rfl ⟨[.int j], ⟨false, .inl [.inl i], rfl, rfl, upd_same⟩, .cons rep_int .nil⟩
    refine P _ _ _ k2 g2 ?_
    unfold Rep
    exact ⟨p, by rw [← S.sto.len]; simp, rfl⟩
/-! ## writing -/
def uDct : Op3 := fun o y w st => match o with
  | .cell n => (match st[n]? with
    | some (.dct ks ws) => (match mapO keyW ks, keyW y with
      | some kk, some j => if ks.length < LINE then (if (kk.any fun i => decide (i = j)) = true then some (st.set n (.dct ks (putX kk ws j w))) else some (st.set n (.dct (ks ++ [y]) (ws ++ [w])))) else none
      | _, _ => none)
    | _ => none)
  | _ => none
theorem os_setD : Op3S X uDct rSetD := by
  intro hid μ st st' H Q o y w ov yv v k ro ry rw_ e q
  unfold uDct at e
  split at e
  · rename_i n
    split at e
    · rename_i ks ws e1
      split at e
      · rename_i kk j hk hy
        obtain ⟨a, rfl, h1, vs, ⟨l, q', g1, g2, g3⟩, h3⟩ := k.cell e1 ro
        rw [kind_plain hk] at g1
        cases g1
        have g3' : H a = some (.dK (kk.zip vs)) := g3
        have g2' : kk.length = vs.length := g2
        split at e
        · rename_i hl
          have hz : (kk.zip vs).length < sizeLine := by
            have := mapO_len hk
            have := le_line (Nat.le_of_lt hl)
            rw [List.length_zip]
            unfold LINE at hl
            rw [sizeLine_eq]; omega
          refine ⟨a, _, rfl, .inl ⟨kk.zip vs, j, g3', key_rep hy ry, hz, rfl⟩, ?_⟩
          unfold putK
          rw [any_zip j kk vs g2']
          split at e
          · rename_i hany
            cases e
            rw [if_pos hany, zip_put j v kk vs g2']
            have hl2 : kk.length = (putX kk vs j v).length := by rw [putX_len g2']
            obtain ⟨k2, g4⟩ := k.setCell (c' := .dct ks (putX kk ws j w)) (o := .dK (kk.zip (putX kk vs j v))) h1 e1 rfl rfl ⟨_, ⟨false, .inl kk, kind_plain hk, hl2, upd_same⟩, reps_put rw_ g2' h3⟩ (unl_plain hk)
            exact q _ _ k2 g4
          · rename_i hany
            cases e
            rw [if_neg hany]
            have ez : kk.zip vs ++ [(j, v)] = (kk ++ [j]).zip (vs ++ [v]) := by rw [List.zip_append g2']; rfl
            rw [ez]
            have hk2 := mapO_snoc hk hy
            obtain ⟨k2, g4⟩ := k.setCell (c' := .dct (ks ++ [y]) (ws ++ [w])) (o := .dK ((kk ++ [j]).zip (vs ++ [v]))) h1 e1 rfl rfl ⟨_, ⟨false, .inl (kk ++ [j]), kind_plain hk2, by show (kk ++ [j]).length = (vs ++ [v]).length; simp [g2'], upd_same⟩, h3.append (.cons rw_ .nil)⟩ (unl_plain hk)
            exact q _ _ k2 g4
        · cases e
      · cases e
    · cases e
  · cases e
theorem sv_subD {k : Nat} {o i e : Expr} {f fo fi : Sem} {pos tpos : Pos} (C : Ctx X Wx k) (he : EV X Wx e f) (ho : EV X Wx o fo) (hi : EV X Wx i fi)
    (ha : ∀ v, assign (.Subscript o i tpos) X.env v = (do
      let ov ← holding [v] (eval o X.env)
      let iv ← holding [v, ov] (eval i X.env)
      standAt tpos
      holding [v, ov, iv] (setItem ov iv v)
      release [v, ov, iv] []) := by intro _; rfl)
    (hs1 : swapsWithSole [.Subscript o i tpos] e pos.line X.env = pure false := by rfl) (hw : swappedStores [.Subscript o i tpos] e X.env = pure none := by rfl) (h1 : (assignEach [.Subscript o i tpos] X.env).map (·.2) = [assign (.Subscript o i tpos) X.env] := by rfl) :
    SV X Wx (.Assign [.Subscript o i tpos] e pos) (sSub uDct f fo fi) := sv_sub (set_dict (by have := C.room.un; omega)) os_setD he ho hi ha hs1 hw h1
end
end SL

namespace SL
open PySem PySem.Spec PyProof.Rows L2
/-! # a dict walked: locked meanwhile -/
def lkL : List W → List W := fun ks => .ty "L" :: ks
/-- the cell n's dict is let go -/
def unlk (n : Nat) (st : Sto) : Option Sto := match st[n]? with
  | some (.dct (.ty t :: ks) ws) => if t = "L" then (match mapO keyW ks with
    | some _ => some (st.set n (.dct ks ws))
    | none => none) else none
  | _ => none
def unlS (n : Nat) : SOut → SOut
  | .nx fr st => (match unlk n st with
    | some st2 => .nx fr st2
    | none => .bad)
  | .bk fr st => (match unlk n st with
    | some st2 => .bk fr st2
    | none => .bad)
  | .ct fr st => (match unlk n st with
    | some st2 => .ct fr st2
    | none => .bad)
  | .rt w st => (match unlk n st with
    | some st2 => .rt w st2
    | none => .bad)
  | _ => .bad
def unlE (n : Nat) : Out W → Out W
  | .ok w st => (match unlk n st with
    | some st2 => .ok w st2
    | none => .bad)
  | _ => .bad
/-- while s runs the dict in slot i is locked; one that is locked already stays so -/
def sLock (i : Nat) (s : SSem) : SSem := fun fr st => match fr[i]? with
  | some (some (.cell n)) => (match st[n]? with
    | some (.dct ks ws) => (match mapO keyW ks with
      | some _ => unlS n (s fr (st.set n (.dct (lkL ks) ws)))
      | none => s fr st)
    | _ => .bad)
  | _ => .bad
def eLock (i : Nat) (e : Sem) : Sem := fun fr st => match fr[i]? with
  | some (some (.cell n)) => (match st[n]? with
    | some (.dct ks ws) => (match mapO keyW ks with
      | some _ => unlE n (e fr (st.set n (.dct (lkL ks) ws)))
      | none => e fr st)
    | _ => .bad)
  | _ => .bad
/-- the keys of the locked dict in slot i -/
def iKeysW (i : Nat) : SemI := fun fr st => match fr[i]? with
  | some (some (.cell n)) => (match st[n]? with
    | some (.dct (.ty t :: ks) _) => if t = "L" then (match mapO keyW ks with
      | some _ => if ks.length ≤ LINE then .ok (.non, ks) st else .bad
      | none => .bad) else .bad
    | _ => .bad)
  | _ => .bad
section
variable {K : PySem.W.Frag} {mg : Str → Option Value} {Wx : Wish} {μ hid : List Addr} {st : Sto} {fr : Fr} {σ : L2.St} {H : Hp}
theorem live_dct {ks ws : List W} : (Cel.dct ks ws).live = true := rfl
/-- the state as it is locked -/
theorem SI.lock (S : SI K mg Wx μ st hid fr σ H) {i n : Nat} {ks ws : List W} {kk : List Key} (hf : fr[i]? = some (some (.cell n))) (hn : st[n]? = some (.dct ks ws)) (hk : mapO keyW ks = some kk) :
    ∃ (d : Addr) (vs : List V), μ[n]? = some d ∧ d ∉ hid ∧ kk.length = vs.length ∧ H d = some (.dK (kk.zip vs)) ∧ ∀ od, SI K mg Wx μ (st.set n (.dct (lkL ks) ws)) hid fr σ (upd H d (.frz od (.dK (kk.zip vs)))) ∧ Fz μ (st.set n (.dct (lkL ks) ws)) hid (upd H d (.frz od (.dK (kk.zip vs)))) = Fz μ st hid H := by
  obtain ⟨v, hv, r⟩ := S.loc i _ hf
  obtain ⟨d, rfl, h1, vs, ⟨l, q, g1, g2, g3⟩, h3⟩ := S.sto.cell hn r
  rw [kind_plain hk] at g1
  cases g1
  have g3' : H d = some (.dK (kk.zip vs)) := g3
  have g2' : kk.length = vs.length := g2
  refine ⟨d, vs, h1, S.sto.hidn n d _ h1 hn rfl, g2', g3', fun od => ?_⟩
  have kl : kindW (lkL ks) = some (true, .inl kk) := by
    show (mapO keyW ks).map (fun kk => (true, Sum.inl kk)) = _
    rw [hk]; rfl
  obtain ⟨k2, e, _⟩ := S.sto.setCell0 (c' := .dct (lkL ks) ws) (o := .frz od (.dK (kk.zip vs))) h1 hn rfl rfl ⟨vs, ⟨true, .inl kk, kl, g2', od, upd_same⟩, h3⟩
  exact ⟨⟨k2, S.len, fun j w h => by rw [e]; exact S.loc j w h, by rw [e]; exact S.ex⟩, e⟩
/-- .. and let go -/
theorem unlk_at {n : Nat} {st2 : Sto} {d : Addr} {od : Obj} {u : HO} (k : StOk K mg μ st hid H) (h : unlk n st = some st2) (hd : μ[n]? = some d) (hH : H d = some (.frz od u)) :
    StOk K mg μ st2 hid (upd H d u) ∧ Fz μ st2 hid (upd H d u) = Fz μ st hid H := by
  unfold unlk at h
  split at h
  · rename_i t ks ws hn
    split at h
    · rename_i ht
      subst ht
      split at h
      · rename_i kk hk
        cases h
        obtain ⟨vs, ⟨l, q, g1, g2, g3⟩, h3⟩ := k.ok n d _ hd hn
        have kl : kindW (.ty "L" :: ks) = some (true, .inl kk) := by
          show (mapO keyW ks).map (fun kk => (true, Sum.inl kk)) = _
          rw [hk]; rfl
        rw [kl] at g1
        cases g1
        obtain ⟨o, g3⟩ := g3
        have g3' : H d = some (.frz o (.dK (kk.zip vs))) := g3
        rw [hH] at g3'
        cases g3'
        obtain ⟨k2, e, _⟩ := k.setCell0 (c' := .dct ks ws) (o := .dK (kk.zip vs)) hd hn rfl rfl ⟨vs, ⟨false, .inl kk, kind_plain hk, g2, upd_same⟩, h3⟩
        exact ⟨k2, e⟩
      · cases h
    · cases h
  · cases h
theorem SI.free {μ2 : List Addr} {st2 st3 : Sto} {fr2 : Fr} {σ2 : L2.St} {H2 : Hp} {n : Nat} {d : Addr} {od : Obj} {u : HO} (S2 : SI K mg Wx μ2 st2 hid fr2 σ2 H2) (h : unlk n st2 = some st3) (hd : μ2[n]? = some d) (hH : H2 d = some (.frz od u)) : SI K mg Wx μ2 st3 hid fr2 σ2 (upd H2 d u) := by
  obtain ⟨k3, e⟩ := unlk_at S2.sto h hd hH
  exact ⟨k3, S2.len, fun j w h => by rw [e]; exact S2.loc j w h, by rw [e]; exact S2.ex⟩
/-- from before the lock to behind it -/
theorem grow_lock {st1 st2 st3 : Sto} {μ2 : List Addr} {H1 H2 : Hp} {n : Nat} {d : Addr} {od : Obj} {u : HO} (e1 : Fz μ st1 hid H1 = Fz μ st hid H) (hd : d ∉ hid) (hu : H d = some u) (nf : ∀ o z, u ≠ .frz o z) (hH1 : H1 = upd H d (.frz od u)) (g : Grow hid μ st1 H1 μ2 st2 H2) (e2 : Fz μ2 st3 hid (upd H2 d u) = Fz μ2 st2 hid H2) :
    Grow hid μ st H μ2 st3 (upd H2 d u) := by
  subst hH1
  refine ⟨g.pre, by rw [e2, ← e1]; exact g.le, fun a ha => ?_, fun a o z h => ?_⟩
  · have ne : a ≠ d := fun e => hd (e ▸ ha)
    rw [upd_ne ne, g.hid a ha, upd_ne ne]
  · have ne : a ≠ d := fun e => by
      rw [e, hu] at h
      exact nf o z (Option.some.inj h)
    rw [upd_ne ne]
    exact g.lck a o z (by rw [upd_ne ne]; exact h)
end
section
variable {X : Cx} {Wx : Wish}
theorem PSor {st : Stmt} {t1 t2 : TS} (h1 : PS X st t1) (h2 : PS X st t2) : PS X st (fun D σ H => t1 D σ H ∨ t2 D σ H) := ⟨fun pins s σ H D I q => q.elim (h1.run pins s σ H D I) (h2.run pins s σ H D I)⟩
theorem PEor {e : Expr} {t1 t2 : TE} (h1 : PE X e t1) (h2 : PE X e t2) : PE X e (fun σ H Q => t1 σ H Q ∨ t2 σ H Q) := ⟨fun pins s σ H Q I q => q.elim (h1.run pins s σ H Q I) (h2.run pins s σ H Q I)⟩
theorem sv_lock {i : Nat} {st : Stmt} {s : SSem} (h : SV X Wx st s) : SV X Wx st (sLock i s) := PSm (PSor (ps_lock h) h) fun D σ H ⟨μ, st, hid, fr, S, P⟩ => by
  unfold sLock at P
  split at P
  · rename_i n hf
    split at P
    · rename_i ks ws hn
      split at P
      · rename_i kk hk
        obtain ⟨d, vs, h1, h2, h3, h4, h5⟩ := S.lock hf hn hk
        refine .inl ⟨d, _, h4, trivial, fun od => ?_⟩
        obtain ⟨S1, e1⟩ := h5 od
        refine ⟨μ, _, hid, fr, S1, ?_⟩
        have at2 : ∀ {μ2 : List Addr} {st2 : Sto} {H2 : Hp}, Grow hid μ (st.set n (.dct (lkL ks) ws)) (upd H d (.frz od (.dK (kk.zip vs)))) μ2 st2 H2 → μ2[n]? = some d ∧ H2 d = some (.frz od (.dK (kk.zip vs))) := fun g => ⟨g.pre.get h1, g.lck _ _ _ upd_same⟩
        cases e : s fr (st.set n (.dct (lkL ks) ws)) with
        | bad => rw [e] at P; exact P
        | er x f s => rw [e] at P; exact False.elim P
        | nx f2 st2 =>
          rw [e] at P
          intro μ2 σ2 H2 S2 g
          obtain ⟨a1, a2⟩ := at2 g
          refine ⟨a2, ?_⟩
          cases eu : unlk n st2 with
          | none => simp only [unlS, eu] at P; exact False.elim P
          | some st3 =>
            simp only [unlS, eu] at P
            exact P μ2 σ2 _ (S2.free eu a1 a2) (grow_lock (n := n) e1 h2 h4 (fun o z q => nomatch q) rfl g (unlk_at S2.sto eu a1 a2).2)
        | bk f2 st2 =>
          rw [e] at P
          intro μ2 σ2 H2 S2 g
          obtain ⟨a1, a2⟩ := at2 g
          refine ⟨a2, ?_⟩
          cases eu : unlk n st2 with
          | none => simp only [unlS, eu] at P; exact False.elim P
          | some st3 =>
            simp only [unlS, eu] at P
            exact P μ2 σ2 _ (S2.free eu a1 a2) (grow_lock (n := n) e1 h2 h4 (fun o z q => nomatch q) rfl g (unlk_at S2.sto eu a1 a2).2)
        | ct f2 st2 =>
          rw [e] at P
          intro μ2 σ2 H2 S2 g
          obtain ⟨a1, a2⟩ := at2 g
          refine ⟨a2, ?_⟩
          cases eu : unlk n st2 with
          | none => simp only [unlS, eu] at P; exact False.elim P
          | some st3 =>
            simp only [unlS, eu] at P
            exact P μ2 σ2 _ (S2.free eu a1 a2) (grow_lock (n := n) e1 h2 h4 (fun o z q => nomatch q) rfl g (unlk_at S2.sto eu a1 a2).2)
        | rt w st2 =>
          rw [e] at P
          intro μ2 H2 v k2 g r2
          obtain ⟨a1, a2⟩ := at2 g
          refine ⟨a2, ?_⟩
          cases eu : unlk n st2 with
          | none => simp only [unlS, eu] at P; exact False.elim P
          | some st3 =>
            simp only [unlS, eu] at P
            obtain ⟨k3, e3⟩ := unlk_at k2 eu a1 a2
            exact P μ2 _ v k3 (grow_lock (n := n) e1 h2 h4 (fun o z q => nomatch q) rfl g e3) (by rw [e3]; exact r2)
      · exact .inr ⟨μ, st, hid, fr, S, P⟩
    · exact P.elim
  · exact P.elim
theorem ev_lock {i : Nat} {e : Expr} {f : Sem} (h : EV X Wx e f) : EV X Wx e (eLock i f) := PEm (PEor (pe_lock h) h) fun σ H Q ⟨μ, st, hid, fr, S, P⟩ => by
  unfold eLock at P
  split at P
  · rename_i n hf
    split at P
    · rename_i ks ws hn
      split at P
      · rename_i kk hk
        obtain ⟨d, vs, h1, h2, h3, h4, h5⟩ := S.lock hf hn hk
        refine .inl ⟨d, _, h4, trivial, fun od => ?_⟩
        obtain ⟨S1, e1⟩ := h5 od
        refine ⟨μ, _, hid, fr, S1, ?_⟩
        cases e : f fr (st.set n (.dct (lkL ks) ws)) with
        | bad => rw [e] at P; exact P
        | err x s => rw [e] at P; exact P.elim
        | ok w st2 =>
          rw [e] at P
          intro μ2 H2 v k2 g r2
          have a1 := g.pre.get h1
          have a2 := g.lck _ _ _ (upd_same (H := H) (a := d) (o := .frz od (.dK (kk.zip vs))))
          refine ⟨a2, ?_⟩
          cases eu : unlk n st2 with
          | none => simp only [unlE, eu] at P; exact False.elim P
          | some st3 =>
            simp only [unlE, eu] at P
            obtain ⟨k3, e3⟩ := unlk_at k2 eu a1 a2
            exact P μ2 _ v k3 (grow_lock (n := n) e1 h2 h4 (fun o z q => nomatch q) rfl g e3) (by rw [e3]; exact r2)
      · exact .inr ⟨μ, st, hid, fr, S, P⟩
    · exact P.elim
  · exact P.elim
theorem iv_keys {i : Nat} {x : Str} {tg : Expr} {pos : Pos} (he : EV X Wx (.Name x pos) (eVar i)) : IV X Wx tg (.Name x pos) (iKeysW i) := PIm (pi_keys he) fun σ H R ⟨μ, st, hid, fr, S, P⟩ => by
  unfold iKeysW at P
  split at P
  · rename_i n hf
    split at P
    · rename_i t ks ws hn
      split at P
      · rename_i ht
        subst ht
        split at P
        · rename_i kk hk
          split at P
          · rename_i hl
            refine ⟨μ, st, hid, fr, S, ?_⟩
            have ev : eVar i fr st = .ok (.cell n) st := by unfold eVar; rw [hf]
            rw [ev]
            intro μ1 H1 v k1 g1 r1
            obtain ⟨d, rfl, h1, vs, ⟨l, q, c1, c2, c3⟩, h3⟩ := k1.cell hn r1
            have kl : kindW (.ty "L" :: ks) = some (true, .inl kk) := by
              show (mapO keyW ks).map (fun kk => (true, Sum.inl kk)) = _
              rw [hk]; rfl
            rw [kl] at c1
            cases c1
            obtain ⟨o, c3⟩ := c3
            have c3' : H1 d = some (.frz o (.dK (kk.zip vs))) := c3
            have c2' : kk.length = vs.length := c2
            have hkl := mapO_len hk
            have hz : (kk.zip vs).length = ks.length := by rw [List.length_zip]; omega
            refine ⟨d, o, rfl, .inl ⟨_, c3', P μ1 H1 _ k1 g1 ?_⟩⟩
            exact {
              len := le_line hl
              go := fun hid μ st H j k l p q s hj => ⟨q _ _ _ c3', by rw [hz]; exact hj⟩
              yld := fun hid μ st H j v H' k l p q s hj y => by
                obtain ⟨rfl, key, u, e1, rfl⟩ := y
                refine ⟨k, .refl, ks[j], List.getElem?_eq_getElem hj, ?_⟩
                have e2 : kk[j]? = some key := by
                  rw [List.getElem?_zip_eq_some] at e1
                  exact e1.1
                exact rep_key (mapO_get hk (List.getElem?_eq_getElem hj) e2)
              stop := fun hid μ st H j k l p q s hj => ⟨q _ _ _ c3', by rw [hz]; exact hj⟩ }
          · exact P.elim
        · exact P.elim
      · exact P.elim
    · exact P.elim
  · exact P.elim
end
end SL

namespace SL
open PySem PySem.Spec PyProof.Rows L2
/-! ## a def that hands back an old cell or a new one -/
def leaveB (n : Nat) (w : W) (st : Sto) : Out W := match w with
  | .cell j => if n ≤ j then leaveC n (.cell j) st else leave n (.cell j) st
  | w => leave n w st
theorem lv_leaveB {K : PySem.W.Frag} {mg : Str → Option Value} : LvOk K mg leaveB := fun n hid μ0 μ st0 st H0 H Wx σ Q w v hn g k r P => by
  unfold leaveB at P
  split at P
  · split at P
    · exact lv_leaveC n hid μ0 μ st0 st H0 H Wx σ Q _ v hn g k r P
    · exact lv_leave n hid μ0 μ st0 st H0 H Wx σ Q _ v hn g k r P
  · exact lv_leave n hid μ0 μ st0 st H0 H Wx σ Q _ v hn g k r P
def mkFnB (m : Nat) (b : SSem) : Fn := mkFnG leaveB m b
/-! ## an own instance is of no built-in type -/
structure NoTy (K : PySem.W.Frag) (C : Addr) : Prop where
  no : ∀ n, tyN n = true → PySem.W.kitOne K (.ref C) (.type n) = some false
theorem noTy_of {K : PySem.W.Frag} {C : Addr} (h1 : PySem.W.mroIn K C (.type "int") = some false) (h2 : PySem.W.mroIn K C (.type "bool") = some false) (h3 : PySem.W.mroIn K C (.type "str") = some false) (h4 : PySem.W.mroIn K C (.type "tuple") = some false) (h5 : PySem.W.mroIn K C (.type "list") = some false) (h6 : PySem.W.mroIn K C (.type "dict") = some false) (h7 : PySem.W.mroIn K C (.type "NoneType") = some false) : NoTy K C := ⟨fun n hn => by
  have go : ∀ t, PySem.W.kitMeta t = true → PySem.W.mroIn K C (.type t) = some false → PySem.W.kitOne K (.ref C) (.type t) = some false := fun t a b => by
    show (if (Value.ref C == Value.type t) = true then some true else (if PySem.W.kitMeta t = true then PySem.W.subIn K (.ref C) (.type t) else none)) = some false
    have z : (Value.ref C == Value.type t) = false := by simp
    rw [if_neg (by rw [z]; exact Bool.false_ne_true), if_pos a]
    exact b
  simp only [tyN, Bool.or_eq_true, beq_iff_eq] at hn
  rcases hn with (((((rfl | rfl) | rfl) | rfl) | rfl) | rfl) | rfl
  · exact go _ (by decide +kernel) h1
  · exact go _ (by decide +kernel) h2
  · exact go _ (by decide +kernel) h3
  · exact go _ (by decide +kernel) h4
  · exact go _ (by decide +kernel) h5
  · exact go _ (by decide +kernel) h6
  · exact go _ (by decide +kernel) h7⟩
theorem noAny {K : PySem.W.Frag} {C : Addr} (h : NoTy K C) : ∀ ns : List String, ns.all tyN = true → PySem.W.kitAny K (.ref C) (ns.map Value.type) = some false
  | [], _ => rfl
  | n :: ns, e => by
    rw [List.all_cons, Bool.and_eq_true] at e
    show (match PySem.W.kitOne K (.ref C) (.type n) with
      | some true => some true
      | some false => PySem.W.kitAny K (.ref C) (ns.map Value.type)
      | none => none) = _
    rw [h.no n e.1]
    exact noAny h ns e.2
/-- isinstance of data, and of the class c's instances -/
def oIsiI (c : Str) : OpN := fun ws st => match ws with
  | [x, .ty n] => (match insW st x with
    | some (e, _, _) => if e = c ∧ tyN n = true then .ok (.bl false) st else .bad
    | none => oIsi [x, .ty n] st)
  | [x, .tup cs] => (match insW st x with
    | some (e, _, _) => (match tyNames cs with
      | some ns => if e = c ∧ ns.all tyN = true then .ok (.bl false) st else .bad
      | none => .bad)
    | none => oIsi [x, .tup cs] st)
  | _ => .bad
section
variable {X : Cx}
theorem os_isiI {c : Str} {C : Addr} (hm : X.mg c = some (.ref C)) (T : ClsC X.K C) (N : NoTy X.K C) : OpNS X (oIsiI c) (rIsiAll X.K) := by
  intro Wx hid μ st σ H Q ws vs k r P
  unfold oIsiI at P
  split at P
  · rename_i x n
    split at P
    · rename_i e n' w' hi
      split at P
      · rename_i he
        obtain ⟨rfl, hn⟩ := he
        obtain ⟨v, z, rfl, r1, r2⟩ := reps2 r
        obtain ⟨a, D, dx, us, rfl, g1, g2, g3, g4⟩ := insW_at k hi r1
        rw [hm] at g1
        cases g1
        rw [rep_ty_inv r2]
        exact .inl ⟨.ref a, .ty n, .ref C, .type n, false, rfl, .ty n, .base (.ins g3 T.cl T.ha T.hn T.htk T.hm), N.no n hn, P μ H _ k .refl rep_bl⟩
      · exact P.elim
    · exact os_isi _ hid μ st σ H Q _ vs k r P
  · rename_i x cs
    split at P
    · rename_i e n' w' hi
      split at P
      · rename_i ns e2
        split at P
        · rename_i he
          obtain ⟨rfl, hn⟩ := he
          obtain ⟨v, c', rfl, r1, r2⟩ := reps2 r
          obtain ⟨a, D, dx, us, rfl, g1, g2, g3, g4⟩ := insW_at k hi r1
          rw [hm] at g1
          cases g1
          have ty : TyX X.K H (.ref a) (.ref C) := .base (.ins g3 T.cl T.ha T.hn T.htk T.hm)
          obtain ⟨b, us, rfl, h1, h2⟩ := rep_tup_inv r2
          have e3 := tyNames_at e2 h2
          subst e3
          exact .inr (.inl ⟨_, b, _, .ref C, _, _, rfl, (Fz.sub h1).1, paired_ty ns, ty, noAny N ns hn, P μ H _ k .refl rep_bl⟩)
        · exact P.elim
      · exact P.elim
    · exact os_isi _ hid μ st σ H Q _ vs k r P
  · exact P.elim
end
end SL

namespace SL
open PySem PySem.Spec PyProof.Rows L2
/-! ## {'x': e}, as data -/
def eDctS (x : Str) (f : Sem) : Sem := fun fr st => (f fr st).bind fun w st1 => .ok (.dct [.str x] [w]) st1
section
variable {X : Cx} {Wx : Wish}
theorem ev_dctS {x : Str} {e : Expr} {f : Sem} {n : Nat} {p1 pos : Pos} (he : EV X Wx e f) : EV X Wx (.Dict [some (.Constant (.str x) n p1)] [e] pos) (eDctS x f) :=
  PEm (pe_disp (pps_cons pe_str he pps_nil) rfl rfl (by simp) (by simp)) fun σ H Q ⟨μ, st, hid, fr, S, P⟩ => by
    intro p hp
    have pn : p ∉ hid := fun z => (S.sto.hidt p z).1 hp
    obtain ⟨k2, e2⟩ := S.sto.hideNew (o := .dK []) hp
    have S2 : SI X.K X.mg Wx μ st (p :: hid) fr σ (upd H p (.dK [])) := ⟨k2, S.len, fun j w h => by rw [e2]; exact S.loc j w h, by rw [e2]; exact S.ex⟩
    refine ⟨μ, st, p :: hid, fr, S2, ?_⟩
    unfold eDctS at P
    have lk0 : ∀ {H1 : Hp}, Lk (upd H p (.dK [])) H1 → Lk H H1 := fun l a o u h => l a o u (by rw [upd_ne (ne_of_none h hp)]; exact h)
    cases h1 : f fr st with
    | bad => rw [h1] at P; exact P
    | err z s =>
      rw [h1] at P
      intro μ1 H1 c d k1 g1 xr
      obtain ⟨k3, l3, e3⟩ := k1.seen pn ((g1.hid p List.mem_cons_self).trans upd_same)
      refine P μ1 H1 c d k3 ⟨g1.pre, ?_, fun a ha => ?_, lk0 g1.lck⟩ (xr.mono l3 (.refl _))
      · rw [← e2]; exact g1.le.trans l3
      · have ne : a ≠ p := fun z => pn (z ▸ ha)
        rw [g1.hid a (List.mem_cons_of_mem _ ha), upd_ne ne]
    | ok w st1 =>
      rw [h1, Out.bind_ok] at P
      intro μ1 H1 v k1 g1 r1
      have hp1 : H1 p = some (.dK []) := (g1.hid p List.mem_cons_self).trans upd_same
      refine ⟨hp1, [(.inr x, v)], rfl, by simp, ?_⟩
      have k4 := k1.hidUpd (o := .dK [(.inr x, v)]) (List.mem_cons_self (a := p) (l := hid))
      have f4 := Fz.hidUpd (μ := μ1) (st := st1) (H := H1) (o := .dK [(.inr x, v)]) (List.mem_cons_self (a := p) (l := hid))
      obtain ⟨k5, l5, e5⟩ := k4.seen pn upd_same
      refine P μ1 _ _ k5 ⟨g1.pre, ?_, fun a ha => ?_, fun a o u h => ?_⟩ ?_
      · rw [← e2]; exact (g1.le.trans (by rw [f4]; exact .refl _)).trans l5
      · have ne : a ≠ p := fun z => pn (z ▸ ha)
        show upd H1 p _ a = _
        rw [upd_ne ne, g1.hid a (List.mem_cons_of_mem _ ha), upd_ne ne]
      · have q := lk0 g1.lck a o u h
        have ne : a ≠ p := fun z => by rw [z, hp1] at q; cases q
        show upd H1 p _ a = _
        rw [upd_ne ne]; exact q
      · unfold Rep
        exact ⟨p, [v], rfl, ⟨false, .inl [.inr x], rfl, rfl, .inl e5, fun _ kk z => nomatch z⟩, .cons (r1.mono (by rw [← f4]; exact l5) (.refl _)) .nil⟩
end
/-! ## words of reckoning -/
section
variable {st : Sto} {c : Str} {n : String} {cs : List W}
@[simp] theorem isiI_int {i : Int} : oIsiI c [.int i, .ty n] st = oIsi [.int i, .ty n] st := rfl
@[simp] theorem isiI_bl {b : Bool} : oIsiI c [.bl b, .ty n] st = oIsi [.bl b, .ty n] st := rfl
@[simp] theorem isiI_str {x : Str} : oIsiI c [.str x, .ty n] st = oIsi [.str x, .ty n] st := rfl
@[simp] theorem isiI_non : oIsiI c [.non, .ty n] st = oIsi [.non, .ty n] st := rfl
@[simp] theorem isiI_tup {ws : List W} : oIsiI c [.tup ws, .ty n] st = oIsi [.tup ws, .ty n] st := rfl
@[simp] theorem isiI_lst {ws : List W} : oIsiI c [.lst ws, .ty n] st = oIsi [.lst ws, .ty n] st := rfl
@[simp] theorem isiI_dct {ks ws : List W} : oIsiI c [.dct ks ws, .ty n] st = oIsi [.dct ks ws, .ty n] st := rfl
theorem isiI_ins {ns : List Str} {ws : List W} (h : tyN n = true) : oIsiI c [.ins c ns ws, .ty n] st = .ok (.bl false) st := by
  show (if c = c ∧ tyN n = true then Out.ok (W.bl false) st else .bad) = _
  rw [if_pos ⟨rfl, h⟩]
end
end SL

/-! # len(set(xs)), xs a list of tuples of ints -/
namespace SL
open PySem PySem.Spec PyProof.Rows L2
def tLenSetT (K : PySem.W.Frag) (ta : TE) : TE := fun σ H Q => ta σ H fun x H1 => ∃ (l : Addr) (ks : List (Addr × List Int)), x = V.ref l ∧ SqL K H1 l (ks.map fun p => V.ref p.1) ∧ (∀ p ∈ ks, SqT K H1 p.1 (p.2.map V.int)) ∧ ks.length < 64 ∧
  ∀ L : List (Addr × List Int), (∀ p ∈ L, p ∈ ks) → (∀ p ∈ ks, p.2 ∈ L.map (·.2)) → (L.map (·.2)).Nodup → Q (.int L.length) H1
/-- each one once -/
def onceL : List (List Int) → List (List Int)
  | [] => []
  | k :: ks => if k ∈ onceL ks then onceL ks else k :: onceL ks
theorem mem_once {k : List Int} : ∀ {ks : List (List Int)}, k ∈ onceL ks ↔ k ∈ ks
  | [] => .rfl
  | x :: ks => by
    unfold onceL
    by_cases h : x ∈ onceL ks
    · rw [if_pos h, mem_once, List.mem_cons]
      constructor
      · exact .inr
      · rintro (rfl | z)
        · exact mem_once.mp h
        · exact z
    · rw [if_neg h, List.mem_cons, List.mem_cons, mem_once]
theorem nodup_once : ∀ ks : List (List Int), (onceL ks).Nodup
  | [] => List.nodup_nil
  | x :: ks => by
    unfold onceL
    by_cases h : x ∈ onceL ks
    · rw [if_pos h]; exact nodup_once ks
    · rw [if_neg h]; exact List.nodup_cons.mpr ⟨h, nodup_once ks⟩
noncomputable def eLenSet (f : Sem) : Sem := fun fr st => (f fr st).bind fun w st1 => match (lstW st1 w).bind tupsI with
  | some ks => if dec (ks.length < 64) = true then .ok (.int (onceL ks).length) st1 else .bad
  | none => .bad
section
variable {X : Cx} {Wx : Wish}
theorem pe_lenSetT {a : Expr} {ta : TE} {p p2 q pos : Pos} (hc : X.calm = true) (hu : X.A.units + 64 < cLine) (hg : Gl X "len") (hm : X.mg "len" = none) (hg2 : Gl X "set") (hm2 : X.mg "set" = none) (ha : PE X a ta)
    (na : starEach [a] X.env = (false, eval a X.env) :: starEach [] X.env := by rfl) : PE X (.Call (.Name "len" p) [.Call (.Name "set" p2) [a] [] q] [] pos) (tLenSetT X.K ta) := by
  refine ⟨fun pins s σ H Q I h => ?_⟩
  refine Call_ (ld_blt I hg hm PySem.boot_len ?_)
  refine PyProof.Rows.callWith_builtin1 (PyProof.Rows.args_cons ?_ rfl) rfl rfl
  refine Call_ (ld_blt I hg2 hm2 PyProof.Rows.boot_set ?_)
  refine PyProof.Rows.callWith_type1 (PyProof.Rows.args_cons (thn (ha.run pins s σ H _ I h) fun v s1 ⟨x, H1, I1, r1, q1⟩ => PyProof.Rows.args_nil ?_) na) na rfl
  obtain ⟨l, ks, rfl, hq, hk, hf, q1⟩ := q1
  cases r1
  obtain ⟨its, rv, pl, hz⟩ := I1.list hq
  refine call_set_tups (P := X.prog) (w := X.w) ks (I1.ok.hd hc) pl.isList (by simpa using refs_of_vals rv) (fun p hp => I1.isT (hk p hp)) hf (by omega) fun h' tk L es ep t R g k => ?_
  refine PyProof.Rows.args_nil ?_
  have I2 : Inv X pins σ H1 { s1 with heap := h', toks := tk } := I1.kept k
  obtain ⟨o, ho, hex, hd⟩ := R.ob
  have hs : es.size = L.length := SetTR.size (s := { s1 with heap := h', toks := tk }) R
  have hfit : t.fits es.size = true := SetTR.fits (s := { s1 with heap := h', toks := tk }) R
  have hfew := R.few
  refine call_len_set ho hex hd hfit (by omega) ⟨.int L.length, H1, I2.tok _, ⟨_, by rw [hs]⟩, q1 L (fun p hp => ?_) (fun p hp => ?_) R.nd⟩
  · exact List.mem_of_mem_take (g.sub p hp)
  · exact g.all p (by rw [List.take_length]; exact hp)
theorem tups_refs {K : PySem.W.Frag} {mg : Str → Option Value} {H : Hp} {hid μ : List Addr} {st : Sto} : ∀ {ks : List (List Int)} {vs : List V}, Reps K mg (Fz μ st hid H) μ (ks.map tupOf) vs → ∃ ps : List (Addr × List Int), vs = ps.map (fun p => V.ref p.1) ∧ ps.map (·.2) = ks ∧ ∀ p ∈ ps, SqT K H p.1 (p.2.map V.int)
  | [], vs, r => by
    have := r.length
    cases vs with
    | nil => exact ⟨[], rfl, rfl, fun p h => nomatch h⟩
    | cons v vs => simp at this
  | k :: ks, vs, r => by
    cases vs with
    | nil => have := r.length; simp at this
    | cons v vs =>
      obtain ⟨v', t, e, h1, h2⟩ := r.cons_inv
      cases e
      obtain ⟨a, rfl, h3⟩ := tup_I h1
      obtain ⟨ps, rfl, rfl, h4⟩ := tups_refs h2
      exact ⟨(a, k) :: ps, rfl, rfl, fun p hp => by
        rcases List.mem_cons.mp hp with rfl | hp
        · exact h3
        · exact h4 p hp⟩
theorem ev_lenSet {k : Nat} {a : Expr} {f : Sem} {p p2 q pos : Pos} (C : Ctx X Wx k) (hm : X.mg "len" = none) (hm2 : X.mg "set" = none) (ha : EV X Wx a f) (hg : Gl X "len" := by rfl) (hg2 : Gl X "set" := by rfl)
    (na : starEach [a] X.env = (false, eval a X.env) :: starEach [] X.env := by rfl) : EV X Wx (.Call (.Name "len" p) [.Call (.Name "set" p2) [a] [] q] [] pos) (eLenSet f) :=
  PEm (pe_lenSetT C.calm (by have := C.room.un; omega) hg hm hg2 hm2 ha na) fun σ H Q ⟨μ, st, hid, fr, S, P⟩ => by
    refine ⟨μ, st, hid, fr, S, ?_⟩
    unfold eLenSet at P
    cases h1 : f fr st with
    | bad => rw [h1] at P; exact P
    | err x s1 => rw [h1] at P; exact P
    | ok w st1 =>
      rw [h1, Out.bind_ok] at P
      intro μ1 H1 v k1 g1 r1
      split at P
      · rename_i ks e
        split at P
        · rename_i hl
          have hl := dec_of hl
          cases e1 : lstW st1 w with
          | none => rw [e1] at e; cases e
          | some us =>
            rw [e1] at e
            obtain ⟨l, xs, rfl, h2, h3⟩ := lstW_at k1 e1 r1
            rw [tupsI_eq e] at h3
            obtain ⟨ps, rfl, rfl, h4⟩ := tups_refs h3
            rw [List.length_map] at hl
            refine ⟨l, ps, rfl, h2, h4, hl, fun L a1 a2 nd => ?_⟩
            have el : L.length = (onceL (ps.map (·.2))).length := by
              rw [← List.length_map (f := fun p : Addr × List Int => p.2)]
              refine Nat.le_antisymm (List.Nodup.length_le_of_subset nd fun y hy => ?_) (List.Nodup.length_le_of_subset (nodup_once _) fun y hy => ?_)
              · obtain ⟨q, hq, rfl⟩ := List.mem_map.mp hy
                exact mem_once.mpr (List.mem_map.mpr ⟨q, a1 q hq, rfl⟩)
              · obtain ⟨q, hq, rfl⟩ := List.mem_map.mp (mem_once.mp hy)
                exact a2 q hq
            rw [el]
            exact P μ1 H1 _ k1 g1 (by unfold Rep; rfl)
        · exact P.elim
      · exact P.elim
/-- + of lists, living or not -/
def lhW (st : Sto) : W → Option (List W)
  | .lst ws => some ws
  | .cell k => match st[k]? with
    | some (.lst ws) => some ws
    | some (.frz (.lst ws)) => some ws
    | _ => none
  | _ => none
theorem lhW_at {K : PySem.W.Frag} {mg : Str → Option Value} {μ : List Addr} {st : Sto} {hid : List Addr} {H : Hp} (s : StOk K mg μ st hid H) {w : W} {ws : List W} {v : V} (h : lhW st w = some ws) (r : Rep K mg (Fz μ st hid H) μ w v) : ∃ a vs, v = .ref a ∧ H a = some (.lst vs) ∧ Reps K mg (Fz μ st hid H) μ ws vs := by
  cases w with
  | lst us =>
    unfold lhW at h; cases h
    obtain ⟨a, vs, e, h1, h2⟩ := rep_lst_inv r
    exact ⟨a, vs, e, (Fz.sub h1).1, h2⟩
  | cell k =>
    unfold lhW at h
    simp only at h
    split at h
    · rename_i us e
      cases h
      obtain ⟨a, e1, e2, vs, h1, h2⟩ := s.cell e r
      exact ⟨a, vs, e1, h1, h2⟩
    · rename_i us e
      cases h
      obtain ⟨a, e1, e2, h1⟩ := s.cell e r
      obtain ⟨b, vs, e3, h1, h2⟩ := rep_lst_inv h1
      cases e3
      exact ⟨a, vs, e1, (Fz.sub h1).1, h2⟩
    · cases h
  | _ => cases h
def oAddC : Op2 := fun x y st => match lhW st x, lhW st y with
  | some a, some b => if a.length + b.length ≤ LINE then .ok (.lst (a ++ b)) st else .bad
  | _, _ => oAdd x y st
theorem os_addC : Op2S X oAddC (rAddAll X.K) := by
  intro Wx hid μ st σ H Q w u x y k rx ry P
  unfold oAddC at P
  split at P
  · rename_i a b ea eb
    split at P
    · rename_i hz
      obtain ⟨p, vs, rfl, h1, h2⟩ := lhW_at k ea rx
      obtain ⟨q, zs, rfl, h3, h4⟩ := lhW_at k eb ry
      refine .inr (.inr (.inr ⟨p, q, vs, zs, rfl, rfl, h1, h3, by rw [← h2.length, ← h4.length]; exact SL.le_line hz, fun t ht => ?_⟩))
      exact ok_new P k ht fun F l e => rep_lst e ((h2.append h4).mono l (.refl _))
    · exact P.elim
  · exact os_add _ hid μ st σ H Q w u x y k rx ry P
end
end SL

namespace SL
open PySem PySem.Spec PyProof.Rows L2
/-! # dicts whose keys are tuples of ints and texts -/
abbrev KeyL := List Key
def dctT (st : Sto) (x : W) : Option (List KeyL × List W) := match x with
  | .cell k => match st[k]? with
    | some (.dct ks ws) => (match kindW ks with
      | some (_, .inr kk) => some (kk, ws)
      | _ => none)
    | _ => none
  | .dct ks ws => (match kindW ks with
    | some (_, .inr kk) => some (kk, ws)
    | _ => none)
  | _ => none
def valT {α : Type} (l : List (KeyL × α)) (k : KeyL) : Option α := (l.find? fun p => decide (p.1 = k)).map (·.2)
def putT {α : Type} (kk : List KeyL) (xs : List α) (k : KeyL) (x : α) : List α := (kk.zip xs).map fun p => if p.1 = k then x else p.2
theorem zip_putT {α : Type} (k : KeyL) (x : α) : ∀ (kk : List KeyL) (xs : List α), kk.length = xs.length → (kk.zip xs).map (fun kv => if kv.1 = k then (kv.1, x) else kv) = kk.zip (putT kk xs k x)
  | [], xs, _ => by simp
  | j :: kk, [], h => by simp at h
  | j :: kk, y :: xs, h => by
    have ih := zip_putT k x kk xs (by simpa using h)
    unfold putT at ih ⊢
    rw [List.zip_cons_cons, List.map_cons, List.map_cons, List.zip_cons_cons, ih]
    by_cases e : j = k <;> simp [e]
theorem putT_len {α : Type} {kk : List KeyL} {xs : List α} {k : KeyL} {x : α} (h : kk.length = xs.length) : (putT kk xs k x).length = kk.length := by
  unfold putT; rw [List.length_map, List.length_zip]; omega
theorem any_zipT {α : Type} (k : KeyL) : ∀ (kk : List KeyL) (xs : List α), kk.length = xs.length → ((kk.zip xs).any fun kv => decide (kv.1 = k)) = kk.any fun j => decide (j = k)
  | [], xs, _ => by simp
  | j :: kk, [], h => by simp at h
  | j :: kk, y :: xs, h => by
    rw [List.zip_cons_cons, List.any_cons, List.any_cons, any_zipT k kk xs (by simpa using h)]
theorem kind_T1 {ks : List W} {kk : List KeyL} (h : mapO keyT ks = some kk) : kindW (.ty "T" :: ks) = some (false, .inr kk) := by
  show (mapO keyT ks).map (fun kk => (false, Sum.inr kk)) = _
  rw [h]; rfl
theorem kind_TL {ks : List W} {kk : List KeyL} (h : mapO keyT ks = some kk) : kindW (.ty "TL" :: ks) = some (true, .inr kk) := by
  show (mapO keyT ks).map (fun kk => (true, Sum.inr kk)) = _
  rw [h]; rfl
section
variable {K : PySem.W.Frag} {mg : Str → Option Value} {F : Hp} {μ : List Addr}
theorem keys_rep : ∀ {us : List W} {k : KeyL} {vs : List V}, keysW us = some k → Reps K mg F μ us vs → vs = k.map kV
  | [], k, vs, h, r => by
    unfold keysW at h; cases h
    have := r.length
    cases vs with
    | nil => rfl
    | cons v vs => simp at this
  | u :: us, k, vs, h, r => by
    unfold keysW at h
    cases e1 : keyW u with
    | none => rw [e1] at h; cases h
    | some j =>
      cases e2 : keysW us with
      | none => rw [e1, e2] at h; cases h
      | some js =>
        rw [e1, e2] at h; cases h
        cases vs with
        | nil => have := r.length; simp at this
        | cons v vs =>
          obtain ⟨v', t, e, h1, h2⟩ := r.cons_inv
          cases e
          rw [key_rep e1 h1, keys_rep e2 h2]; rfl
theorem rep_keys : ∀ {us : List W} {k : KeyL}, keysW us = some k → Reps K mg F μ us (k.map kV)
  | [], k, h => by unfold keysW at h; cases h; exact .nil
  | u :: us, k, h => by
    unfold keysW at h
    cases e1 : keyW u with
    | none => rw [e1] at h; cases h
    | some j =>
      cases e2 : keysW us with
      | none => rw [e1, e2] at h; cases h
      | some js =>
        rw [e1, e2] at h; cases h
        exact .cons (rep_key e1) (rep_keys e2)
theorem keyT_inv {w : W} {k : KeyL} (h : keyT w = some k) : ∃ us, w = .tup us ∧ keysW us = some k := by
  cases w with
  | tup us => exact ⟨us, rfl, h⟩
  | _ => cases h
theorem keyT_rep {w : W} {k : KeyL} {v : V} (h : keyT w = some k) (r : Rep K mg F μ w v) : ∃ b, v = .ref b ∧ F b = some (.tup (k.map kV)) := by
  obtain ⟨us, rfl, h⟩ := keyT_inv h
  obtain ⟨a, vs, rfl, h1, h2⟩ := rep_tup_inv r
  rw [keys_rep h h2] at h1
  exact ⟨a, rfl, h1⟩
theorem rep_keyT {w : W} {k : KeyL} {b : Addr} (h : keyT w = some k) (e : F b = some (.tup (k.map kV))) : Rep K mg F μ w (.ref b) := by
  obtain ⟨us, rfl, h⟩ := keyT_inv h
  exact rep_tup e (rep_keys h)
theorem val_atT (k : KeyL) : ∀ {kk : List KeyL} {ws : List W} {vs : List V}, kk.length = vs.length → Reps K mg F μ ws vs → (∀ w, valT (kk.zip ws) k = some w → ∃ v, valV (kk.zip vs) k = some v ∧ Rep K mg F μ w v) ∧ (valT (kk.zip ws) k = none → valV (kk.zip vs) k = none)
  | [], ws, vs, _, _ => by
    refine ⟨fun w h => ?_, fun _ => rfl⟩
    simp [valT] at h
  | j :: kk, ws, [], h, _ => by simp at h
  | j :: kk, ws, v :: vs, h, r => by
    have hl := r.length
    cases ws with
    | nil => simp at hl
    | cons w ws =>
      obtain ⟨v', vs', e, r1, r2⟩ := r.cons_inv
      cases e
      obtain ⟨i1, i2⟩ := val_atT k (kk := kk) (ws := ws) (vs := vs) (by simpa using h) r2
      by_cases e : j = k
      · rw [List.zip_cons_cons, List.zip_cons_cons, valV_pos (p := (j, v)) e]
        have z : valT ((j, w) :: kk.zip ws) k = some w := by simp [valT, List.find?_cons, e]
        rw [z]
        exact ⟨fun u h => by cases h; exact ⟨v, rfl, r1⟩, fun h => nomatch h⟩
      · rw [List.zip_cons_cons, List.zip_cons_cons, valV_neg (p := (j, v)) e]
        have z : valT ((j, w) :: kk.zip ws) k = valT (kk.zip ws) k := by simp [valT, List.find?_cons, e]
        rw [z]
        exact ⟨i1, i2⟩
theorem reps_putT {k : KeyL} {w : W} {v : V} (rw_ : Rep K mg F μ w v) : ∀ {kk : List KeyL} {ws : List W} {vs : List V}, kk.length = vs.length → Reps K mg F μ ws vs → Reps K mg F μ (putT kk ws k w) (putT kk vs k v)
  | [], ws, vs, _, _ => by unfold putT; simp; exact .nil
  | j :: kk, ws, [], h, _ => by simp at h
  | j :: kk, ws, u :: vs, h, r => by
    have hl := r.length
    cases ws with
    | nil => simp at hl
    | cons w' ws =>
      obtain ⟨v', vs', e, r1, r2⟩ := r.cons_inv
      cases e
      have ih := reps_putT (k := k) rw_ (kk := kk) (ws := ws) (vs := vs) (by simpa using h) r2
      unfold putT at ih ⊢
      rw [List.zip_cons_cons, List.zip_cons_cons, List.map_cons, List.map_cons]
      refine .cons ?_ ih
      by_cases e : j = k
      · simp only [e, if_true]; exact rw_
      · simp only [e, if_false]; exact r1
theorem dctT_at {hid : List Addr} {st : Sto} {H : Hp} {x : W} {v : V} {kk : List KeyL} {ws : List W} (k : StOk K mg μ st hid H) (h : dctT st x = some (kk, ws)) (r : Rep K mg (Fz μ st hid H) μ x v) :
    ∃ a vs, v = .ref a ∧ kk.length = vs.length ∧ Rd H a (.dT (kk.zip vs)) ∧ Reps K mg (Fz μ st hid H) μ ws vs := by
  have go : ∀ {F : Hp} {a : Addr} {ks us : List W} {vs : List V}, (∀ o, F a = some o → H a = some o) → DctAt F a ks vs → (match kindW ks with
      | some (_, .inr kk) => some (kk, us)
      | _ => none) = some (kk, ws) → us = ws ∧ kk.length = vs.length ∧ Rd H a (.dT (kk.zip vs)) := fun {F a ks us vs} l d e => by
    obtain ⟨b, q, h1, h2, h3, _⟩ := d
    rw [h1] at e
    cases q with
    | inl q => cases e
    | inr q =>
      cases e
      refine ⟨rfl, h2, ?_⟩
      rcases h3 with h3 | ⟨o, h3⟩
      · exact .inl (l _ h3)
      · exact .inr ⟨o, l _ h3⟩
  cases x with
  | cell n =>
    unfold dctT at h
    simp only at h
    split at h
    · rename_i ks us e
      obtain ⟨a, rfl, e2, vs, h1, h2⟩ := k.cell e r
      obtain ⟨rfl, g1, g2⟩ := go (fun _ z => z) h1.rd h
      exact ⟨a, vs, rfl, g1, g2, h2⟩
    · cases h
  | dct ks us =>
    unfold Rep at r
    obtain ⟨a, vs, rfl, h1, h2⟩ := r
    obtain ⟨rfl, g1, g2⟩ := go (us := us) (fun _ z => (Fz.sub z).1) h1 h
    exact ⟨a, vs, rfl, g1, g2, h2⟩
  | _ => cases h
/-- a key's tuple is neither hidden nor living -/
theorem tup_fz {hid : List Addr} {st : Sto} {H : Hp} {b : Addr} {vs : List V} (k : StOk K mg μ st hid H) (h : H b = some (.tup vs)) : Fz μ st hid H b = some (.tup vs) := by
  refine Fz.mk h fun z => ?_
  rcases z with z | ⟨n, c, h1, h2, h3⟩
  · exact (k.hidt b z).2 vs h
  · have q := k.ok n b c h1 h2
    cases c with
    | lst ws => obtain ⟨us, e, _⟩ := q; rw [h] at e; cases e
    | ins c ns ws => obtain ⟨C, dx, us, _, _, e, _⟩ := q; rw [h] at e; cases e
    | frz w => cases h3
    | dct ks ws =>
      obtain ⟨us, ⟨l, q, _, _, e⟩, _⟩ := q
      cases l with
      | false =>
        have e : H b = some (dObj q us) := e
        rw [h] at e
        cases q <;> cases e
      | true =>
        obtain ⟨o, e⟩ := e
        rw [h] at e; cases e
end
/-! ## reading -/
def oTGet : Op2 := fun x y st => match dctT st x, keyT y with
  | some (kk, ws), some k => (match valT (kk.zip ws) k with
    | some w => .ok w st
    | none => .bad)
  | _, _ => .bad
def oTIn (f : Bool → Bool) : Op2 := fun y x st => match dctT st x, keyT y with
  | some (kk, ws), some k => .ok (.bl (f (valT (kk.zip ws) k).isSome)) st
  | _, _ => .bad
/-- d.get(k, x) -/
def eTGet2 (f g h : Sem) : Sem := fun fr st => (f fr st).bind fun x st1 => if (dctT st1 x).isSome = true then (g fr st1).bind fun y st2 => (h fr st2).bind fun z st3 => (match dctT st3 x, keyT y with
  | some (kk, ws), some k => .ok ((valT (kk.zip ws) k).getD z) st3
  | _, _ => .bad) else .bad
section
variable {X : Cx} {Wx : Wish}
theorem tget_of {K : PySem.W.Frag} {mg : Str → Option Value} {μ hid : List Addr} {st : Sto} {H : Hp} {x y : W} {xv yv : V} {kk : List KeyL} {ws : List W} {j : KeyL} (k : StOk K mg μ st hid H) (hx : dctT st x = some (kk, ws)) (hy : keyT y = some j) (rx : Rep K mg (Fz μ st hid H) μ x xv) (ry : Rep K mg (Fz μ st hid H) μ y yv) :
    ∃ a, xv = .ref a ∧ ((∃ w v, valT (kk.zip ws) j = some w ∧ DGet H a yv (some v) ∧ Rep K mg (Fz μ st hid H) μ w v) ∨ (valT (kk.zip ws) j = none ∧ DGet H a yv none)) := by
  obtain ⟨a, vs, rfl, h1, h2, h3⟩ := dctT_at k hx rx
  obtain ⟨b, rfl, hb⟩ := keyT_rep hy ry
  have hb := (Fz.sub hb).1
  obtain ⟨v1, v2⟩ := val_atT (K := K) (mg := mg) (F := Fz μ st hid H) (μ := μ) j h1 h3
  refine ⟨a, rfl, ?_⟩
  cases e : valT (kk.zip ws) j with
  | some w =>
    obtain ⟨v, e2, r⟩ := v1 w e
    exact .inl ⟨w, v, rfl, .inr ⟨_, j, b, h2, rfl, hb, e2.symm⟩, r⟩
  | none => exact .inr ⟨rfl, .inr ⟨_, j, b, h2, rfl, hb, (v2 e).symm⟩⟩
theorem os_tget : Op2S X oTGet rDGet := by
  intro Wx hid μ st σ H Q x y xv yv k rx ry P
  unfold oTGet at P
  split at P
  · rename_i kk ws j hx hy
    obtain ⟨a, rfl, ⟨w, v, e1, e2, e3⟩ | ⟨e1, _⟩⟩ := tget_of k hx hy rx ry
    · rw [e1] at P
      exact ⟨a, v, rfl, e2, P μ H _ k .refl e3⟩
    · rw [e1] at P; exact P.elim
  · exact P.elim
theorem os_tin {f : Bool → Bool} : Op2S X (oTIn f) (rDIn f) := by
  intro Wx hid μ st σ H Q y x yv xv k ry rx P
  unfold oTIn at P
  split at P
  · rename_i kk ws j hx hy
    obtain ⟨a, rfl, ⟨w, v, e1, e2, e3⟩ | ⟨e1, e2⟩⟩ := tget_of k hx hy rx ry
    · rw [e1] at P
      exact ⟨a, _, rfl, e2, P μ H _ k .refl rep_bl⟩
    · rw [e1] at P
      exact ⟨a, _, rfl, e2, P μ H _ k .refl rep_bl⟩
  · exact P.elim
theorem ev_tget {k : Nat} {o i : Expr} {f g : Sem} {pos : Pos} (C : Ctx X Wx k) (ho : EV X Wx o f) (hi : EV X Wx i g) (hs : NoSl i := by intro _ _; rfl) : EV X Wx (.Subscript o i pos) (e2 oTGet f g) :=
  PEm (pe_dget (by have := C.room.un; omega) ho hi hs) (e2_read os_tget)
theorem tv_tin {k : Nat} {o i : Expr} {f g : Sem} {pos : Pos} (C : Ctx X Wx k) (hi : EV X Wx i g) (ho : EV X Wx o f) (hm : behindInMarks .In o = false := by rfl) : TV X Wx (.Compare i [.In] [o] pos) (bOf (e2 (oTIn fun b => b) g f)) :=
  PTm (pt_cmp (pc_din (by have := C.room.un; omega) hi ho) hm) (bOf_read (e2_read os_tin))
theorem tv_tnin {k : Nat} {o i : Expr} {f g : Sem} {pos : Pos} (C : Ctx X Wx k) (hi : EV X Wx i g) (ho : EV X Wx o f) (hm : behindInMarks .NotIn o = false := by rfl) : TV X Wx (.Compare i [.NotIn] [o] pos) (bOf (e2 (oTIn not) g f)) :=
  PTm (pt_cmp (pc_dnotin (by have := C.room.un; omega) hi ho) hm) (bOf_read (e2_read os_tin))
theorem dctT_isD {K : PySem.W.Frag} {mg : Str → Option Value} {μ hid : List Addr} {st : Sto} {H : Hp} {x : W} {v : V} (k : StOk K mg μ st hid H) (h : (dctT st x).isSome = true) (r : Rep K mg (Fz μ st hid H) μ x v) : ∃ a, v = .ref a ∧ IsD H a := by
  cases e : dctT st x with
  | none => rw [e] at h; cases h
  | some p =>
    obtain ⟨a, vs, rfl, _, h2, _⟩ := dctT_at (kk := p.1) (ws := p.2) k e r
    exact ⟨a, rfl, .inr ⟨_, h2⟩⟩
theorem ev_tget2 {k : Nat} {o e d : Expr} {f g h : Sem} {apos cpos : Pos} (C : Ctx X Wx k) (ho : EV X Wx o f) (he : EV X Wx e g) (hd : EV X Wx d h) (m : M2 X o "get" apos e d cpos := by exact ⟨rfl, rfl, rfl, rfl⟩) : EV X Wx (.Call (.Attribute o "get" apos) [e, d] [] cpos) (eTGet2 f g h) :=
  PEm (pe_dget2 (by have := C.room.un; omega) ho he hd m) fun σ H Q ⟨μ, st, hid, fr, S, P⟩ => by
    refine ⟨μ, st, hid, fr, S, ?_⟩
    unfold eTGet2 at P
    cases h1 : f fr st with
    | bad => rw [h1] at P; exact P
    | err x s => rw [h1] at P; exact P
    | ok x st1 =>
      rw [h1, Out.bind_ok] at P
      intro μ1 H1 xv k1 g1 r1
      have P1 := EPost.from g1 P
      split at P1
      · rename_i hx
        obtain ⟨a, rfl, hd⟩ := dctT_isD k1 hx r1
        refine ⟨a, rfl, hd, μ1, st1, hid, fr, S.next k1 g1, ?_⟩
        cases h2 : g fr st1 with
        | bad => rw [h2] at P1; exact P1
        | err x s => rw [h2] at P1; exact P1
        | ok y st2 =>
          rw [h2, Out.bind_ok] at P1
          intro μ2 H2 yv k2 g2 r2
          have P2 := EPost.from g2 P1
          refine ⟨μ2, st2, hid, fr, (S.next k1 g1).next k2 g2, ?_⟩
          cases h3 : h fr st2 with
          | bad => rw [h3] at P2; exact P2
          | err x s => rw [h3] at P2; exact P2
          | ok z st3 =>
            rw [h3, Out.bind_ok] at P2
            intro μ3 H3 zv k3 g3 r3
            have P3 := EPost.from g3 P2
            split at P3
            · rename_i kk ws j hx3 hy
              obtain ⟨a', e1, ⟨w, v, e2, e3, e4⟩ | ⟨e2, e3⟩⟩ := tget_of k3 hx3 hy (Rep.mono (g2.trans g3).le (g2.trans g3).pre _ _ r1) (Rep.mono g3.le g3.pre _ _ r2)
              · cases e1
                rw [e2] at P3
                exact ⟨some v, e3, P3 μ3 H3 _ k3 .refl e4⟩
              · cases e1
                rw [e2] at P3
                exact ⟨none, e3, P3 μ3 H3 _ k3 .refl r3⟩
            · exact P3.elim
      · exact P1.elim
/-! ## making, writing -/
def eTDct0 : Sem := fun _ st => .ok (.cell st.length) (st ++ [.dct [.ty "T"] []])
theorem ev_tdct0 {pos : Pos} : EV X Wx (.Dict [] [] pos) eTDct0 := PEm pe_dnewT fun σ H Q ⟨μ, st, hid, fr, S, P⟩ => by
  intro p hp
  obtain ⟨k2, g2⟩ := S.sto.newCell (c := .dct [.ty "T"] []) (o := .dT []) hp rfl ⟨[], ⟨false, .inr [], rfl, rfl, upd_same⟩, .nil⟩
  refine P _ _ _ k2 g2 ?_
  unfold Rep
  exact ⟨p, by rw [← S.sto.len]; simp, rfl⟩
def uDctT : Op3 := fun o y w st => match o with
  | .cell n => (match st[n]? with
    | some (.dct (.ty t :: ks) ws) => if t = "T" then (match mapO keyT ks, keyT y with
      | some kk, some j => if ks.length < LINE then (if (kk.any fun i => decide (i = j)) = true then some (st.set n (.dct (.ty "T" :: ks) (putT kk ws j w))) else some (st.set n (.dct (.ty "T" :: (ks ++ [y])) (ws ++ [w])))) else none
      | _, _ => none) else none
    | _ => none)
  | _ => none
theorem os_setT : Op3S X uDctT rSetD := by
  intro hid μ st st' H Q o y w ov yv v k ro ry rw_ e q
  unfold uDctT at e
  split at e
  · rename_i n
    split at e
    · rename_i t ks ws e1
      split at e
      · rename_i ht
        subst ht
        split at e
        · rename_i kk j hk hy
          obtain ⟨a, rfl, h1, vs, ⟨l, q', g1, g2, g3⟩, h3⟩ := k.cell e1 ro
          rw [kind_T1 hk] at g1
          cases g1
          have g3' : H a = some (.dT (kk.zip vs)) := g3
          have g2' : kk.length = vs.length := g2
          obtain ⟨b, rfl, hb⟩ := keyT_rep hy ry
          have hb := (Fz.sub hb).1
          split at e
          · rename_i hl
            have hz : (kk.zip vs).length < sizeLine := by
              have := mapO_len hk
              rw [List.length_zip]
              unfold LINE at hl
              rw [sizeLine_eq]; omega
            refine ⟨a, _, rfl, .inr ⟨kk.zip vs, j, b, g3', rfl, hb, hz, rfl⟩, ?_⟩
            unfold putK
            rw [any_zipT j kk vs g2']
            split at e
            · rename_i hany
              cases e
              rw [if_pos hany, zip_putT j v kk vs g2']
              have hl2 : kk.length = (putT kk vs j v).length := by rw [putT_len g2']
              obtain ⟨k2, g4⟩ := k.setCell (c' := .dct (.ty "T" :: ks) (putT kk ws j w)) (o := .dT (kk.zip (putT kk vs j v))) h1 e1 rfl rfl ⟨_, ⟨false, .inr kk, kind_T1 hk, hl2, upd_same⟩, reps_putT rw_ g2' h3⟩ rfl
              exact q _ _ k2 g4
            · rename_i hany
              cases e
              rw [if_neg hany]
              have ez : kk.zip vs ++ [(j, v)] = (kk ++ [j]).zip (vs ++ [v]) := by rw [List.zip_append g2']; rfl
              rw [ez]
              have hk2 := mapO_snoc hk hy
              obtain ⟨k2, g4⟩ := k.setCell (c' := .dct (.ty "T" :: (ks ++ [y])) (ws ++ [w])) (o := .dT ((kk ++ [j]).zip (vs ++ [v]))) h1 e1 rfl rfl ⟨_, ⟨false, .inr (kk ++ [j]), kind_T1 hk2, by show (kk ++ [j]).length = (vs ++ [v]).length; simp [g2'], upd_same⟩, h3.append (.cons rw_ .nil)⟩ rfl
              exact q _ _ k2 g4
          · cases e
        · cases e
      · cases e
    · cases e
  · cases e
theorem sv_subT {k : Nat} {o i e : Expr} {f fo fi : Sem} {pos tpos : Pos} (C : Ctx X Wx k) (he : EV X Wx e f) (ho : EV X Wx o fo) (hi : EV X Wx i fi)
    (ha : ∀ v, assign (.Subscript o i tpos) X.env v = (do
      let ov ← holding [v] (eval o X.env)
      let iv ← holding [v, ov] (eval i X.env)
      standAt tpos
      holding [v, ov, iv] (setItem ov iv v)
      release [v, ov, iv] []) := by intro _; rfl)
    (hs1 : swapsWithSole [.Subscript o i tpos] e pos.line X.env = pure false := by rfl) (hw : swappedStores [.Subscript o i tpos] e X.env = pure none := by rfl) (h1 : (assignEach [.Subscript o i tpos] X.env).map (·.2) = [assign (.Subscript o i tpos) X.env] := by rfl) :
    SV X Wx (.Assign [.Subscript o i tpos] e pos) (sSub uDctT f fo fi) := sv_sub (set_dict (by have := C.room.un; omega)) os_setT he ho hi ha hs1 hw h1
end
end SL

namespace SL
open PySem PySem.Spec PyProof.Rows L2
/-! # a dict walked: locked meanwhile -/
/-- the cell n's dict is let go -/
def unlkT (n : Nat) (st : Sto) : Option Sto := match st[n]? with
  | some (.dct (.ty t :: ks) ws) => if t = "TL" then (match mapO keyT ks with
    | some _ => some (st.set n (.dct (.ty "T" :: ks) ws))
    | none => none) else none
  | _ => none
def unlTS (n : Nat) : SOut → SOut
  | .nx fr st => (match unlkT n st with
    | some st2 => .nx fr st2
    | none => .bad)
  | .bk fr st => (match unlkT n st with
    | some st2 => .bk fr st2
    | none => .bad)
  | .ct fr st => (match unlkT n st with
    | some st2 => .ct fr st2
    | none => .bad)
  | .rt w st => (match unlkT n st with
    | some st2 => .rt w st2
    | none => .bad)
  | _ => .bad
def unlTE (n : Nat) : Out W → Out W
  | .ok w st => (match unlkT n st with
    | some st2 => .ok w st2
    | none => .bad)
  | _ => .bad
/-- while s runs the dict in slot i is locked; one that is locked already stays so -/
def sLockT (i : Nat) (s : SSem) : SSem := fun fr st => match fr[i]? with
  | some (some (.cell n)) => (match st[n]? with
    | some (.dct (.ty t :: ks) ws) => if t = "T" then (match mapO keyT ks with
      | some _ => unlTS n (s fr (st.set n (.dct (.ty "TL" :: ks) ws)))
      | none => .bad) else s fr st
    | _ => .bad)
  | _ => .bad
def eLockT (i : Nat) (e : Sem) : Sem := fun fr st => match fr[i]? with
  | some (some (.cell n)) => (match st[n]? with
    | some (.dct (.ty t :: ks) ws) => if t = "T" then (match mapO keyT ks with
      | some _ => unlTE n (e fr (st.set n (.dct (.ty "TL" :: ks) ws)))
      | none => .bad) else e fr st
    | _ => .bad)
  | _ => .bad
/-- the keys of the locked dict in slot i -/
def iKeysT (i : Nat) : SemI := fun fr st => match fr[i]? with
  | some (some (.cell n)) => (match st[n]? with
    | some (.dct (.ty t :: ks) _) => if t = "TL" then (match mapO keyT ks with
      | some _ => if ks.length ≤ LINE then .ok (.non, ks) st else .bad
      | none => .bad) else .bad
    | _ => .bad)
  | _ => .bad
section
variable {K : PySem.W.Frag} {mg : Str → Option Value} {Wx : Wish} {μ hid : List Addr} {st : Sto} {fr : Fr} {σ : L2.St} {H : Hp}
/-- the state as it is locked -/
theorem SI.lockT (S : SI K mg Wx μ st hid fr σ H) {i n : Nat} {ks ws : List W} {kk : List KeyL} (hf : fr[i]? = some (some (.cell n))) (hn : st[n]? = some (.dct (.ty "T" :: ks) ws)) (hk : mapO keyT ks = some kk) :
    ∃ (d : Addr) (vs : List V), μ[n]? = some d ∧ d ∉ hid ∧ kk.length = vs.length ∧ H d = some (.dT (kk.zip vs)) ∧ ∀ od, SI K mg Wx μ (st.set n (.dct (.ty "TL" :: ks) ws)) hid fr σ (upd H d (.frz od (.dT (kk.zip vs)))) ∧ Fz μ (st.set n (.dct (.ty "TL" :: ks) ws)) hid (upd H d (.frz od (.dT (kk.zip vs)))) = Fz μ st hid H := by
  obtain ⟨v, hv, r⟩ := S.loc i _ hf
  obtain ⟨d, rfl, h1, vs, ⟨l, q, g1, g2, g3⟩, h3⟩ := S.sto.cell hn r
  rw [kind_T1 hk] at g1
  cases g1
  have g3' : H d = some (.dT (kk.zip vs)) := g3
  have g2' : kk.length = vs.length := g2
  refine ⟨d, vs, h1, S.sto.hidn n d _ h1 hn rfl, g2', g3', fun od => ?_⟩
  have kl := kind_TL hk
  obtain ⟨k2, e, _⟩ := S.sto.setCell0 (c' := .dct (.ty "TL" :: ks) ws) (o := .frz od (.dT (kk.zip vs))) h1 hn rfl rfl ⟨vs, ⟨true, .inr kk, kl, g2', od, upd_same⟩, h3⟩
  exact ⟨⟨k2, S.len, fun j w h => by rw [e]; exact S.loc j w h, by rw [e]; exact S.ex⟩, e⟩
/-- .. and let go -/
theorem unlkT_at {n : Nat} {st2 : Sto} {d : Addr} {od : Obj} {u : HO} (k : StOk K mg μ st hid H) (h : unlkT n st = some st2) (hd : μ[n]? = some d) (hH : H d = some (.frz od u)) :
    StOk K mg μ st2 hid (upd H d u) ∧ Fz μ st2 hid (upd H d u) = Fz μ st hid H := by
  unfold unlkT at h
  split at h
  · rename_i t ks ws hn
    split at h
    · rename_i ht
      subst ht
      split at h
      · rename_i kk hk
        cases h
        obtain ⟨vs, ⟨l, q, g1, g2, g3⟩, h3⟩ := k.ok n d _ hd hn
        have kl := kind_TL hk
        rw [kl] at g1
        cases g1
        obtain ⟨o, g3⟩ := g3
        have g3' : H d = some (.frz o (.dT (kk.zip vs))) := g3
        rw [hH] at g3'
        cases g3'
        obtain ⟨k2, e, _⟩ := k.setCell0 (c' := .dct (.ty "T" :: ks) ws) (o := .dT (kk.zip vs)) hd hn rfl rfl ⟨vs, ⟨false, .inr kk, kind_T1 hk, g2, upd_same⟩, h3⟩
        exact ⟨k2, e⟩
      · cases h
    · cases h
  · cases h
theorem SI.freeT {μ2 : List Addr} {st2 st3 : Sto} {fr2 : Fr} {σ2 : L2.St} {H2 : Hp} {n : Nat} {d : Addr} {od : Obj} {u : HO} (S2 : SI K mg Wx μ2 st2 hid fr2 σ2 H2) (h : unlkT n st2 = some st3) (hd : μ2[n]? = some d) (hH : H2 d = some (.frz od u)) : SI K mg Wx μ2 st3 hid fr2 σ2 (upd H2 d u) := by
  obtain ⟨k3, e⟩ := unlkT_at S2.sto h hd hH
  exact ⟨k3, S2.len, fun j w h => by rw [e]; exact S2.loc j w h, by rw [e]; exact S2.ex⟩
end
section
variable {X : Cx} {Wx : Wish}
theorem sv_lockT {i : Nat} {st : Stmt} {s : SSem} (h : SV X Wx st s) : SV X Wx st (sLockT i s) := PSm (PSor (ps_lock h) h) fun D σ H ⟨μ, st, hid, fr, S, P⟩ => by
  unfold sLockT at P
  split at P
  · rename_i n hf
    split at P
    · rename_i t ks ws hn
      split at P
      rotate_left
      · exact .inr ⟨μ, st, hid, fr, S, P⟩
      rename_i ht
      subst ht
      split at P
      · rename_i kk hk
        obtain ⟨d, vs, h1, h2, h3, h4, h5⟩ := S.lockT hf hn hk
        refine .inl ⟨d, _, h4, trivial, fun od => ?_⟩
        obtain ⟨S1, e1⟩ := h5 od
        refine ⟨μ, _, hid, fr, S1, ?_⟩
        have at2 : ∀ {μ2 : List Addr} {st2 : Sto} {H2 : Hp}, Grow hid μ (st.set n (.dct (.ty "TL" :: ks) ws)) (upd H d (.frz od (.dT (kk.zip vs)))) μ2 st2 H2 → μ2[n]? = some d ∧ H2 d = some (.frz od (.dT (kk.zip vs))) := fun g => ⟨g.pre.get h1, g.lck _ _ _ upd_same⟩
        cases e : s fr (st.set n (.dct (.ty "TL" :: ks) ws)) with
        | bad => rw [e] at P; exact P
        | er x f s => rw [e] at P; exact False.elim P
        | nx f2 st2 =>
          rw [e] at P
          intro μ2 σ2 H2 S2 g
          obtain ⟨a1, a2⟩ := at2 g
          refine ⟨a2, ?_⟩
          cases eu : unlkT n st2 with
          | none => simp only [unlTS, eu] at P; exact False.elim P
          | some st3 =>
            simp only [unlTS, eu] at P
            exact P μ2 σ2 _ (S2.freeT eu a1 a2) (grow_lock (n := n) e1 h2 h4 (fun o z q => nomatch q) rfl g (unlkT_at S2.sto eu a1 a2).2)
        | bk f2 st2 =>
          rw [e] at P
          intro μ2 σ2 H2 S2 g
          obtain ⟨a1, a2⟩ := at2 g
          refine ⟨a2, ?_⟩
          cases eu : unlkT n st2 with
          | none => simp only [unlTS, eu] at P; exact False.elim P
          | some st3 =>
            simp only [unlTS, eu] at P
            exact P μ2 σ2 _ (S2.freeT eu a1 a2) (grow_lock (n := n) e1 h2 h4 (fun o z q => nomatch q) rfl g (unlkT_at S2.sto eu a1 a2).2)
        | ct f2 st2 =>
          rw [e] at P
          intro μ2 σ2 H2 S2 g
          obtain ⟨a1, a2⟩ := at2 g
          refine ⟨a2, ?_⟩
          cases eu : unlkT n st2 with
          | none => simp only [unlTS, eu] at P; exact False.elim P
          | some st3 =>
            simp only [unlTS, eu] at P
            exact P μ2 σ2 _ (S2.freeT eu a1 a2) (grow_lock (n := n) e1 h2 h4 (fun o z q => nomatch q) rfl g (unlkT_at S2.sto eu a1 a2).2)
        | rt w st2 =>
          rw [e] at P
          intro μ2 H2 v k2 g r2
          obtain ⟨a1, a2⟩ := at2 g
          refine ⟨a2, ?_⟩
          cases eu : unlkT n st2 with
          | none => simp only [unlTS, eu] at P; exact False.elim P
          | some st3 =>
            simp only [unlTS, eu] at P
            obtain ⟨k3, e3⟩ := unlkT_at k2 eu a1 a2
            exact P μ2 _ v k3 (grow_lock (n := n) e1 h2 h4 (fun o z q => nomatch q) rfl g e3) (by rw [e3]; exact r2)
      · exact P.elim
    · exact P.elim
  · exact P.elim
theorem ev_lockT {i : Nat} {e : Expr} {f : Sem} (h : EV X Wx e f) : EV X Wx e (eLockT i f) := PEm (PEor (pe_lock h) h) fun σ H Q ⟨μ, st, hid, fr, S, P⟩ => by
  unfold eLockT at P
  split at P
  · rename_i n hf
    split at P
    · rename_i t ks ws hn
      split at P
      rotate_left
      · exact .inr ⟨μ, st, hid, fr, S, P⟩
      rename_i ht
      subst ht
      split at P
      · rename_i kk hk
        obtain ⟨d, vs, h1, h2, h3, h4, h5⟩ := S.lockT hf hn hk
        refine .inl ⟨d, _, h4, trivial, fun od => ?_⟩
        obtain ⟨S1, e1⟩ := h5 od
        refine ⟨μ, _, hid, fr, S1, ?_⟩
        cases e : f fr (st.set n (.dct (.ty "TL" :: ks) ws)) with
        | bad => rw [e] at P; exact P
        | err x s => rw [e] at P; exact P.elim
        | ok w st2 =>
          rw [e] at P
          intro μ2 H2 v k2 g r2
          have a1 := g.pre.get h1
          have a2 := g.lck _ _ _ (upd_same (H := H) (a := d) (o := .frz od (.dT (kk.zip vs))))
          refine ⟨a2, ?_⟩
          cases eu : unlkT n st2 with
          | none => simp only [unlTE, eu] at P; exact False.elim P
          | some st3 =>
            simp only [unlTE, eu] at P
            obtain ⟨k3, e3⟩ := unlkT_at k2 eu a1 a2
            exact P μ2 _ v k3 (grow_lock (n := n) e1 h2 h4 (fun o z q => nomatch q) rfl g e3) (by rw [e3]; exact r2)
      · exact P.elim
    · exact P.elim
  · exact P.elim
theorem iv_keysT {i : Nat} {x : Str} {tg : Expr} {pos : Pos} (he : EV X Wx (.Name x pos) (eVar i)) : IV X Wx tg (.Name x pos) (iKeysT i) := PIm (pi_keys he) fun σ H R ⟨μ, st, hid, fr, S, P⟩ => by
  unfold iKeysT at P
  split at P
  · rename_i n hf
    split at P
    · rename_i t ks ws hn
      split at P
      · rename_i ht
        subst ht
        split at P
        · rename_i kk hk
          split at P
          · rename_i hl
            refine ⟨μ, st, hid, fr, S, ?_⟩
            have ev : eVar i fr st = .ok (.cell n) st := by unfold eVar; rw [hf]
            rw [ev]
            intro μ1 H1 v k1 g1 r1
            obtain ⟨d, rfl, h1, vs, ⟨l, q, c1, c2, c3⟩, h3⟩ := k1.cell hn r1
            have kl := kind_TL hk
            rw [kl] at c1
            cases c1
            obtain ⟨o, c3⟩ := c3
            have c3' : H1 d = some (.frz o (.dT (kk.zip vs))) := c3
            have c2' : kk.length = vs.length := c2
            have hkl := mapO_len hk
            have hz : (kk.zip vs).length = ks.length := by rw [List.length_zip]; omega
            refine ⟨d, o, rfl, .inr ⟨_, c3', P μ1 H1 _ k1 g1 ?_⟩⟩
            exact {
              len := le_line hl
              go := fun hid μ st H j k l p q s hj => ⟨q _ _ _ c3', by rw [hz]; exact hj⟩
              yld := fun hid μ st H j v H' k l p q s hj y => by
                obtain ⟨rfl, key, u, b, e1, rfl, hb⟩ := y
                refine ⟨k, .refl, ks[j], List.getElem?_eq_getElem hj, ?_⟩
                have e2 : kk[j]? = some key := by
                  rw [List.getElem?_zip_eq_some] at e1
                  exact e1.1
                exact rep_keyT (mapO_get hk (List.getElem?_eq_getElem hj) e2) (tup_fz k hb)
              stop := fun hid μ st H j k l p q s hj => ⟨q _ _ _ c3', by rw [hz]; exact hj⟩ }
          · exact P.elim
        · exact P.elim
      · exact P.elim
    · exact P.elim
  · exact P.elim
end
end SL

/-! # {t: e}, t a tuple -/
namespace SLd
open PySem PySem.Spec PyProof.Rows L2
section
variable {prog : Program} {w : World} {A : Around} {E : Value → Shared → Prop} {s : Shared} {env : Env}
theorem wpAny_subDict1 {k v : Sem Value} {Q : Addr → Shared → Prop} (hu : (tupleKind (mixKind prog w)).room A)
    (h : wpAny (model prog w) A k (fun kv s₁ => wpAny (model prog w) A v (fun vv s₂ => ∃ (a : Addr) (kk : List Key), kv = .ref a ∧ (tupleKind (mixKind prog w)).is s₂.heap kk a ∧ s₂.heap.DictOfH (tupleKind (mixKind prog w)) s.heap.objs.size [] ∧
      ∀ h', h'.DictOfH (tupleKind (mixKind prog w)) s.heap.objs.size (storedH [] kk a vv) → Heap.SameBut s.heap.objs.size s₂.heap h' → Q s.heap.objs.size { s₂ with heap := h', toks := s₂.toks + (tupleKind (mixKind prog w)).draws kk }) E s₁) E
      { s with heap := s.heap.push { cls := .type "dict", data := .dict #[] } }) :
    wpAny (model prog w) A (subDict [(k, v)]) Q E s := by
  unfold subDict
  refine wpAny_bind (wpAny_alloc ?_)
  refine wpAny_bind (wpAny_holding ?_)
  rw [if_pos (show [(k, v)].length ≤ 15 from by show 1 ≤ 15; decide)]
  refine wpAny_bind (evalPairs_cons (wpAny_mono h (fun kv s₁ h₁ => wpAny_mono h₁ (fun vv s₂ h₂ => evalPairs_nil ?_) fun _ _ e => e) fun _ _ e => e))
  obtain ⟨a, kk, rfl, hk, hd, hq⟩ := h₂
  refine wpAny_holding ?_
  refine wpAny_bind ?_
  rw [List.forIn_cons]
  refine wpAny_bind (wpAny_bind (wpAny_dictSet_heap hu hk hd (fun h' dd' hs => wpAny_pure ?_)))
  show wpAny (model prog w) A (forIn ([] : List (Value × Value)) PUnit.unit _) _ _ _
  rw [List.forIn_nil]
  exact wpAny_pure (wpAny_pure (wpAny_pure (hq h' dd' hs)))
end
end SLd
namespace SL
open PySem PySem.Spec PyProof.Rows L2
def tDisp1T (tk tv : TE) : TE := fun σ H Q => ∀ p, H p = none → tk σ (upd H p (.dT [])) fun x H1 => tv σ H1 fun y H2 => H2 p = some (.dT []) ∧ ∃ (k : List Key) (b : Addr), x = .ref b ∧ H2 b = some (.tup (k.map kV)) ∧ Q (.ref p) (upd H2 p (.dT [(k, y)]))
section
variable {X : Cx} {Wx : Wish}
theorem pe_disp1T {ke ve : Expr} {tk tv : TE} {pos : Pos} (hu : X.A.units + 1 < cLine) (hk : PE X ke tk) (hv : PE X ve tv) : PE X (.Dict [some ke] [ve] pos) (tDisp1T tk tv) := by
  refine ⟨fun pins s σ H Q I q => ?_⟩
  have hn := I.hok.fresh (Nat.le_refl s.heap.objs.size)
  have I1 := I.laid (a := s.heap.objs.size) (o := .dT []) (h' := s.heap.push { cls := .type "dict", data := .dict #[] }) (t' := s.toks) (fun _ _ q => Heap.get?_push_of_some _ q) (Nat.le_refl _) (dt_empty s.heap I.big)
  rw [arm_eval_Dict, zip_pairTrees [some ke] [ve] X.env pos rfl rfl, dictDisplay_pairs (pairTrees [some ke] [ve] X.env pos) (fun z => by cases z) (by show 1 < 17; decide)]
  refine wpAny_bind (wpAny_standAt (wpAny_bind (SLd.wpAny_subDict1 (show X.A.units < cLine by omega) ?_)))
  refine thn (hk.run pins _ σ _ _ I1 (q _ hn)) fun kv s1 ⟨x, H1, I2, rx, q1⟩ => ?_
  refine wpAny_bind (thn (hv.run pins _ σ _ _ I2 q1) fun vv s2 ⟨y, H2, I3, ry, q2⟩ => wpAny_bind (wpAny_standAt (wpAny_pure ?_)))
  obtain ⟨e, k, b, rfl, eb, q2⟩ := q2
  cases (show kv = Value.ref b from rx)
  obtain ⟨z, hd, xs, rel, dd⟩ := dt_of I3.hok e
  cases rel
  refine ⟨b, k, rfl, key_of I3.hok eb, dd, fun h' dd' hs => wpAny_pure ⟨.ref s.heap.objs.size, _, ?_, rfl, q2⟩⟩
  obtain ⟨o, es, ep, hq, h2, h3, h4, _, h5⟩ := dd'
  have kt : KT H2 (putK [] k y) (storedH [] k b vv) := KT.put (kvs := []) (xs := []) .nil k eb ry
  refine d_write I3 (by rw [e]; exact True.intro) hs ⟨o, hq⟩ ⟨by show 1 ≤ sizeLine; rw [sizeLine_eq]; decide, hd, _, kt.keeps fun c ys ec => ?_, o, es, ep, hq, h2, h3, h4, h5⟩
  rw [upd_ne (ne_of ec e (fun z => nomatch z))]
  exact ec
/-- {t: e}, to live -/
def eTDct1 (f g : Sem) : Sem := fun fr st => (f fr (st ++ [.dct [.ty "T"] []])).bind fun w st1 => (g fr st1).bind fun u st2 => match keyT w, st2[st.length]? with
  | some _, some (.dct [.ty t] []) => if t = "T" then .ok (.cell st.length) (st2.set st.length (.dct [.ty "T", w] [u])) else .bad
  | _, _ => .bad
theorem ev_tdct1 {k : Nat} {ke ve : Expr} {f g : Sem} {pos : Pos} (C : Ctx X Wx k) (hk : EV X Wx ke f) (hv : EV X Wx ve g) : EV X Wx (.Dict [some ke] [ve] pos) (eTDct1 f g) :=
  PEm (pe_disp1T (by have := C.room.un; omega) hk hv) fun σ H Q ⟨μ, st, hid, fr, S, P⟩ => by
    intro p hp
    obtain ⟨k2, g2⟩ := S.sto.newCell (c := .dct [.ty "T"] []) (o := .dT []) hp rfl ⟨[], ⟨false, .inr [], rfl, rfl, upd_same⟩, .nil⟩
    have P0 := EPost.from g2 P
    have S2 := S.next k2 g2
    refine ⟨_, _, hid, fr, S2, ?_⟩
    unfold eTDct1 at P0
    have hl : (μ ++ [p])[st.length]? = some p := by rw [← S.sto.len]; simp
    cases h1 : f fr (st ++ [.dct [.ty "T"] []]) with
    | bad => rw [h1] at P0; exact P0
    | err z s => rw [h1] at P0; exact P0
    | ok w st1 =>
      rw [h1, Out.bind_ok] at P0
      intro μ1 H1 xv k3 g3 r3
      have P1 := EPost.from g3 P0
      refine ⟨μ1, st1, hid, fr, S2.next k3 g3, ?_⟩
      cases h2 : g fr st1 with
      | bad => rw [h2] at P1; exact P1
      | err z s => rw [h2] at P1; exact P1
      | ok u st2 =>
        rw [h2, Out.bind_ok] at P1
        intro μ2 H2 yv k4 g4 r4
        have P2 := EPost.from g4 P1
        split at P2
        · rename_i kk t hy hc
          split at P2
          · rename_i ht
            subst ht
            have hl2 : μ2[st.length]? = some p := (g3.pre.trans g4.pre).get hl
            obtain ⟨vs, ⟨l, q, c1, c2, c3⟩, c4⟩ := k4.ok st.length p _ hl2 hc
            cases c1
            have hv0 : vs = [] := List.eq_nil_of_length_eq_zero c2.symm
            subst hv0
            have c3' : H2 p = some (.dT []) := c3
            obtain ⟨b, rfl, hb⟩ := keyT_rep hy (Rep.mono g4.le g4.pre _ _ r3)
            refine ⟨c3', kk, b, rfl, (Fz.sub hb).1, ?_⟩
            have hk1 : mapO keyT [w] = some [kk] := by
              unfold mapO
              rw [hy]; rfl
            obtain ⟨k5, g5⟩ := k4.setCell (c' := .dct [.ty "T", w] [u]) (o := .dT [(kk, yv)]) hl2 hc rfl rfl ⟨[yv], ⟨false, .inr [kk], kind_T1 hk1, rfl, upd_same⟩, .cons r4 .nil⟩ rfl
            refine P2 _ _ _ k5 g5 ?_
            unfold Rep
            exact ⟨p, hl2, rfl⟩
          · exact P2.elim
        · exact P2.elim
end
end SL

namespace SL
open PySem PySem.Spec PyProof.Rows L2 Srt SrtO
/-! # sorted of a list of one or none -/
def rSort1 (K : PySem.W.Frag) : List V → Hp → VK → Prop := fun vs H Q => ∃ (a : Addr) (xs : List V), vs = [V.ref a] ∧ SqL K H a xs ∧ xs.length ≤ 1 ∧ ∀ p, H p = none → Q (.ref p) (upd H p (.lst xs))
noncomputable def oSort1 : OpN := fun ws st => match ws with
  | [x] => match lstW st x with
    | some us => if us.length ≤ 1 then .ok (.lst us) st else oSortT ws st
    | none => oSortT ws st
  | _ => .bad
section
variable {X : Cx}
theorem cr_sort1 : CallR X (.builtin "sorted") (rSort1 X.K) := by
  intro pins s σ H vs us Q J r hq
  obtain ⟨a, xs, rfl, hs, h1, q⟩ := hq
  obtain ⟨its, rr, pl, hz⟩ := J.list hs
  rw [Vals.ref1 r]
  have hi : its.length ≤ 1 := by rw [← rr.length]; exact h1
  refine sorted_ord SrtO.swo_int pl.isList (by rw [← rr.length]; exact hz) (fun h2 => absurd h2 (by omega)) fun out a1 a2 => ?_
  have eo : out = its := by
    have p := a2.perm
    cases its with
    | nil => exact p.eq_nil
    | cons x l =>
      have : l = [] := List.eq_nil_of_length_eq_zero (by rw [List.length_cons] at hi; omega)
      subst this
      exact List.perm_singleton.mp p
  subst eo
  obtain ⟨n, hn⟩ := sortedAll_at s.heap out out.toArray
  exact ⟨.ref _, upd H (s.heap.objs.size + 1) (.lst xs), J.laid (t' := s.toks) (fun _ _ => sortedAll_old) (Nat.le_succ _) ⟨hz, out, n, rr, hn⟩, rfl, q _ (J.hok.fresh (Nat.le_succ _))⟩
theorem cr_sort1X : CallR X (.builtin "sorted") (fun vs H Q => rSort1 X.K vs H Q ∨ rSortAny X.K vs H Q) := cr_sort1.or cr_sortAny
theorem os_sort1 : OpNS X oSort1 (fun vs H Q => rSort1 X.K vs H Q ∨ rSortAny X.K vs H Q) := by
  intro Wx hid μ st σ H Q ws vs k r P
  unfold oSort1 at P
  split at P
  · rename_i x
    split at P
    · rename_i us e
      split at P
      · rename_i hl
        obtain ⟨v, rfl, r1⟩ := reps1 (ws := []) r
        obtain ⟨a, xs, rfl, h1, h2⟩ := lstW_at k e r1
        exact .inl ⟨a, xs, rfl, h1, by rw [← h2.length]; exact hl, fun p hp => ok_new P k hp fun F l e => rep_lst e (h2.mono l (.refl _))⟩
      · exact .inr (os_sortT _ hid μ st σ H Q _ vs k r P)
    · exact .inr (os_sortT _ hid μ st σ H Q _ vs k r P)
  · exact P.elim
end
end SL

/-! # texts walked, also numbered -/
namespace SL
open PySem PySem.Spec PyProof.Rows L2
theorem sgnW_len (x : Str) : (sgnW x).length = x.length := by unfold sgnW; rw [List.length_map]; simp [Str.length]
theorem sgnW_get {x : Str} {i : Nat} {c : Nat} (h : x.cps[i]? = some c) : (sgnW x)[i]? = some (.str ⟨#[c]⟩) := by
  unfold sgnW; rw [List.getElem?_map, Array.getElem?_toList, h]; rfl
theorem itOk_str {K : PySem.W.Frag} {mg : Str → Option Value} {x : Str} {F L : Hp} {μ0 : List Addr} (hl : x.length ≤ LINE) : ItOk K mg (Its x) .non (sgnW x) F μ0 L where
  len := by rw [sgnW_len]; exact le_line hl
  go := fun hid μ st H i k l p _ _ hi => by rw [sgnW_len] at hi; exact hi
  yld := fun hid μ st H i v H' k l p _ _ hi y => by
    obtain ⟨rfl, c, h1, rfl⟩ := y
    exact ⟨k, .refl, _, sgnW_get h1, rep_str⟩
  stop := fun hid μ st H i k l p _ _ hi => by rw [sgnW_len] at hi; exact hi
theorem iv_str {X : Cx} {Wx : Wish} {tg e : Expr} {f : Sem} (he : EV X Wx e f) : IV X Wx tg e (iStrF f) := PIm (pi_str he) fun σ H R ⟨μ, st, hid, fr, S, P⟩ => by
  refine ⟨μ, st, hid, fr, S, ?_⟩
  unfold iStrF at P
  cases h1 : f fr st with
  | bad => rw [h1] at P; exact P
  | err x s => rw [h1] at P; exact P
  | ok x st1 =>
    rw [h1, Out.bind_ok] at P
    intro μ1 H1 v k1 g1 r1
    have P1 := IPost.from g1 P
    split at P1
    · rename_i z
      split at P1
      · rename_i hz
        exact ⟨z, rep_str_inv r1, P1 μ1 H1 _ k1 .refl (itOk_str hz)⟩
      · exact P1.elim
    · exact P1.elim
end SL
namespace SLe
open PySem PySem.Spec PyProof.Rows L2
def IteS (x : Str) : It :=
  ⟨fun i _ => i < x.cps.size, fun i H v H' => ∃ T c, v = .ref T ∧ H T = none ∧ H' = upd H T (.tup [.int (i : Nat), .str ⟨#[c]⟩]) ∧ x.cps[i]? = some c, fun i _ => x.cps.size ≤ i⟩
theorem turn_enumS {P : Program} {w : World} {K : PySem.W.Frag} {elts : List Expr} {kk : Nat} {tpos : Pos} (e it : Addr) (x : Str) (t : Tok) (ty : String) (hty : ty = "str_ascii_iterator" ∨ ty = "str_iterator") :
    Turn P w K (.Tuple elts kk tpos) (IteS x) [e, it] e (fun i h => (∃ was, IsEnum h e it ((i : Nat) : Int) was) ∧ h.IsStrIter it ty x t i ∧ e ≠ it) where
  mem := by simp
  obj := fun i h zst b zb => by
    obtain ⟨⟨was, ze⟩, ⟨o, zo, zc, zd⟩, _⟩ := zst
    have e' : b = e ∨ b = it := by simpa using zb
    rcases e' with z | z
    · rw [z]; exact ⟨_, ze, fun v q => nomatch q⟩
    · rw [z]; exact ⟨o, zo, fun v q => by rw [zd] at q; cases q⟩
  keep := fun i h m' zst k => let ⟨⟨was, ze⟩, hi, zne⟩ := zst; ⟨⟨was, k e (by simp) _ ze⟩, (let ⟨o, ho, r⟩ := hi; ⟨o, k it (by simp) o ho, r⟩), zne⟩
  item := by
    intro X hP hw hK zc i pins s σ H E J zf zst zg
    subst hP hw hK
    obtain ⟨⟨was, ze⟩, zit, zne⟩ := zst
    have D : Draws X.prog X.w X.A.in1 it [it] x.cps.size (fun i v => ∃ c u, x.cps[i]? = some c ∧ v = .str ⟨#[c]⟩ u) (fun i h => h.IsStrIter it ty x t i) := by
      rcases hty with z | z
      · rw [z]; exact Draws.strAscii (A := X.A.in1) (J.ok.hd zc) it x t
      · rw [z]; exact Draws.strWide (A := X.A.in1) (J.ok.hd zc) it x t
    have zel : e < s.heap.objs.size := Heap.lt_size ze
    have hil : it < s.heap.objs.size := by obtain ⟨_, q, _⟩ := zit; exact Heap.lt_size q
    refine wpAny_pyNext_enum_itemD D ze zit zg zne (by simpa using zne) fun u m' tk zu zo zit' zT zsz zk => ?_
    obtain ⟨c, tu, zx, rfl⟩ := zu
    refine ⟨_, rfl, wpAny_letOwnedTupleGo_enum (s := { s with heap := m', toks := tk + 1 }) zo fun m'' ze' zsb => ?_⟩
    have zT2 : m''.get? s.heap.objs.size = some { cls := .type "tuple", data := .seq #[.int i tk, .str ⟨#[c]⟩ tu] } := (zsb.2 _ (Nat.ne_of_gt zel)).trans zT
    have znew : ObjOk X.prog X.w (upd H s.heap.objs.size (.tup [.int (i : Nat), .str ⟨#[c]⟩])) m'' s.heap.objs.size (.tup [.int (i : Nat), .str ⟨#[c]⟩]) :=
      ⟨by show 2 ≤ sizeLine; decide, [.int i tk, .str ⟨#[c]⟩ tu], .cons ⟨_, rfl⟩ (.cons ⟨_, rfl⟩ .nil), ⟨_, zT2, rfl, _, rfl⟩⟩
    have J1 : Inv X pins σ (upd H s.heap.objs.size (.tup [.int (i : Nat), .str ⟨#[c]⟩])) { s with heap := m'', toks := tk + 1 } :=
      J.turnedNew (ch := [e, it]) (fun b ob zb q => (zsb.2 b (fun z => zb (by simp [z]))).trans (zk b ob (fun z => zb (by simp [z])) (fun z => zb (by simp [z])) q)) zf (Nat.le_refl _) znew
    refine ⟨.ref s.heap.objs.size, _, J1, rfl, ⟨_, c, rfl, J.hok.fresh (Nat.le_refl _), rfl, zx⟩, ⟨⟨.str ⟨#[c]⟩ tu, ?_⟩, ?_, zne⟩, fun b zb => ?_⟩
    · have e1 : ((i + 1 : Nat) : Int) = (i : Int) + 1 := by omega
      rw [e1]; exact ze'
    · obtain ⟨o, ho, r⟩ := zit'
      exact ⟨o, (zsb.2 it (Ne.symm zne)).trans ho, r⟩
    · have hb' : b < s.heap.objs.size := by
        have e' : b = e ∨ b = it := by simpa using zb
        rcases e' with z | z
        · rw [z]; exact zel
        · rw [z]; exact hil
      rw [upd_ne (Nat.ne_of_lt hb')]
      exact (zf b zb).1
  done := by
    intro X hP hw hK zc i pins s σ H E J zf zst zg
    subst hP hw hK
    obtain ⟨⟨was, ze⟩, zit, zne⟩ := zst
    obtain ⟨f0, f1, f2, f3, f4, f5⟩ := zf it (by simp)
    have hx : x.cps[i]? = none := Array.getElem?_eq_none zg
    have zT : s.TypeIs (.ref e) "enumerate" := ⟨_, ze, rfl⟩
    unfold pyNext
    refine wpAny_bind (wpAny_attempt (wpAny_callSpecial?_slot (name := Str.ofString "__next__") zT F.slot_enumerate_next
      (wpAny_call_entry F.slot_enumerate_next zT F.entry_enumerate_next ?_ (F.args_enumerate_next_1 _))))
    show wpAny _ _ (field (.ref e) 2 >>= _) _ _ _
    refine wpAny_bind (wpAny_field ze rfl (x := .ref it) rfl ?_)
    rcases hty with z | z
    · rw [z] at zit
      refine wpAny_bind (wpAny_nextOf_ascii_end (J.ok.hd zc) zit hx fun m' y ze' zx' => ?_)
      obtain ⟨o, zo, zcc⟩ := zx'
      refine wpAny_bind (wpAny_isInstance (T := "StopIteration") (b := true) ⟨o, zo, zcc⟩ isSubtype_stop ?_)
      exact wpAny_pure ⟨rfl, J.turned (t' := s.toks) (fun b o zb q => ze' b o zb q) f0 f1 f3 f4 f5⟩
    · rw [z] at zit
      refine wpAny_bind (wpAny_nextOf_wide_end (J.ok.hd zc) zit hx fun m' y ze' zx' => ?_)
      obtain ⟨o, zo, zcc⟩ := zx'
      refine wpAny_bind (wpAny_isInstance (T := "StopIteration") (b := true) ⟨o, zo, zcc⟩ isSubtype_stop ?_)
      exact wpAny_pure ⟨rfl, J.turned (t' := s.toks) (fun b o zb q => ze' b o zb q) f0 f1 f3 f4 f5⟩
  self := fun A i s Q E zst h => let ⟨⟨_, ze⟩, _⟩ := zst; wpAny_pyIter_enum ze h
end SLe
namespace SL
open PySem PySem.Spec PyProof.Rows L2
def iEnumS (ta : TA) : TI := fun σ H R => ta σ H fun vs H1 => ∃ x, vs = [.str x] ∧ R (SLe.IteS x) H1
theorem pi_enumS {X : Cx} {e : Expr} {ta : TA} {p pos tpos : Pos} {elts : List Expr} {kk : Nat} (hm : X.mg "enumerate" = none) (ha : PA X [e] ta) (hg : Gl X "enumerate") (hs : starEach [e] X.env = [(false, eval e X.env)]) :
    PI X (.Tuple elts kk tpos) (.Call (.Name "enumerate" p) [e] [] pos) (iEnumS ta) := by
  refine ⟨fun pins s σ H R J q => Call_ (ld_blt J hg hm boot_enumerate (PyProof.Rows.callWith_type1 (thn (ha.run pos pins s σ H _ J q) fun us s1 ⟨vs, H1, J1, r1, x, ex, q1⟩ => ?_) hs rfl))⟩
  subst ex
  cases r1 with
  | cons r rr =>
    cases rr
    obtain ⟨t, rfl⟩ := r
    have fin : ∀ c : Addr, c = s1.heap.objs.size + 1 ∨ c = s1.heap.objs.size → s1.heap.objs.size ≤ c := fun c hc => by
      rcases hc with z | z <;> rw [z] <;> omega
    refine call_enumerate_str fun h' ze zi _ zk => wpAny_pyIter_enum ze ?_
    have J2 : Inv X pins σ H1 { s1 with heap := h' } := J1.kept (t' := s1.toks) zk
    have hty : strIterType x = "str_ascii_iterator" ∨ strIterType x = "str_iterator" := by
      unfold strIterType; split
      · exact .inl rfl
      · exact .inr rfl
    refine ⟨s1.heap.objs.size + 1, [s1.heap.objs.size + 1, s1.heap.objs.size], _, _, H1, rfl, J2, SLe.turn_enumS _ _ x t _ hty, ⟨⟨.none, ze⟩, zi, Nat.succ_ne_self _⟩, fun c hc => ?_, q1⟩
    have hle := fin c (by simpa using hc)
    exact J1.fpOk hle (J1.hok.fresh hle)
/-- enumerate(text) -/
def iEnS (f : SemL) : SemI := fun fr st => (f fr st).bind fun vs st1 => match vs with
  | [.str z] => if z.length ≤ LINE then .ok (.non, numbered (sgnW z)) st1 else .bad
  | _ => .bad
theorem iv_enumS {X : Cx} {Wx : Wish} {e : Expr} {f : SemL} {p pos tpos : Pos} {elts : List Expr} {kk : Nat} (hm : X.mg "enumerate" = none) (ha : AV X Wx [e] f) (hg : Gl X "enumerate" := by rfl) (hs : starEach [e] X.env = [(false, eval e X.env)] := by rfl) :
    IV X Wx (.Tuple elts kk tpos) (.Call (.Name "enumerate" p) [e] [] pos) (iEnS f) := PIm (pi_enumS hm ha hg hs) fun σ H R ⟨μ, st, hid, fr, S, P⟩ => by
  refine ⟨μ, st, hid, fr, S, ?_⟩
  unfold iEnS at P
  cases h1 : f fr st with
  | bad => rw [h1] at P; exact P
  | err x s => rw [h1] at P; exact P
  | ok ws st1 =>
    rw [h1, Out.bind_ok] at P
    intro μ1 H1 vs k1 g1 r1
    have P1 := IPost.from g1 P
    split at P1
    · rename_i z
      obtain ⟨v, rfl, r2⟩ := reps1 (ws := []) r1
      cases rep_str_inv r2
      split at P1
      · rename_i hz
        have hnl : (numbered (sgnW z)).length = z.length := by unfold numbered; rw [List.length_mapIdx, sgnW_len]
        refine ⟨z, rfl, P1 μ1 H1 _ k1 .refl ?_⟩
        exact {
          len := by rw [hnl]; exact le_line hz
          go := fun hid μ st H i k l p _ _ hi => by rw [hnl] at hi; exact hi
          yld := fun hid μ st H i v H' k l p _ _ hi y => by
            obtain ⟨T, c, rfl, hT, rfl, hx⟩ := y
            obtain ⟨k1, g1, e1⟩ := k.laid (o := .tup [.int (i : Nat), .str ⟨#[c]⟩]) hT
            exact ⟨k1, g1, _, numbered_get (sgnW_get hx), rep_tup e1 (.cons rep_int (.cons rep_str .nil))⟩
          stop := fun hid μ st H i k l p _ _ hi => by rw [hnl] at hi; exact hi }
      · exact P1.elim
    · exact P1.elim
end SL

/-! # what stands in a list, a tuple, a text; its place -/
namespace SL
open PySem PySem.Spec PyProof.Rows L2
/-- flat values -/
def flW : W → Bool
  | .non => true
  | .bl _ => true
  | .int _ => true
  | .str _ => true
  | _ => false
def vaW : W → V
  | .bl b => .bl b
  | .int i => .int i
  | .str x => .str x
  | _ => .non
/-- == of flat values -/
def eqF : W → W → Bool
  | .non, .non => true
  | .bl a, .bl b => a == b
  | .bl a, .int b => (if a then 1 else 0) == b
  | .int a, .bl b => a == (if b then 1 else 0)
  | .int a, .int b => a == b
  | .str a, .str b => a == b
  | _, _ => false
theorem vaW_flat {w : W} (h : flW w = true) : flatV (vaW w) = true := by cases w <;> first | rfl | cases h
theorem eqF_at {a b : W} (ha : flW a = true) (hb : flW b = true) : eqV (vaW a) (vaW b) = eqF a b := by
  cases a <;> cases b <;> first | rfl | exact Bool.noConfusion ha | exact Bool.noConfusion hb
theorem flW_at {K : PySem.W.Frag} {mg : Str → Option Value} {F : Hp} {μ : List Addr} {w : W} {v : V} (h : flW w = true) (r : Rep K mg F μ w v) : v = vaW w := by
  cases w with
  | non => exact rep_non_inv r
  | bl b => exact rep_bl_inv r
  | int b => exact rep_int_inv r
  | str b => exact rep_str_inv r
  | _ => cases h
theorem flWs_at {K : PySem.W.Frag} {mg : Str → Option Value} {F : Hp} {μ : List Addr} : ∀ {ws : List W} {vs : List V}, ws.all flW = true → Reps K mg F μ ws vs → vs = ws.map vaW
  | [], vs, _, r => by rw [Reps.nil_iff] at r; subst r; rfl
  | w :: ws, vs, h, r => by
    rw [List.all_cons, Bool.and_eq_true] at h
    obtain ⟨v, t, rfl, r1, r2⟩ := r.cons_inv
    rw [flW_at h.1 r1, flWs_at h.2 r2]; rfl
theorem flWs_flat : ∀ {ws : List W}, ws.all flW = true → (ws.map vaW).all flatV = true
  | [], _ => rfl
  | w :: ws, h => by
    rw [List.all_cons, Bool.and_eq_true] at h
    rw [List.map_cons, List.all_cons, vaW_flat h.1, flWs_flat h.2]; rfl
theorem inV_at {x : W} (hx : flW x = true) : ∀ {ws : List W}, ws.all flW = true → inV (vaW x) (ws.map vaW) = ws.any fun y => eqF y x
  | [], _ => rfl
  | w :: ws, h => by
    rw [List.all_cons, Bool.and_eq_true] at h
    have ih := inV_at hx h.2
    unfold inV at ih ⊢
    rw [List.map_cons, List.any_cons, List.any_cons, ih, eqF_at h.1 hx]
/-- x in a list or tuple of flat values; a sign in a text; data in a list of data -/
def inW (st : Sto) (x y : W) : Option Bool := match y with
  | .str z => match x with
    | .str ⟨⟨[c]⟩⟩ => some (decide (c ∈ z.cps.toList))
    | _ => none
  | _ => match seqW st y with
    | some ws => if flW x && ws.all flW then some (ws.any fun y => eqF y x) else match pdT st x, pdT st y with
      | some d, some (.list ds) => if SeqAt.shaped d && SeqAt.shaped (.list ds) then some (ds.any fun z => PyData.eqv z d) else none
      | _, _ => none
    | none => none
def oIn : Op2 := fun x y st => match inW st x y with
  | some b => .ok (.bl b) st
  | none => .bad
def oNin : Op2 := fun x y st => match inW st x y with
  | some b => .ok (.bl (!b)) st
  | none => .bad
def rInA (K : PySem.W.Frag) : R2 := fun x y H Q => (rIn K false x y H Q ∨ (∃ (c : Nat) (z : Str), x = .str ⟨#[c]⟩ ∧ y = .str z ∧ Q (.bl (decide (c ∈ z.cps.toList))) H)) ∨ rInD K x y H Q
def rNinA (K : PySem.W.Frag) : R2 := fun x y H Q => (rIn K true x y H Q ∨ (∃ (c : Nat) (z : Str), x = .str ⟨#[c]⟩ ∧ y = .str z ∧ Q (.bl (!decide (c ∈ z.cps.toList))) H)) ∨ rNotInD K x y H Q
section
variable {X : Cx}
theorem or_in (hu : X.A.units + 65 < cLine) : OpR X (compareOp .In) (rInA X.K) := (op_in_seq.or op_in_sign).or (op_inD hu)
theorem or_nin (hu : X.A.units + 65 < cLine) : OpR X (compareOp .NotIn) (rNinA X.K) := (op_notIn_seq.or op_notIn_sign).or (op_notInD hu)
theorem inW_at {K : PySem.W.Frag} {mg : Str → Option Value} {H : Hp} {hid μ : List Addr} {st : Sto} (k : StOk K mg μ st hid H) {w u : W} {x y : V} {b : Bool} (h : inW st w u = some b) (rx : Rep K mg (Fz μ st hid H) μ w x) (ry : Rep K mg (Fz μ st hid H) μ u y) :
    (∃ p xs, y = .ref p ∧ (SqL K H p xs ∨ SqT K H p xs) ∧ flatV x = true ∧ xs.all flatV = true ∧ b = inV x xs) ∨ (∃ (c : Nat) (z : Str), x = .str ⟨#[c]⟩ ∧ y = .str z ∧ b = decide (c ∈ z.cps.toList)) ∨
    (∃ d ds, Dp K H x d ∧ Dp K H y (.list ds) ∧ SeqAt.shaped d = true ∧ SeqAt.shaped (.list ds) = true ∧ b = ds.any fun z => PyData.eqv z d) := by
  have go : ∀ ws, seqW st u = some ws → (if flW w && ws.all flW then some (ws.any fun y => eqF y w) else match pdT st w, pdT st u with
      | some d, some (.list ds) => if SeqAt.shaped d && SeqAt.shaped (.list ds) then some (ds.any fun z => PyData.eqv z d) else none
      | _, _ => none) = some b → (∃ p xs, y = .ref p ∧ (SqL K H p xs ∨ SqT K H p xs) ∧ flatV x = true ∧ xs.all flatV = true ∧ b = inV x xs) ∨ (∃ (c : Nat) (z : Str), x = .str ⟨#[c]⟩ ∧ y = .str z ∧ b = decide (c ∈ z.cps.toList)) ∨
    (∃ d ds, Dp K H x d ∧ Dp K H y (.list ds) ∧ SeqAt.shaped d = true ∧ SeqAt.shaped (.list ds) = true ∧ b = ds.any fun z => PyData.eqv z d) := fun ws e h => by
    obtain ⟨a, vs, rfl, h1, h2⟩ := seqW_at k e ry
    split at h
    · rename_i hf
      rw [Bool.and_eq_true] at hf
      cases h
      have e1 := flW_at hf.1 rx
      have e2 := flWs_at hf.2 h2
      subst e1 e2
      exact .inl ⟨a, _, rfl, h1, vaW_flat hf.1, flWs_flat hf.2, (inV_at hf.1 hf.2).symm⟩
    · split at h
      · rename_i d ds e1 e2
        split at h
        · rename_i hs
          rw [Bool.and_eq_true] at hs
          cases h
          exact .inr (.inr ⟨d, ds, pdT_at k e1 rx, pdT_at k e2 ry, hs.1, hs.2, rfl⟩)
        · cases h
      · cases h
  unfold inW at h
  split at h
  · rename_i z
    split at h
    · rename_i c
      cases h
      exact .inr (.inl ⟨c, z, rep_str_inv rx, rep_str_inv ry, rfl⟩)
    · cases h
  · split at h
    · rename_i ws e
      exact go ws e h
    · cases h
theorem os_in : Op2S X oIn (rInA X.K) := by
  intro Wx hid μ st σ H Q w u x y k rx ry P
  unfold oIn at P
  split at P
  · rename_i b h
    have q := P μ H _ k .refl rep_bl
    rcases inW_at k h rx ry with ⟨p, xs, h1, h2, h3, h4, rfl⟩ | ⟨c, z, h1, h2, rfl⟩ | ⟨d, ds, h1, h2, h3, h4, rfl⟩
    · exact .inl (.inl ⟨p, xs, h1, h2, h3, h4, q⟩)
    · exact .inl (.inr ⟨c, z, h1, h2, q⟩)
    · exact .inr ⟨d, ds, h1, h2, h3, h4, q⟩
  · exact P.elim
theorem os_nin : Op2S X oNin (rNinA X.K) := by
  intro Wx hid μ st σ H Q w u x y k rx ry P
  unfold oNin at P
  split at P
  · rename_i b h
    have q := P μ H _ k .refl rep_bl
    rcases inW_at k h rx ry with ⟨p, xs, h1, h2, h3, h4, rfl⟩ | ⟨c, z, h1, h2, rfl⟩ | ⟨d, ds, h1, h2, h3, h4, rfl⟩
    · exact .inl (.inl ⟨p, xs, h1, h2, h3, h4, q⟩)
    · exact .inl (.inr ⟨c, z, h1, h2, q⟩)
    · exact .inr ⟨d, ds, h1, h2, h3, h4, q⟩
  · exact P.elim
/-! ## the place in a list (flat values, or data), in a tuple of texts -/
def idxF (x : W) : List W → Option Nat
  | [] => none
  | y :: ws => if eqF y x = true then some 0 else (idxF x ws).map (· + 1)
theorem idxF_at {x : W} : ∀ {ws : List W} {j : Nat}, idxF x ws = some j → (∃ z, ws[j]? = some z ∧ eqF z x = true) ∧ ∀ m z, m < j → ws[m]? = some z → eqF z x = false
  | [], j, h => by cases h
  | y :: ws, j, h => by
    unfold idxF at h
    split at h
    · rename_i e
      cases h
      exact ⟨⟨y, rfl, e⟩, fun m z hm => absurd hm (by omega)⟩
    · rename_i e
      cases e1 : idxF x ws with
      | none => rw [e1] at h; cases h
      | some k =>
        rw [e1] at h; cases h
        obtain ⟨⟨z, h1, h2⟩, h3⟩ := idxF_at e1
        refine ⟨⟨z, by simpa using h1, h2⟩, fun m z' hm hz => ?_⟩
        cases m with
        | zero => simp at hz; subst hz; simpa using e
        | succ m => exact h3 m z' (Nat.lt_of_succ_lt_succ hm) (by simpa using hz)
def idxD (d : PyData) : List PyData → Option Nat
  | [] => none
  | y :: ws => if PyData.eqv y d = true then some 0 else (idxD d ws).map (· + 1)
theorem idxD_at {x : PyData} : ∀ {ws : List PyData} {j : Nat}, idxD x ws = some j → (∃ z, ws[j]? = some z ∧ PyData.eqv z x = true) ∧ ∀ m z, m < j → ws[m]? = some z → PyData.eqv z x = false
  | [], j, h => by cases h
  | y :: ws, j, h => by
    unfold idxD at h
    split at h
    · rename_i e
      cases h
      exact ⟨⟨y, rfl, e⟩, fun m z hm => absurd hm (by omega)⟩
    · rename_i e
      cases e1 : idxD x ws with
      | none => rw [e1] at h; cases h
      | some k =>
        rw [e1] at h; cases h
        obtain ⟨⟨z, h1, h2⟩, h3⟩ := idxD_at e1
        refine ⟨⟨z, by simpa using h1, h2⟩, fun m z' hm hz => ?_⟩
        cases m with
        | zero => simp at hz; subst hz; simpa using e
        | succ m => exact h3 m z' (Nat.lt_of_succ_lt_succ hm) (by simpa using hz)
def mIndex : OpM := fun x ws st => match ws with
  | [y] => match lstW st x with
    | some us => if flW y && us.all flW then (match idxF y us with
        | some j => .ok (.int (j : Nat)) st
        | none => .bad) else (match pdT st x, pdT st y with
        | some (.list ds), some d => if SeqAt.shaped (.list ds) && SeqAt.shaped d then (match idxD d ds with
            | some j => .ok (.int (j : Nat)) st
            | none => .bad) else .bad
        | _, _ => .bad)
    | none => .bad
  | _ => .bad
theorem mt_indexA (hu : X.A.units + 65 < cLine) : MtR X "list.index" (fun x xs H Q => rIndex X.K x xs H Q ∨ rIndexD X.K x xs H Q) := (mt_index).or (mt_indexD hu)
theorem os_index : OpMS X mIndex (fun x xs H Q => rIndex X.K x xs H Q ∨ rIndexD X.K x xs H Q) := by
  intro Wx hid μ st σ H Q w ws x vs k rx rs P
  unfold mIndex at P
  split at P
  · rename_i y
    obtain ⟨v, rfl, r1⟩ := reps1 (ws := []) rs
    split at P
    · rename_i us e
      obtain ⟨a, zs, rfl, h1, h2⟩ := lstW_at k e rx
      split at P
      · rename_i hf
        rw [Bool.and_eq_true] at hf
        split at P
        · rename_i j ej
          obtain ⟨⟨z, q1, q2⟩, q3⟩ := idxF_at ej
          have e1 := flW_at hf.1 r1
          have e2 := flWs_at hf.2 h2
          subst e1 e2
          have fl : ∀ {m : Nat} {z : W}, us[m]? = some z → flW z = true := fun h => List.all_eq_true.mp hf.2 _ (List.mem_of_getElem? h)
          refine .inl ⟨a, _, _, j, vaW z, rfl, rfl, h1, vaW_flat hf.1, flWs_flat hf.2, by rw [List.getElem?_map, q1]; rfl, by rw [eqF_at (fl q1) hf.1]; exact q2, fun m z' hm hz => ?_, P μ H _ k .refl rep_int⟩
          rw [List.getElem?_map] at hz
          cases e3 : us[m]? with
          | none => rw [e3] at hz; cases hz
          | some u =>
            rw [e3] at hz
            cases hz
            rw [eqF_at (fl e3) hf.1]
            exact q3 m u hm e3
        · exact P.elim
      · split at P
        · rename_i ds d e1 e2
          split at P
          · rename_i hs
            rw [Bool.and_eq_true] at hs
            split at P
            · rename_i j ej
              obtain ⟨⟨z, q1, q2⟩, q3⟩ := idxD_at ej
              exact .inr ⟨a, v, d, ds, j, z, rfl, rfl, pdT_at k e1 rx, pdT_at k e2 r1, hs.1, hs.2, q1, q2, q3, P μ H _ k .refl rep_int⟩
            · exact P.elim
          · exact P.elim
        · exact P.elim
    · exact P.elim
  · exact P.elim
/-- the texts of a list -/
def strsW : List W → Option (List Str)
  | [] => some []
  | .str x :: r => (strsW r).map (x :: ·)
  | _ :: _ => none
theorem strsW_at {K : PySem.W.Frag} {mg : Str → Option Value} {F : Hp} {μ : List Addr} : ∀ {ws : List W} {vs : List V} {xs : List Str}, strsW ws = some xs → Reps K mg F μ ws vs → vs = xs.map V.str
  | [], vs, xs, h, r => by rw [Reps.nil_iff] at r; subst r; cases h; rfl
  | w :: ws, vs, xs, h, r => by
    obtain ⟨v, t, rfl, r1, r2⟩ := r.cons_inv
    unfold strsW at h
    split at h
    · rename_i e; cases e
    · rename_i x r' e
      cases e
      cases e1 : strsW ws with
      | none => rw [e1] at h; cases h
      | some ys =>
        rw [e1] at h; cases h
        rw [strsW_at e1 r2, rep_str_inv r1]; rfl
    · cases h
theorem strsW_map (xs : List Str) : strsW (xs.map W.str) = some xs := by
  induction xs with
  | nil => rfl
  | cons x xs ih => rw [List.map_cons]; unfold strsW; rw [ih]; rfl
def mIndexT : OpM := fun x ws st => match ws with
  | [.str y] => match tupW st x with
    | some us => match strsW us with
      | some xs => match xs.findIdx? (fun z => decide (z = y)) with
        | some j => .ok (.int (j : Nat)) st
        | none => .bad
      | none => .bad
    | none => .bad
  | _ => .bad
theorem os_indexT : OpMS X mIndexT (fun x xs H Q => ∃ p, ∃ ys : List Str, ∃ z j, x = .ref p ∧ xs = [.str z] ∧ SqT X.K H p (ys.map V.str) ∧ ys[j]? = some z ∧ (∀ m, m < j → ys[m]? ≠ some z) ∧ Q (.int (j : Nat)) H) := by
  intro Wx hid μ st σ H Q w ws x vs k rx rs P
  unfold mIndexT at P
  split at P
  · rename_i y
    obtain ⟨v, rfl, r1⟩ := reps1 (ws := []) rs
    cases rep_str_inv r1
    split at P
    · rename_i us e
      obtain ⟨a, zs, rfl, h1, h2⟩ := tupW_at k e rx
      split at P
      · rename_i xs e1
        have e2 := strsW_at e1 h2
        subst e2
        split at P
        · rename_i j ej
          obtain ⟨hj, q1, q2⟩ := List.findIdx?_eq_some_iff_getElem.mp ej
          refine ⟨a, xs, y, j, rfl, rfl, h1, by rw [List.getElem?_eq_getElem hj, of_decide_eq_true q1], fun m hm hz => ?_, P μ H _ k .refl rep_int⟩
          have hml : m < xs.length := by omega
          rw [List.getElem?_eq_getElem hml] at hz
          have := q2 m hm
          simp [Option.some.inj hz] at this
        · exact P.elim
      · exact P.elim
    · exact P.elim
  · exact P.elim
/-! ## pop at a place -/
theorem reps_erase {K : PySem.W.Frag} {mg : Str → Option Value} {F : Hp} {μ : List Addr} : ∀ {ws : List W} {vs : List V} (j : Nat), Reps K mg F μ ws vs → Reps K mg F μ (ws.eraseIdx j) (vs.eraseIdx j)
  | [], vs, j, r => by rw [Reps.nil_iff] at r; subst r; simp; exact .nil
  | w :: ws, vs, 0, r => by
    obtain ⟨v, t, rfl, r1, r2⟩ := r.cons_inv
    simpa using r2
  | w :: ws, vs, j + 1, r => by
    obtain ⟨v, t, rfl, r1, r2⟩ := r.cons_inv
    rw [List.eraseIdx_cons_succ, List.eraseIdx_cons_succ]
    exact .cons r1 (reps_erase j r2)
noncomputable def mPopAt : OpM := fun x ws st => match x, ws with
  | .cell k, [.int i] => match st[k]? with
    | some (.lst vs) => if dec (-(2 ^ 63) ≤ i ∧ i < 2 ^ 63) = true then (match seqIndex? i vs.length with
      | some j => match vs[j]? with
        | some u => .ok u (st.set k (.lst (vs.eraseIdx j)))
        | none => .bad
      | none => .bad) else .bad
    | _ => .bad
  | _, _ => .bad
theorem os_popAt : OpMS X mPopAt rPopAt := by
  intro Wx hid μ st σ H Q w ws x vs k rx rs P
  unfold mPopAt at P
  split at P
  · rename_i n i
    obtain ⟨v, rfl, r1⟩ := reps1 (ws := []) rs
    cases rep_int_inv r1
    split at P
    · rename_i zs e1
      split at P
      · rename_i hz
        have hz := dec_of hz
        split at P
        · rename_i j ej
          split at P
          · rename_i u eu
            obtain ⟨a, rfl, h3, xs, h4, h5⟩ := k.cell e1 rx
            obtain ⟨y, ey, ry⟩ := h5.get eu
            refine ⟨a, xs, i, j, y, rfl, rfl, h4, hz.1, hz.2, by rw [← h5.length]; exact ej, ey, ?_⟩
            obtain ⟨k2, g2⟩ := k.setCell (c' := .lst (zs.eraseIdx j)) (o := .lst (xs.eraseIdx j)) h3 e1 rfl rfl ⟨_, upd_same, reps_erase j h5⟩
            exact P μ _ _ k2 g2 (Rep.mono g2.le g2.pre _ _ ry)
          · exact P.elim
        · exact P.elim
      · exact P.elim
    · exact P.elim
  · exact P.elim
end
end SL

/-! # plain tuples: tuple(x) made; their index; list(text); join; sorted texts; a sign of a text -/
namespace SL
open PySem PySem.Spec PyProof.Rows L2
section
variable {X : Cx}
/-- tuple(list) makes a plain one -/
def rTupP (K : PySem.W.Frag) : List V → Hp → VK → Prop := fun xs H Q => ∃ a ys, xs = [.ref a] ∧ ((SqL K H a ys ∧ ∀ l o, o.dict = none → H l = none → Q (.ref l) (upd H l (.frz o (.tup ys)))) ∨ (SqT K H a ys ∧ Q (.ref a) H))
theorem call_tupleP : CallR X (.type "tuple") (rTupP X.K) := by
  intro pins s σ H xs us Q I r h
  obtain ⟨p, ys, rfl, h⟩ := h
  obtain ⟨u, rfl, rx⟩ := vals1 r
  cases rx
  rcases h with ⟨hq, q⟩ | ⟨hq, q⟩
  · obtain ⟨its, r', pl, hz⟩ := I.list hq
    have hlen := r'.length
    refine call_tuple_list pl.isList (fun h' kp => ?_) (by simp only [List.size_toArray] <;> omega)
    have I1 : Inv X pins σ H { s with heap := h' } := I.kept (t' := s.toks) kp
    have I2 : Inv X pins σ (upd H h'.objs.size (.frz { cls := .type "tuple", data := .seq its.toArray } (.tup ys))) { s with heap := h'.push { cls := .type "tuple", data := .seq its.toArray } } :=
      I1.laid (t' := s.toks) (fun b o e => Heap.get?_push_of_some _ e) (Nat.le_refl _) (show ObjOk X.prog X.w _ _ _ (.frz _ (.tup ys)) from ⟨Heap.get?_push_size _ rfl, hz, its, r', IsTup.new _ _⟩)
    exact ⟨.ref h'.objs.size, _, I2, rfl, q _ _ rfl (I1.hok.fresh (Nat.le_refl _))⟩
  · obtain ⟨its, r', pl, hz⟩ := I.tuple hq
    exact call_tuple_same pl ⟨.ref p, H, I, rfl, q⟩
def oTupleP : OpN := fun ws st => match ws with
  | [x] => match lstW st x with
    | some us => .ok (.tpn us) st
    | none => match tupW st x with
      | some _ => .ok x st
      | none => .bad
  | _ => .bad
theorem os_tupleP : OpNS X oTupleP (rTupP X.K) := by
  intro Wx hid μ st σ H Q ws vs k r P
  unfold oTupleP at P
  split at P
  · obtain ⟨v, rfl, r1⟩ := reps1 (ws := []) r
    split at P
    · rename_i us e'
      obtain ⟨a, xs, rfl, h1, h2⟩ := lstW_at k e' r1
      exact ⟨a, xs, rfl, .inl ⟨h1, fun l o ho hl => ok_new P k hl fun F le e => rep_tpn ⟨o, ho, e⟩ (h2.mono le (.refl _))⟩⟩
    · split at P
      · rename_i us e
        obtain ⟨a, xs, rfl, h1, h2⟩ := tupW_at k e r1
        exact ⟨a, xs, rfl, .inr ⟨h1, P μ H _ k .refl r1⟩⟩
      · exact P.elim
  · exact P.elim
/-! ## t.index(x), a plain tuple of texts -/
def tpnW (st : Sto) : W → Option (List W)
  | .tpn ws => some ws
  | .cell k => match st[k]? with
    | some (.frz (.tpn ws)) => some ws
    | _ => none
  | _ => none
theorem tpnW_at {K : PySem.W.Frag} {mg : Str → Option Value} {μ : List Addr} {st : Sto} {hid : List Addr} {H : Hp} (s : StOk K mg μ st hid H) {w : W} {ws : List W} {v : V} (h : tpnW st w = some ws) (r : Rep K mg (Fz μ st hid H) μ w v) : ∃ a vs o, v = .ref a ∧ o.dict = none ∧ H a = some (.frz o (.tup vs)) ∧ Reps K mg (Fz μ st hid H) μ ws vs := by
  cases w with
  | tpn us =>
    unfold tpnW at h; cases h
    obtain ⟨a, vs, e, ⟨o, ho, h1⟩, h2⟩ := rep_tpn_inv r
    exact ⟨a, vs, o, e, ho, (Fz.sub h1).1, h2⟩
  | cell k =>
    unfold tpnW at h
    simp only at h
    split at h
    · rename_i us e
      cases h
      obtain ⟨a, e1, e2, h1⟩ := s.cell e r
      obtain ⟨b, vs, e3, ⟨o, ho, h2⟩, h3⟩ := rep_tpn_inv h1
      cases e3
      exact ⟨a, vs, o, e1, ho, (Fz.sub h2).1, h3⟩
    · cases h
  | _ => cases h
def rIdxP (x : V) (vs : List V) (H : Hp) (Q : VK) : Prop := ∃ (p : Addr) (o : Obj) (ys : List Str) (z : Str) (j : Nat), x = .ref p ∧ vs = [.str z] ∧ o.dict = none ∧ H p = some (.frz o (.tup (ys.map V.str))) ∧ ys[j]? = some z ∧ (∀ m, m < j → ys[m]? ≠ some z) ∧ Q (.int (j : Nat)) H
/-- o.index(e), o a plain tuple of texts -/
theorem pe_idxP {o e : Expr} {to : TE} {t : TA} {apos cpos : Pos} (ho : PE X o to) (ha : PA X [e] t)
    (hbase : attributeBase o "index" X.env (eval o X.env) = eval o X.env) (hline : (apos.endLine == cpos.line) = true) (hs : starEach [e] X.env = [(false, eval e X.env)])
    (hfew : ((backTo cpos (starEach [e] X.env)).all (fun x => !x.1) && (backToKw cpos (keywordEach [] X.env)).all (fun x => x.1.isSome) && decide (([e] : List Expr).length + ([] : List Keyword).length + (if ([] : List Keyword).isEmpty then 0 else 1) < 30)) = true) :
    PE X (.Call (.Attribute o "index" apos) [e] [] cpos) (fun σ H Q => to σ H fun x H1 => (∃ (p : Addr) (ob : Obj) (vs : List V), x = .ref p ∧ ob.dict = none ∧ H1 p = some (.frz ob (.tup vs))) ∧ t σ H1 fun vs H2 => rIdxP x vs H2 Q) := by
  refine ⟨fun pins s σ H Q I h => ?_⟩
  refine wpAny_Call_method_late hbase hfew hline rfl (thn (ho.run pins s σ H _ I h) fun v s1 ⟨x, H1, I1, r1, ty, q1⟩ => ?_)
  obtain ⟨p, ob, vs, rfl, hd, hp⟩ := ty
  cases r1
  obtain ⟨e1, hz, its, rv, it⟩ := I1.hok p _ hp
  have hT : s1.TypeIs (.ref p) "tuple" := by
    obtain ⟨o2, h1, h2, _⟩ := it
    exact ⟨o2, h1, h2⟩
  refine ⟨"tuple", "tuple.index", PySem.F.plainAttrs_tuple, PySem.F.slot_tuple_index, PySem.F.type_tuple_index, hT, fun a ea => ?_, ?_⟩
  · cases ea
    exact ⟨ob, e1, hd⟩
  · have hA := ha.run cpos pins s1 σ H1 _ I1 q1
    rw [hs] at hA ⊢
    refine Calls.callWith_builtin rfl (Calls.evalArgs_plain ?_)
    exact thn hA fun us s2 ⟨vs2, H2, I2, r2, q2⟩ => by
      obtain ⟨p2, o2, ys, z, j, e3, rfl, hd2, hp2, hj, hno, q⟩ := q2
      cases e3
      exact mt_tup_index pins s2 σ H2 (.ref p) [.str z] _ us Q I2 rfl r2 ⟨p, ys, z, j, rfl, rfl, .inl (.inr ⟨o2, hp2⟩), hj, hno, q⟩
def mIndexP : OpM := fun x ws st => match ws with
  | [.str y] => match tpnW st x with
    | some us => match strsW us with
      | some xs => match xs.findIdx? (fun z => decide (z = y)) with
        | some j => .ok (.int (j : Nat)) st
        | none => .bad
      | none => .bad
    | none => .bad
  | _ => .bad
theorem os_indexP : OpMS X mIndexP rIdxP := by
  intro Wx hid μ st σ H Q w ws x vs k rx rs P
  unfold mIndexP at P
  split at P
  · rename_i y
    obtain ⟨v, rfl, r1⟩ := reps1 (ws := []) rs
    cases rep_str_inv r1
    split at P
    · rename_i us e
      obtain ⟨a, zs, o, rfl, ho, h1, h2⟩ := tpnW_at k e rx
      split at P
      · rename_i xs e1
        have e2 := strsW_at e1 h2
        subst e2
        split at P
        · rename_i j ej
          obtain ⟨hj, q1, q2⟩ := List.findIdx?_eq_some_iff_getElem.mp ej
          refine ⟨a, o, xs, y, j, rfl, rfl, ho, h1, by rw [List.getElem?_eq_getElem hj, of_decide_eq_true q1], fun m hm hz => ?_, P μ H _ k .refl rep_int⟩
          have hml : m < xs.length := by omega
          rw [List.getElem?_eq_getElem hml] at hz
          have := q2 m hm
          simp [Option.some.inj hz] at this
        · exact P.elim
      · exact P.elim
    · exact P.elim
  · exact P.elim
def isTpn (st : Sto) (w : W) : Bool := (tpnW st w).isSome
end
section
variable {X : Cx} {Wx : Wish}
theorem eM_readP {ty : Sto → W → Bool} {B : V → Hp → Prop} {op : OpM} {r : V → List V → Hp → VK → Prop} {f : Sem} {g : SemL} (ht : ∀ (hid μ : List Addr) (st : Sto) (H : Hp) (w : W) (v : V), StOk X.K X.mg μ st hid H → Rep X.K X.mg (Fz μ st hid H) μ w v → ty st w = true → B v H) (hs : OpMS X op r) :
    ∀ σ H Q, tE X.K X.mg Wx (eM ty op f g) σ H Q → tE X.K X.mg Wx f σ H fun x H1 => B x H1 ∧ tA X.K X.mg Wx g σ H1 fun vs H2 => r x vs H2 Q := fun σ H Q ⟨μ, st, hid, fr, S, P⟩ => by
  refine ⟨μ, st, hid, fr, S, ?_⟩
  unfold eM at P
  cases h : f fr st with
  | bad => rw [h] at P; exact P
  | err x s => rw [h] at P; exact P
  | ok w st1 =>
    rw [h, Out.bind_ok] at P
    intro μ1 H1 v k1 g1 r1
    have P1 := EPost.from g1 P
    split at P1
    · rename_i hty
      refine ⟨ht hid μ1 st1 H1 w v k1 r1 hty, μ1, st1, hid, fr, S.next k1 g1, ?_⟩
      cases h2 : g fr st1 with
      | bad => rw [h2] at P1; exact P1
      | err x s => rw [h2] at P1; exact P1
      | ok ws st2 =>
        rw [h2, Out.bind_ok] at P1
        intro μ2 H2 vs k2 g2 r2
        exact hs Wx.w hid μ2 st2 σ H2 Q w ws v vs k2 (Rep.mono g2.le g2.pre _ _ r1) r2 (EPost.from g2 P1)
    · exact P1.elim
theorem ev_idxP {o e : Expr} {f : Sem} {g : SemL} {apos cpos : Pos} (ho : EV X Wx o f) (ha : AV X Wx [e] g)
    (hbase : attributeBase o "index" X.env (eval o X.env) = eval o X.env := by rfl) (hline : (apos.endLine == cpos.line) = true := by rfl) (hs : starEach [e] X.env = [(false, eval e X.env)] := by rfl)
    (hfew : ((backTo cpos (starEach [e] X.env)).all (fun x => !x.1) && (backToKw cpos (keywordEach [] X.env)).all (fun x => x.1.isSome) && decide (([e] : List Expr).length + ([] : List Keyword).length + (if ([] : List Keyword).isEmpty then 0 else 1) < 30)) = true := by rfl) :
    EV X Wx (.Call (.Attribute o "index" apos) [e] [] cpos) (eM isTpn mIndexP f g) := PEm (pe_idxP ho ha hbase hline hs hfew) (eM_readP (fun hid μ st H w v k r h => by
      unfold isTpn at h
      cases e : tpnW st w with
      | none => rw [e] at h; cases h
      | some us =>
        obtain ⟨a, vs, o, rfl, hd, h1, _⟩ := tpnW_at k e r
        exact ⟨a, o, vs, rfl, hd, h1⟩) os_indexP)
end
/-! ## list(text) -/
section
variable {X : Cx}
def rListS : List V → Hp → VK → Prop := fun xs H Q => ∃ z : Str, xs = [.str z] ∧ z.length ≤ sizeLine ∧ ∀ l, H l = none → Q (.ref l) (upd H l (.lst (z.cps.toList.map fun c => V.str ⟨#[c]⟩)))
theorem vals_get : ∀ {xs : List V} {us : List Value}, xs.length = us.length → (∀ (i : Nat) x u, xs[i]? = some x → us[i]? = some u → RelV x u) → Vals xs us
  | [], [], _, _ => .nil
  | [], _ :: _, h, _ => by simp at h
  | _ :: _, [], h, _ => by simp at h
  | x :: xs, u :: us, h, r => .cons (r 0 x u rfl rfl) (vals_get (by simpa using h) fun i y v h1 h2 => r (i + 1) y v (by simpa using h1) (by simpa using h2))
theorem vals_signs {x : Str} {acc : Array Value} (h : ItemsOf (SignAt x) acc x.cps.size) : Vals (x.cps.toList.map fun c => V.str ⟨#[c]⟩) acc.toList := by
  have hl : acc.toList.length = x.cps.toList.length := by simpa using h.1
  refine vals_get (by rw [List.length_map]; exact hl.symm) fun i v u h1 h2 => ?_
  obtain ⟨c, t, hc, rfl⟩ := h.2 i u (by rw [← Array.getElem?_toList]; exact h2)
  rw [List.getElem?_map, Array.getElem?_toList, hc] at h1
  cases h1
  exact ⟨t, rfl⟩
theorem call_listS (hc : X.calm = true) : CallR X (.type "list") rListS := by
  intro pins s σ H xs us Q I r h
  obtain ⟨z, rfl, hz, q⟩ := h
  obtain ⟨u, rfl, t, rfl⟩ := vals1 r
  refine call_list_str (I.ok.hd hc) z t (hn := hz) fun h' tk acc' c' kp e hacc => ?_
  have I1 : Inv X pins σ (upd H s.heap.objs.size (.lst (z.cps.toList.map fun c => V.str ⟨#[c]⟩))) { s with heap := h', toks := tk } :=
    I.laid (t' := tk) kp (Nat.le_refl _) (show ObjOk X.prog X.w _ h' _ (.lst _) from ⟨by rw [List.length_map]; exact hz, acc'.toList, c', vals_signs hacc, by simpa using e⟩)
  exact ⟨.ref s.heap.objs.size, _, I1, rfl, q _ (I.hok.fresh (Nat.le_refl _))⟩
theorem reps_signs {K : PySem.W.Frag} {mg : Str → Option Value} {F : Hp} {μ : List Addr} (cs : List Nat) : Reps K mg F μ (cs.map fun c => W.str ⟨#[c]⟩) (cs.map fun c => V.str ⟨#[c]⟩) := by
  induction cs with
  | nil => exact .nil
  | cons c cs ih => exact .cons rep_str ih
/-- list(text), that is to change; that is not -/
def oListSC : OpN := fun ws st => match ws with
  | [.str z] => if z.length ≤ LINE then .ok (.cell st.length) (st ++ [.lst (sgnW z)]) else .bad
  | _ => .bad
theorem os_listSC : OpNS X oListSC rListS := by
  intro Wx hid μ st σ H Q ws vs k r P
  unfold oListSC at P
  split at P
  · rename_i z
    obtain ⟨v, rfl, r1⟩ := reps1 (ws := []) r
    cases rep_str_inv r1
    split at P
    · rename_i hz
      refine ⟨z, rfl, le_line hz, fun l hl => ?_⟩
      obtain ⟨k2, g2⟩ := k.newCell (c := .lst (sgnW z)) (o := .lst (z.cps.toList.map fun c => V.str ⟨#[c]⟩)) hl rfl ⟨_, upd_same, reps_signs _⟩
      refine P _ _ _ k2 g2 ?_
      unfold Rep
      exact ⟨l, by rw [← k.len]; simp, rfl⟩
    · exact P.elim
  · exact P.elim
def oListS : OpN := fun ws st => match ws with
  | [.str z] => if z.length ≤ LINE then .ok (.lst (sgnW z)) st else .bad
  | _ => .bad
theorem os_listS : OpNS X oListS rListS := by
  intro Wx hid μ st σ H Q ws vs k r P
  unfold oListS at P
  split at P
  · rename_i z
    obtain ⟨v, rfl, r1⟩ := reps1 (ws := []) r
    cases rep_str_inv r1
    split at P
    · rename_i hz
      exact ⟨z, rfl, le_line hz, fun l hl => ok_new P k hl fun F le e => rep_lst e (reps_signs _)⟩
    · exact P.elim
  · exact P.elim
end
/-! ## join -/
def eJoin (f g : Sem) : Sem := fun fr st => (f fr st).bind fun w st1 => match w with
  | .str a => (g fr st1).bind fun y st2 => match (seqW st2 y).bind strsW with
    | some ys => if (ys.map (·.length)).sum + ys.length * a.length ≤ LINE then .ok (.str (Txt.join a ys)) st2 else .bad
    | none => .bad
  | _ => .bad
section
variable {X : Cx} {Wx : Wish}
theorem ev_join {o e : Expr} {f g : Sem} {apos pos : Pos} (ho : EV X Wx o f) (he : EV X Wx e g) (hs : starEach [e] X.env = [(false, eval e X.env)] := by rfl) (hbase : attributeBase o "join" X.env (eval o X.env) = eval o X.env := by rfl) (hline : (apos.endLine == pos.line) = true := by rfl) :
    EV X Wx (.Call (.Attribute o "join" apos) [e] [] pos) (eJoin f g) := PEm (pe_join ho he hs hbase hline) fun σ H Q ⟨μ, st, hid, fr, S, P⟩ => by
  refine ⟨μ, st, hid, fr, S, ?_⟩
  unfold eJoin at P
  cases h : f fr st with
  | bad => rw [h] at P; exact P
  | err x s => rw [h] at P; exact P
  | ok w st1 =>
    rw [h, Out.bind_ok] at P
    intro μ1 H1 v k1 g1 r1
    have P1 := EPost.from g1 P
    cases w with
    | str a =>
      refine ⟨⟨a, rep_str_inv r1⟩, μ1, st1, hid, fr, S.next k1 g1, ?_⟩
      simp only at P1
      cases h2 : g fr st1 with
      | bad => rw [h2] at P1; exact P1
      | err x s => rw [h2] at P1; exact P1
      | ok y st2 =>
        rw [h2, Out.bind_ok] at P1
        intro μ2 H2 u k2 g2 r2
        have P2 := EPost.from g2 P1
        split at P2
        · rename_i ys e1
          split at P2
          · rename_i hl
            cases e2 : seqW st2 y with
            | none => rw [e2] at e1; cases e1
            | some us =>
              rw [e2] at e1
              obtain ⟨p, vs, rfl, h3, h4⟩ := seqW_at k2 e2 r2
              have e3 := strsW_at (show strsW us = some ys from e1) h4
              subst e3
              exact ⟨a, p, ys, rep_str_inv r1, rfl, h3, hl, P2 μ2 H2 _ k2 .refl rep_str⟩
          · exact P2.elim
        · exact P2.elim
    | _ => exact P1.elim
end
/-! ## sorted texts -/
theorem lt_asymm : ∀ a b : List Nat, ltCps a b = true → ltCps b a = false
  | [], [], h => by cases h
  | [], _ :: _, _ => rfl
  | _ :: _, [], h => by cases h
  | a :: r, b :: t, h => by
    unfold ltCps at h ⊢
    by_cases e : a = b
    · subst e
      simp at h ⊢
      exact lt_asymm r t h
    · have q : (a == b) = false := by simpa using e
      have q2 : (b == a) = false := by simpa using Ne.symm e
      rw [q, Bool.false_and, Bool.or_false] at h
      rw [q2, Bool.false_and, Bool.or_false]
      have := of_decide_eq_true h
      exact decide_eq_false (by omega)
theorem le_trans' : ∀ a b c : List Nat, ltCps b a = false → ltCps c b = false → ltCps c a = false
  | [], _, [], _, _ => rfl
  | [], _, _ :: _, _, _ => rfl
  | _ :: _, [], _, h, _ => by cases h
  | _ :: _, _ :: _, [], _, h => by cases h
  | a :: r, b :: t, c :: u, h1, h2 => by
    unfold ltCps at h1 h2 ⊢
    rw [Bool.or_eq_false_iff, decide_eq_false_iff_not] at h1 h2 ⊢
    refine ⟨by omega, ?_⟩
    by_cases e : c = a
    · subst e
      have e2 : b = c := by omega
      subst e2
      simp at h1 h2 ⊢
      exact le_trans' r t u h1 h2
    · have q : (c == a) = false := by simpa using e
      rw [q, Bool.false_and]
theorem le_anti : ∀ a b : List Nat, ltCps a b = false → ltCps b a = false → a = b
  | [], [], _, _ => rfl
  | [], _ :: _, h, _ => by cases h
  | _ :: _, [], _, h => by cases h
  | a :: r, b :: t, h1, h2 => by
    unfold ltCps at h1 h2
    rw [Bool.or_eq_false_iff, decide_eq_false_iff_not] at h1 h2
    have e : a = b := by omega
    subst e
    simp at h1 h2
    rw [le_anti r t h1 h2]
def leS (a b : Str) : Bool := !ltCps b.cps.toList a.cps.toList
def sortS (xs : List Str) : List Str := xs.mergeSort leS
theorem str_ext {a b : Str} (h : a.cps.toList = b.cps.toList) : a = b := by
  cases a with | mk a => cases b with | mk b => exact congrArg Str.mk (Array.toList_inj.mp h)
theorem leS_trans (a b c : Str) (h1 : leS a b = true) (h2 : leS b c = true) : leS a c = true := by
  unfold leS at *
  rw [Bool.not_eq_true'] at *
  exact le_trans' _ _ _ h1 h2
theorem leS_total (a b : Str) : (leS a b || leS b a) = true := by
  unfold leS
  cases h : ltCps b.cps.toList a.cps.toList with
  | false => rfl
  | true => rw [lt_asymm _ _ h]; rfl
theorem leS_anti {a b : Str} (h1 : leS a b = true) (h2 : leS b a = true) : a = b := by
  unfold leS at *
  rw [Bool.not_eq_true'] at *
  exact str_ext (le_anti _ _ h2 h1)
theorem rising_pw : ∀ (p : Str) (l : List Str), risingS p l = true → (p :: l).Pairwise fun a b => leS a b = true
  | p, [], _ => by simp
  | p, x :: r, h => by
    unfold risingS at h
    rw [Bool.and_eq_true] at h
    have ih := rising_pw x r h.2
    refine List.pairwise_cons.mpr ⟨fun y hy => ?_, ih⟩
    rcases List.mem_cons.mp hy with e | hy
    · subst e; exact h.1
    · exact leS_trans p x y h.1 ((List.pairwise_cons.mp ih).1 y hy)
theorem sorted_pw : ∀ (l : List Str), sortedS l = true → l.Pairwise fun a b => leS a b = true
  | [], _ => .nil
  | x :: r, h => rising_pw x r h
theorem sortS_pw (xs : List Str) : (sortS xs).Pairwise fun a b => leS a b = true := List.pairwise_mergeSort leS_trans leS_total xs
theorem sortS_perm (xs : List Str) : (sortS xs).Perm xs := List.mergeSort_perm xs _
theorem sortS_of {ys xs : List Str} (p : ys.Perm xs) (h : sortedS ys = true) : ys = sortS xs :=
  one_order (p.trans (sortS_perm xs).symm) (sorted_pw ys h) (sortS_pw xs) fun a _ b _ h1 h2 => leS_anti h1 h2
noncomputable def oSortS : OpN := fun ws st => match ws with
  | [x] => match (lstW st x).bind strsW with
    | some xs => if xs.length < 64 then .ok (.lst ((sortS xs).map .str)) st else .bad
    | none => .bad
  | _ => .bad
theorem reps_strs {K : PySem.W.Frag} {mg : Str → Option Value} {F : Hp} {μ : List Addr} (xs : List Str) : Reps K mg F μ (xs.map W.str) (xs.map V.str) := by
  induction xs with
  | nil => exact .nil
  | cons c cs ih => exact .cons rep_str ih
theorem os_sortS {X : Cx} : OpNS X oSortS (rSortedS X.K) := by
  intro Wx hid μ st σ H Q ws vs k r P
  unfold oSortS at P
  split at P
  · rename_i x
    obtain ⟨v, rfl, r1⟩ := reps1 (ws := []) r
    split at P
    · rename_i xs e
      split at P
      · rename_i hl
        cases e1 : lstW st x with
        | none => rw [e1] at e; cases e
        | some us =>
          rw [e1] at e
          obtain ⟨a, zs, rfl, h1, h2⟩ := lstW_at k e1 r1
          have e3 := strsW_at (show strsW us = some xs from e) h2
          subst e3
          refine ⟨a, xs, rfl, h1, hl, fun ys p pm sr hp => ?_⟩
          rw [sortS_of pm sr]
          exact ok_new P k hp fun F l e => rep_lst e (reps_strs _)
      · exact P.elim
    · exact P.elim
  · exact P.elim
/-! ## t[i], a text -/
noncomputable def oIxS : Op2 := fun x y st => match x, y with
  | .str z, .int i => if dec (0 ≤ i ∧ i < 2 ^ 63) = true then (match z.cps[i.toNat]? with
    | some c => .ok (.str ⟨#[c]⟩) st
    | none => .bad) else .bad
  | _, _ => .bad
def rIxS : R2 := fun x y H Q => ∃ (z : Str) (i : Int) (c : Nat), x = .str z ∧ y = .int i ∧ 0 ≤ i ∧ i < 2 ^ 63 ∧ i < z.length ∧ z.cps[i.toNat]? = some c ∧ Q (.str ⟨#[c]⟩) H
theorem os_ixS {X : Cx} : Op2S X oIxS rIxS := by
  intro Wx hid μ st σ H Q w u x y k rx ry P
  unfold oIxS at P
  split at P
  · rename_i z i
    cases rep_str_inv rx
    cases rep_int_inv ry
    split at P
    · rename_i hd
      have hd := dec_of hd
      split at P
      · rename_i c hc
        have hlt : i.toNat < z.cps.size := by
          rcases Nat.lt_or_ge i.toNat z.cps.size with q | q
          · exact q
          · rw [Array.getElem?_eq_none q] at hc; cases hc
        exact ⟨z, i, c, rfl, rfl, hd.1, hd.2, by show i < (z.cps.size : Int); omega, hc, P μ H _ k .refl rep_str⟩
      · exact P.elim
    · exact P.elim
  · exact P.elim
theorem ev_ixS {X : Cx} {Wx : Wish} {a b : Expr} {f g : Sem} {pos : Pos} (ha : EV X Wx a f) (hb : EV X Wx b g) (hp : PlainIxT b) : EV X Wx (.Subscript a b pos) (e2 oIxS f g) :=
  PEm (pe_item_str ha hb hp) (e2_read os_ixS)
end SL

/-! # own methods; defs with defaults -/
namespace SL
open PySem PySem.Spec PyProof.Rows L2
structure MethIs (P : Program) (w : World) (K : PySem.W.Frag) (mg : Str → Option Value) (base : Heap) (c m : Str) (k n : Nat) (F : Fn) : Prop where
  ex : ∃ (C g : Addr) (fd : FuncData) (ps : List Str), mg c = some (.ref C) ∧ Cls K C ∧ Meth K C m g ∧ FnOk P w K mg base (L2.CX P w) k g fd ps (spF K mg (n + 1) F) ∧ Binds K fd ps []
def eMeth (c m : Str) (F : Fn) (f : Sem) (g : SemL) : Sem := fun fr st => (f fr st).bind fun w st1 => match insW st1 w with
  | some (d, ns, _) => if d = c ∧ m ∉ ns then (g fr st1).bind fun ws st2 => F (w :: ws) st2 else .bad
  | none => .bad
def tMethS (C : Addr) (m : Str) (sp : Sp) (E : L2.St → XK) (ta : TE) (t : TA) : TE := fun σ H Q => ta σ H fun x H1 => ∃ a dx fs, x = .ref a ∧ H1 a = some (.ins C dx fs) ∧ fs.lookup m = none ∧
  t σ H1 fun vs H2 => sp (x :: vs) H2 Q (E σ)
theorem lookup_zip_none {m : Str} : ∀ {ns : List Str} {vs : List V}, m ∉ ns → (ns.zip vs).lookup m = none
  | [], _, _ => rfl
  | _ :: _, [], _ => rfl
  | n :: ns, v :: vs, h => by
    rw [List.mem_cons, not_or] at h
    rw [List.zip_cons_cons, List.lookup_cons]
    have e : (m == n) = false := by simpa using h.1
    rw [e]
    exact lookup_zip_none h.2
section
variable {X : Cx} {Wx : Wish}
theorem pe_methS {k : Nat} {C g : Addr} {fd : FuncData} {ps : List Str} {m : Str} {sp : Sp} {E : L2.St → XK} {o e : Expr} {es : List Expr} {ta : TE} {t : TA} {apos pos : Pos} {pl : PySem.Sem Bool} (he : PE X o ta) (c : Cls X.K C) (hm : Meth X.K C m g) (F : FnOk X.prog X.w X.K X.mg X.base (L2.CX X.prog X.w) k g fd ps sp) (hr : Room k X.A) (hb : Binds X.K fd ps []) (hx : ∀ σ, PassesAt (L2.CX X.prog X.w) X σ (E σ)) (ha : PA X (e :: es) t)
    (hst : starEach (e :: es) X.env = (false, eval e X.env) :: starEach es X.env) (hpl : (backTo pos (starEach es X.env)).any (·.1) = false)
    (ht : eval (.Call (.Attribute o m apos) (e :: es) [] pos) X.env = (do
      let ov ← eval o X.env
      standAt apos.atName
      let (f, first) ← holding [ov] (getMethod ov m pl)
      callWith pos f first (backTo pos (starEach (e :: es) X.env)) (backToKw pos (keywordEach [] X.env)))) :
    PE X (.Call (.Attribute o m apos) (e :: es) [] pos) (tMethS C m sp E ta t) := by
  refine ⟨fun pins s σ H Q I h => ?_⟩
  refine PySem.W.methodCall_KW (pl := pl) (thn (he.run pins s σ H _ I h) fun u s1 ⟨x, H1, I1, rx, a, dx, fs, ex, ea, l, q⟩ => ?_) ht
  subst ex
  obtain rfl : u = Value.ref a := rx
  refine getmeth_ok I1 ea c hm l ?_
  refine PySem.W.callWith_K (first := [.ref a]) (h₀ := X.base) I.ok.mod.kin hm.kp (thn (ha.run pos pins s1 σ H1 _ I1 q) fun us s2 ⟨vs, H2, I2, r, q2⟩ => ⟨I2.kIn, ?_⟩) hst hpl
  exact run_fnS (us := .ref a :: us) (vs := .ref a :: vs) F hr hb (hx σ) I2 (.cons rfl r) q2
theorem eMeth_read {n : Nat} {c m : Str} {C : Addr} {F : Fn} {f : Sem} {g : SemL} (hm : X.mg c = some (.ref C)) (ar : ArN n g) : ∀ σ H Q, tE X.K X.mg Wx (eMeth c m F f g) σ H Q → tMethS C m (spF X.K X.mg (n + 1) F) (WE Wx.w) (tE X.K X.mg Wx f) (tA X.K X.mg Wx g) σ H Q := fun σ H Q ⟨μ, st, hid, fr, S, P⟩ => by
  refine ⟨μ, st, hid, fr, S, ?_⟩
  unfold eMeth at P
  cases h : f fr st with
  | bad => rw [h] at P; exact P
  | err x s => rw [h] at P; exact P
  | ok w st1 =>
    rw [h, Out.bind_ok] at P
    intro μ1 H1 v k1 g1 r1
    have P1 := EPost.from g1 P
    split at P1
    · rename_i d ns us e1
      split at P1
      · rename_i hd
        obtain ⟨rfl, hn⟩ := hd
        obtain ⟨a, D, dx, vs, rfl, g2, g3, g4, g5⟩ := insW_at k1 e1 r1
        rw [hm] at g2; cases g2
        refine ⟨a, dx, _, rfl, g4, lookup_zip_none hn, μ1, st1, hid, fr, S.next k1 g1, ?_⟩
        cases h2 : g fr st1 with
        | bad => rw [h2] at P1; exact P1
        | err x s => rw [h2] at P1; exact P1
        | ok ws st2 =>
          rw [h2, Out.bind_ok] at P1
          intro μ2 H2 zs k2 g6 r2
          have P2 := EPost.from g6 P1
          refine ⟨hid, μ2, st2, w :: ws, by rw [List.length_cons, ← r2.length, ar _ _ _ _ h2], k2, .cons (Rep.mono g6.le g6.pre _ _ r1) r2, ?_⟩
          cases e : F (w :: ws) st2 with
          | bad => rw [e] at P2; exact P2
          | err y st3 => rw [e] at P2; exact P2
          | ok u st3 => rw [e] at P2; exact P2
      · exact P1.elim
    · exact P1.elim
theorem ev_meth {k j n : Nat} {c m : Str} {F : Fn} {o e : Expr} {es : List Expr} {f : Sem} {g : SemL} {apos pos : Pos} {pl : PySem.Sem Bool} (I : MethIs X.prog X.w X.K X.mg X.base c m k n F) (C : Ctx X Wx j) (hk : k ≤ j) (ho : EV X Wx o f) (ha : AV X Wx (e :: es) g) (ar : ArN n g)
    (hst : starEach (e :: es) X.env = (false, eval e X.env) :: starEach es X.env := by rfl) (hpl : (backTo pos (starEach es X.env)).any (·.1) = false := by rfl)
    (ht : eval (.Call (.Attribute o m apos) (e :: es) [] pos) X.env = (do
      let ov ← eval o X.env
      standAt apos.atName
      let (f, first) ← holding [ov] (getMethod ov m pl)
      callWith pos f first (backTo pos (starEach (e :: es) X.env)) (backToKw pos (keywordEach [] X.env))) := by rfl) :
    EV X Wx (.Call (.Attribute o m apos) (e :: es) [] pos) (eMeth c m F f g) := by
  obtain ⟨A, ad, fd, ps, hm, hc, M, G, B⟩ := I.ex
  exact PEm (pe_methS ho hc M G (C.room.mono hk) B (fun σ => passAt C.tk σ) ha hst hpl ht) (eMeth_read hm ar)
/-- a method's own context -/
theorem meth_is {lv : Nat → W → Sto → Out W} {P : Program} {w : World} {K : PySem.W.Frag} {mg : Str → Option Value} {base : Heap} {c m qual : Str} {st : Stmt} {A f : Addr} {fd : FuncData} {N ps : List Str} {k q n : Nat} {b : SSem} (hlv : LvOk K mg lv) (F : Fun K m qual st f fd) (hx : mg c = some (.ref A)) (hc : Cls K A) (h1 : PySem.W.findIn K (.ref A) m = some (some (.ref f))) (h2 : PySem.W.isFn K (.ref f) = true) (hB : Binds K fd ps []) (S : FnScope N ps (defScope st))
    (hb : ∀ (cdv : Value) (A : Around) (outer : List Env) (s : Shared) (H : Hp) (E : XK), Ctx (cxOf (L2.CX P w) P w K mg base N qual (defScope st) f cdv A outer s H E) (Wish.of fun c d _ H => E c d H) k → BV (cxOf (L2.CX P w) P w K mg base N qual (defScope st) f cdv A outer s H E) (Wish.of fun c d _ H => E c d H) (defBody st) b)
    (hm : N.length = q := by rfl) (hn : ps.length = n + 1 := by rfl) : MethIs P w K mg base c m (k + 1) n (mkFnG lv q b) :=
  ⟨A, f, fd, ps, hx, hc, ⟨h1, h2, F.kp⟩, fn_okG hlv F S hm hn hb, hB⟩
end
/-! ## a def with one default: called with all but the last -/
structure FnDs (P : Program) (w : World) (K : PySem.W.Frag) (mg : Str → Option Value) (base : Heap) (x : Str) (k n : Nat) (dw : W) (F : Fn) : Prop where
  ex : ∃ (g : Addr) (fd : FuncData) (ps : List Str) (dv : V) (ds : List Value), FnOk P w K mg base (L2.CX P w) k g fd ps (spF K mg (n + 1) F) ∧ mg x = some (.ref g) ∧ PySem.W.keepIn K (.ref g) = true ∧ Binds K fd ps ds ∧ Vals [dv] ds ∧ ∀ F μ, Rep K mg F μ dw dv
def eCallD (F : Fn) (dw : W) (f : SemL) : Sem := eN (fun ws st => F (ws ++ [dw]) st) f
section
variable {X : Cx} {Wx : Wish}
theorem ev_callD {k j n : Nat} {x : Str} {dw : W} {F : Fn} {e : Expr} {es : List Expr} {f : SemL} {p pos : Pos} (I : FnDs X.prog X.w X.K X.mg X.base x k n dw F) (C : Ctx X Wx j) (hk : k ≤ j) (ha : AV X Wx (e :: es) f) (ar : ArN n f) (hg : Gl X x := by rfl) (hdb : (x == ("__debug__" : Str)) = false := by decide)
    (he : starEach (e :: es) X.env = (false, eval e X.env) :: starEach es X.env := by rfl) (hpl : (backTo pos (starEach es X.env)).any (·.1) = false := by rfl) : EV X Wx (.Call (.Name x p) (e :: es) [] pos) (eCallD F dw f) := by
  obtain ⟨g, fd, ps, dv, ds, h1, h2, h3, h4, h5, h6⟩ := I.ex
  refine PEm (pe_callSD h1 (C.room.mono hk) hg h2 h3 h4 h5 (fun σ => passAt C.tk σ) ha hdb he hpl) fun σ H Q ⟨μ, st, hid, fr, S, P⟩ => ?_
  refine ⟨μ, st, hid, fr, S, ?_⟩
  unfold eCallD eN at P
  cases h : f fr st with
  | bad => rw [h] at P; exact P
  | err x s => rw [h] at P; exact P
  | ok ws st1 =>
    rw [h, Out.bind_ok] at P
    intro μ1 H1 vs k1 g1 r1
    have P1 := EPost.from g1 P
    refine ⟨hid, μ1, st1, ws ++ [dw], by rw [List.length_append, ← r1.length, ar _ _ _ _ h]; rfl, k1, r1.append (.cons (h6 _ _) .nil), ?_⟩
    replace P1 : EPost X.K X.mg Wx.w hid μ1 st1 σ H1 Q (F (ws ++ [dw]) st1) := P1
    cases e : F (ws ++ [dw]) st1 with
    | bad => rw [e] at P1; exact P1
    | err y st3 => rw [e] at P1; exact P1
    | ok u st3 => rw [e] at P1; exact P1
end
end SL
namespace SL
open PySem PySem.Spec PyProof.Rows L2
theorem rm65 {k : Nat} {A : Around} (r : Room k A) : A.units + 65 < cLine := by have := r.un; omega
section
variable {X : Cx} {Wx : Wish}
/-- a method of a built-in type, without arguments -/
def eM0 (ty : Sto → W → Bool) (op : OpM) (f : Sem) : Sem := fun fr st => (f fr st).bind fun w st1 => if ty st1 w = true then op w [] st1 else .bad
theorem ev_m0 {T id : String} {name : Str} {ty : Sto → W → Bool} {op : OpM} {r : V → List V → Hp → VK → Prop} {o : Expr} {f : Sem} {apos cpos : Pos} (pa : PlainAttrs T) (slot : Slot T name id) (hty : typeOf (.builtin id) = pure (.type "method_descriptor"))
    (ht : ∀ (hid μ : List Addr) (st : Sto) (H : Hp) (w : W) (v : V), StOk X.K X.mg μ st hid H → Rep X.K X.mg (Fz μ st hid H) μ w v → ty st w = true → tyV X.K T v H) (hm : MtR X id r) (hs : OpMS X op r) (ho : EV X Wx o f)
    (hbase : attributeBase o name X.env (eval o X.env) = eval o X.env := by rfl) (hline : (apos.endLine == cpos.line) = true := by rfl) :
    EV X Wx (.Call (.Attribute o name apos) [] [] cpos) (eM0 ty op f) := PEm (pe_bm0 pa slot hty hm ho (hbase := hbase) (hline := hline)) fun σ H Q ⟨μ, st, hid, fr, S, P⟩ => by
  refine ⟨μ, st, hid, fr, S, ?_⟩
  unfold eM0 at P
  cases h : f fr st with
  | bad => rw [h] at P; exact P
  | err x s => rw [h] at P; exact P
  | ok w st1 =>
    rw [h, Out.bind_ok] at P
    intro μ1 H1 v k1 g1 r1
    have P1 := EPost.from g1 P
    split at P1
    · rename_i hty
      exact ⟨ht hid μ1 st1 H1 w v k1 r1 hty, hs Wx.w hid μ1 st1 σ H1 Q w [] v [] k1 r1 .nil P1⟩
    · exact P1.elim
end
theorem fn_okGD {lv : Nat → W → Sto → Out W} {P : Program} {w : World} {K : PySem.W.Frag} {mg : Str → Option Value} {base : Heap} {x qual : Str} {st : Stmt} {f : Addr} {fd : FuncData} {N ps : List Str} {k m n : Nat} {b : SSem} {dvs : List V} {kws : List (Str × V)} (hlv : LvOk K mg lv) (F : FunD K x qual (defArgs st) (defBody st) (defScope st) dvs kws f fd) (S : FnScope N ps (defScope st)) (hm : N.length = m := by rfl) (hn : ps.length = n := by rfl)
    (hb : ∀ (cdv : Value) (A : Around) (outer : List Env) (s : Shared) (H : Hp) (E : XK), Ctx (cxOf (L2.CX P w) P w K mg base N qual (defScope st) f cdv A outer s H E) (Wish.of fun c d _ H => E c d H) k → BV (cxOf (L2.CX P w) P w K mg base N qual (defScope st) f cdv A outer s H E) (Wish.of fun c d _ H => E c d H) (defBody st) b) :
    FnOk P w K mg base (L2.CX P w) (k + 1) f fd ps (spF K mg n (mkFnG lv m b)) := by
  refine F.ok S (fun vs H Q E h => ?_) (fun cdv A outer s H vs Q E hr h => ?_)
  · obtain ⟨_, _, _, _, h, _⟩ := h
    rw [h, hn]
  · refine ⟨_, hb cdv A outer s H E ⟨rfl, S.nd, hr, takes_of rfl rfl rfl rfl, passes_of (K := fun e s'' => L2.CX P w outer H s E e s'') rfl⟩, ?_⟩
    obtain ⟨hid, μ, st0, ws, hl, k0, r, P0⟩ := h
    have wl : ws.length = vs.length := r.length
    refine ⟨μ, st0, hid, ws.map some ++ List.replicate (m - ws.length) none, ⟨k0, ?_, fun i u hi => ?_, trivial⟩, ?_⟩
    · unfold L2.start
      simp only [List.length_append, List.length_map, List.length_replicate, wl, hm]
    · by_cases hlt : i < ws.length
      · rw [List.getElem?_append_left (by simpa using hlt), List.getElem?_map] at hi
        cases e : ws[i]? with
        | none => rw [e] at hi; cases hi
        | some u' =>
          rw [e] at hi
          cases hi
          obtain ⟨v, e1, e2⟩ := r.get e
          exact ⟨v, start_get e1, e2⟩
      · rw [List.getElem?_append_right (by simpa using hlt), List.getElem?_replicate] at hi
        split at hi <;> cases hi
    · unfold mkFnG at P0
      cases e : b (ws.map some ++ List.replicate (m - ws.length) none) st0 with
      | bad => rw [e] at P0; exact P0
      | bk f s => rw [e] at P0; exact P0.elim
      | ct f s => rw [e] at P0; exact P0.elim
      | nx f s =>
        rw [e] at P0
        exact fun μ' σ' H' S' g => leave_at k0.len g S'.sto rep_non P0
      | rt u s =>
        rw [e] at P0
        exact fun μ' H' v k' g r' => hlv _ _ _ _ _ _ _ _ _ _ _ _ _ k0.len g k' r' P0
      | er x f s =>
        rw [e] at P0
        exact fun μ' σ' H' c d S' g xr => leaveX_at k0.len g S'.sto xr P0
end SL

/-! # sorted(x, reverse=True); an own exception without fields -/
namespace SLr
open PySem PyProof.Rows Srt SrtO
section
variable {prog : Program} {w : World} {A : Around} {E : Value → Shared → Prop} {s : Shared}
def sv : Value → Str
  | .str x _ => x
  | _ => ""
def ltSv (v u : Value) : Bool := decide ((sv v).cps.toList < (sv u).cps.toList)
theorem swo_str : Swo ltSv := by
  refine ⟨fun x y h => ?_, fun x y z h1 h2 => ?_⟩
  · have a := of_decide_eq_true (p := (sv x).cps.toList < (sv y).cps.toList) h
    exact decide_eq_false (p := (sv y).cps.toList < (sv x).cps.toList) (List.lt_asymm a)
  · have a := of_decide_eq_false (p := (sv y).cps.toList < (sv x).cps.toList) h1
    have b := of_decide_eq_false (p := (sv z).cps.toList < (sv y).cps.toList) h2
    exact decide_eq_false (p := (sv z).cps.toList < (sv x).cps.toList) fun c => by
      have h3 : (sv x).cps.toList ≤ (sv y).cps.toList := a
      have h4 : (sv y).cps.toList ≤ (sv z).cps.toList := b
      exact List.le_trans h3 h4 c
theorem str_cmp {vs : List Value} {ss : List Str} (hS : StrsAre vs ss) : Cmp prog w A s oneType' (fun p => p.1 ∈ vs) (lt2 ltSv) := by
  intro p q hm hm'
  obtain ⟨a, t, e⟩ := hS.all _ hm
  obtain ⟨b, u, e'⟩ := hS.all _ hm'
  show wpAny (model prog w) A (keyLt' oneType' p.1 q.1) (fun r s' => s' = s ∧ r = ltSv p.1 q.1) (fun _ _ => False) s
  rw [e, e', keyLt'_oneType]
  exact oneLt_str ⟨rfl, rfl⟩
theorem strs_sortable {a : Addr} {vs : List Value} {ss : List Str} (hS : StrsAre vs ss) (h2 : 2 ≤ vs.length) : SortableO prog w A s a vs ltSv := by
  intro h' _
  refine ⟨oneType', fun Q E hq => ?_, str_cmp hS⟩
  match vs, hS, h2 with
  | v1 :: v2 :: rest, hS, _ =>
    rw [keyKind_strs hS]
    exact wpAny_pure hq
  | [], _, h => exact absurd h (by decide)
  | [v], _, h => exact absurd h (by simp)
end
end SLr
namespace SL
open PySem PySem.Spec PyProof.Rows L2
def downS (a b : Str) : Bool := leS b a
def sortSR (xs : List Str) : List Str := xs.mergeSort downS
def sortIR (xs : List Int) : List Int := xs.mergeSort fun a b => decide (b ≤ a)
theorem sortIR_of {ms ns : List Int} (p : ms.Perm ns) (h : ms.Pairwise (· ≥ ·)) : ms = sortIR ns := by
  refine one_order (p.trans (List.mergeSort_perm ns _).symm) h ?_ fun a _ b _ h1 h2 => Int.le_antisymm h2 h1
  have z := List.pairwise_mergeSort (le := fun a b : Int => decide (b ≤ a)) (fun a b c h1 h2 => by simp at h1 h2 ⊢; omega) (fun a b => by simp; omega) ns
  exact z.imp fun {a b} h => of_decide_eq_true h
theorem lt_is {a b : List Nat} (h : ¬ a < b) : ltCps a b = false := by
  induction a generalizing b with
  | nil =>
    cases b with
    | nil => rfl
    | cons y b => exact absurd (List.nil_lt_cons y b) h
  | cons x a ih =>
    cases b with
    | nil => rfl
    | cons y b =>
      unfold ltCps
      have h1 : ¬ x < y := fun z => h (List.Lex.rel z)
      rw [decide_eq_false h1, Bool.false_or]
      by_cases e : x = y
      · subst e
        have h2 : ¬ a < b := fun z => h (List.Lex.cons z)
        rw [ih h2, Bool.and_false]
      · have q : (x == y) = false := by simpa using e
        rw [q, Bool.false_and]
def rSortSR (K : PySem.W.Frag) : List V → List V → Hp → VK → Prop := fun vs zs H Q => ∃ (a : Addr) (xs : List Str), vs = [V.ref a] ∧ zs = [.bl true] ∧ SqL K H a (xs.map V.str) ∧ ∀ p, H p = none → Q (.ref p) (upd H p (.lst ((sortSR xs).map V.str)))
theorem cr_sortSR {X : Cx} : CallRK X (.builtin "sorted") [Str.ofString "reverse"] (rSortSR X.K) := by
  intro pins s σ H vs zs us ws Q I r rz h
  obtain ⟨a, xs, rfl, rfl, hs, q⟩ := h
  obtain rfl := Vals.ref1 r
  obtain ⟨w1, rfl, e1⟩ := vals1 rz
  obtain rfl : w1 = Value.bool true := e1
  obtain ⟨its, rv, hl, hz⟩ := I.list hs
  have hS := rv.strs
  refine SrtR.sorted_ordK (b := true) (fun _ => rfl) (PyProof.Rows.args_sorted_rev _ _) (fun _ => PyProof.Rows.args_list_sort_rev _ _) SLr.swo_str hl.isList (by rw [← rv.length]; exact hz) (fun h2 h₁ a' _ _ => SLr.strs_sortable hS h2) fun out h1 h2 => ?_
  obtain ⟨ep, he'⟩ := PyProof.Rows.sortedAll_at s.heap its out.toArray.reverse
  have hall : ∀ v ∈ out, ∃ x t, v = Value.str x t := fun v hv => hS.all v (List.mem_reverse.mp (h2.perm.mem_iff.mp hv))
  have out1 : StrsAre out (out.map strOf) := strsAre_map out hall
  have pm : ((out.map strOf).reverse).Perm xs := by
    refine (List.reverse_perm _).trans ?_
    have z := h2.perm.map strOf
    rw [if_pos rfl] at z
    refine z.trans ((List.reverse_perm its).map strOf |>.trans ?_)
    rw [hS.strs]
  have so : ∀ v ∈ out, SLr.sv v = strOf v := fun v hv => by
    obtain ⟨x, t, e⟩ := hall v hv
    subst e; rfl
  have pw : ((out.map strOf).reverse).Pairwise fun a b => downS a b = true := by
    rw [List.pairwise_reverse, List.pairwise_map]
    refine List.Pairwise.imp_of_mem (fun {x y} hx hy h => ?_) h1
    show (!ltCps (strOf y).cps.toList (strOf x).cps.toList) = true
    have h := of_decide_eq_false (p := (SLr.sv y).cps.toList < (SLr.sv x).cps.toList) h
    rw [so x hx, so y hy] at h
    rw [lt_is h]; rfl
  have e0 : (out.map strOf).reverse = sortSR xs := by
    refine one_order (pm.trans (List.mergeSort_perm xs _).symm) pw ?_ fun a _ b _ h1 h2 => leS_anti h2 h1
    exact List.pairwise_mergeSort (le := downS) (fun a b c h1 h2 => leS_trans c b a h2 h1) (fun a b => by unfold downS; rw [Bool.or_comm]; exact leS_total a b) xs
  have hlen : ((sortSR xs).map V.str).length ≤ sizeLine := by
    rw [List.length_map, ← e0, pm.length_eq]
    rw [List.length_map] at hz
    exact hz
  have k1 : StrsAre (out.toArray.reverse).toList (sortSR xs) := by
    rw [← e0, Array.toList_reverse]
    have : out.reverse.map strOf = (out.map strOf).reverse := by rw [List.map_reverse]
    rw [← this]
    exact strsAre_map out.reverse fun v hv => hall v (List.mem_reverse.mp hv)
  have e1 : (out.toArray.reverse).toList.toArray = out.toArray.reverse := by rw [Array.toArray_toList]
  exact ⟨.ref _, upd H (s.heap.objs.size + 1) (.lst ((sortSR xs).map V.str)), I.laid (t' := s.toks) (fun _ _ => PyProof.Rows.sortedAll_old) (Nat.le_succ _) ⟨hlen, _, ep, vals_of_strs k1, by rw [e1]; exact he'⟩, rfl, q _ (I.hok.fresh (Nat.le_succ _))⟩
def oSortR : OpN := fun ws st => match ws with
  | [x] => match lstW st x with
    | some us => match strsW us with
      | some xs => .ok (.lst ((sortSR xs).map .str)) st
      | none => match intsW us with
        | some ns => .ok (.lst ((sortIR ns).map .int)) st
        | none => .bad
    | none => .bad
  | _ => .bad
section
variable {X : Cx} {Wx : Wish}
theorem cr_sortR : CallRK X (.builtin "sorted") [Str.ofString "reverse"] (fun vs zs H Q => rSortSR X.K vs zs H Q ∨ rSortedKw X.K true [.bl true] vs zs H Q) := by
  intro pins s σ H vs zs us ws Q I r rz h
  rcases h with h | h
  · exact cr_sortSR pins s σ H vs zs us ws Q I r rz h
  · exact cr_sortedRev pins s σ H vs zs us ws Q I r rz h
theorem ev_sortR {p pos kp p2 : Pos} {j : Nat} {e : Expr} {f : SemL} (hm : X.mg "sorted" = none) (ha : AV X Wx [e] f) (hg : Gl X "sorted" := by rfl)
    (he : backTo pos (starEach [e] X.env) = (false, eval e X.env) :: backTo pos (starEach [] X.env) := by rfl) (hpl : (backTo pos (starEach [e] X.env)).any (·.1) = false := by rfl) :
    EV X Wx (.Call (.Name "sorted" p) [e] [⟨some "reverse", .Constant (.bool true) j p2, kp⟩] pos) (eN oSortR f) := by
  refine PEm (pe_callBK cr_sortR hg hm (by decide +kernel) ha (pk_cons pe_bl pk_nil) (he := he) (hpl := hpl)) fun σ H Q ⟨μ, st, hid, fr, S, P⟩ => ?_
  refine ⟨μ, st, hid, fr, S, ?_⟩
  unfold eN at P
  cases h : f fr st with
  | bad => rw [h] at P; exact P
  | err x s => rw [h] at P; exact P
  | ok ws st1 =>
    rw [h, Out.bind_ok] at P
    intro μ1 H1 vs k1 g1 r1
    have P1 := EPost.from g1 P
    show (rSortSR X.K vs [.bl true] H1 Q ∨ rSortedKw X.K true [.bl true] vs [.bl true] H1 Q)
    unfold oSortR at P1
    split at P1
    · rename_i x
      obtain ⟨v, rfl, r2⟩ := reps1 (ws := []) r1
      split at P1
      · rename_i us e1
        obtain ⟨a, zs, rfl, h1, h2⟩ := lstW_at k1 e1 r2
        split at P1
        · rename_i xs e2
          have e3 := strsW_at e2 h2
          subst e3
          exact .inl ⟨a, xs, rfl, rfl, h1, fun p hp => ok_new P1 k1 hp fun F l e => rep_lst e (reps_strs _)⟩
        · split at P1
          · rename_i ns e2
            rw [intsW_eq e2] at h2
            rw [reps_ints h2] at h1
            refine .inr ⟨a, ns, rfl, rfl, h1, fun ms p pm sr hp => ?_⟩
            rw [sortIR_of pm sr]
            exact ok_new P1 k1 hp fun F l e => rep_lst e (ro_reps _)
          · exact P1.elim
      · exact P1.elim
    · exact P1.elim
end
/-! ## raise X(), X without own __init__ -/
structure Exc0 (K : PySem.W.Frag) (mg : Str → Option Value) (c : Str) : Prop where
  ex : ∃ C, mg c = some (.ref C) ∧ PySem.W.excIn K C [.type "ValueError", .type "Exception", .type "BaseException", .type "object"] "ValueError.__new__" = true ∧ PySem.W.keepIn K (.ref C) = true ∧ PySem.W.subIn K (.ref C) (.type "BaseException") = some true ∧ PySem.W.typeIn K (.ref C) = some (.type "type")
def sRaise0 (c : Str) : SSem := fun fr st => .er ⟨c, [], []⟩ fr st
section
variable {X : Cx} {Wx : Wish}
theorem pmk0 {C : Addr} {bmB : List Value} {B newId initId : String} {x : Str} {p pos : Pos} (F : ExcBaseFacts B newId initId bmB) (q : PySem.W.excIn X.K C bmB newId = true) (gC : X.mg x = some (.ref C))
    (kC : PySem.W.keepIn X.K (.ref C) = true) (r : Raises X (.ref C)) (hg : Gl X x) (hdb : (x == ("__debug__" : Str)) = false) :
    PMk X (.Call (.Name x p) [] [] pos) (fun σ H Q => Q (.ref C) none H) := by
  intro pins s σ H Q I h
  refine wpAny_Call_Name_kw (ld_glob I hg gC ?_ hdb)
  refine PySem.W.callWith_K0 I.kIn kC ?_
  obtain ⟨bm, N, nm, qn, bs, hdct, sn, sub, ab, col, dd, k0, k1, k2, k3, k5, mN, hC, hN, hni, T⟩ := exc_obj I.kIn q
  refine wpAny_call_exc_subT F T hC hN hni (fun h' e hm => ?_) (by decide)
  exact mk_of I hm r h (I.hok.gone hm.new)
theorem sv_raise0 {k : Nat} {c : Str} {p p2 pos : Pos} (C : Ctx X Wx k) (E : Exc0 X.K X.mg c) (hg : Gl X c := by rfl) (hdb : (c == ("__debug__" : Str)) = false := by decide) : SV X Wx (.Raise (some (.Call (.Name c p) [] [] p2)) none pos) (sRaise0 c) := by
  obtain ⟨A, h1, h2, h3, h4, h5⟩ := E.ex
  refine PSm (ps_raise C.calm C.tk (pmk0 F.excBase_ValueError h2 h1 h3 (raises_own h4 h5) hg hdb)) fun D σ H ⟨μ, st, hid, fr, S, P⟩ => ?_
  unfold sRaise0 at P
  exact P μ σ H (.ref A) none S .refl ⟨A, h1, rfl, .inl rfl⟩
end
end SL

/-! # pairs of two sequences; name += e -/
namespace SL
open PySem PySem.Spec PyProof.Rows L2
def zipP (us ws : List W) : List W := List.zipWith (fun u w => W.tup [u, w]) us ws
def tupF : W → Option (List W)
  | .tup us | .tpn us => some us
  | _ => none
def iZip (f : SemL) : SemI := fun fr st => (f fr st).bind fun vs st1 => match vs with
  | [x, y] => (match tupF x, tupF y with
    | some us, some ws => if us.length ≤ LINE then .ok (.non, zipP us ws) st1 else .bad
    | _, _ => .bad)
  | _ => .bad
theorem tup_now {K : PySem.W.Frag} {mg : Str → Option Value} {F : Hp} {μ0 : List Addr} {x : W} {ws : List W} {v : V} (h : tupF x = some ws) (r : Rep K mg F μ0 x v) :
    ∃ a vs, v = .ref a ∧ vs.length = ws.length ∧ ∀ hid μ st H, StOk K mg μ st hid H → Le F (Fz μ st hid H) → Pre μ0 μ → SqT K H a vs ∧ Reps K mg (Fz μ st hid H) μ ws vs := by
  cases x with
  | tup us =>
    cases h
    obtain ⟨a, vs, rfl, h1, h2⟩ := rep_tup_inv r
    exact ⟨a, vs, rfl, h2.length.symm, fun hid μ st H k l p => ⟨(h1.le l).fz, h2.mono l p⟩⟩
  | tpn us =>
    cases h
    obtain ⟨a, vs, rfl, h1, h2⟩ := rep_tpn_inv r
    exact ⟨a, vs, rfl, h2.length.symm, fun hid μ st H k l p => ⟨(h1.le l).fz, h2.mono l p⟩⟩
  | _ => cases h
theorem zipP_get {us ws : List W} {i : Nat} {u w : W} (h : us[i]? = some u) (h2 : ws[i]? = some w) : (zipP us ws)[i]? = some (.tup [u, w]) := by
  unfold zipP
  rw [List.getElem?_zipWith, h, h2]
theorem zipP_len {us ws : List W} : (zipP us ws).length = min us.length ws.length := by unfold zipP; simp
/-- name += e, of ints -/
def sAug (n : Nat) (f : Sem) : SSem := fun fr st => match fr[n]? with
  | some (some (.int a)) => (f fr st).stm fr fun w st1 => match w with
    | .int b => .nx (fr.set n (some (.int (a + b)))) st1
    | _ => .bad
  | _ => .bad
theorem sv_aug {X : Cx} {Wx : Wish} {i : Nat} {x : Str} {e : Expr} {f : Sem} {pos pos' : Pos} (hN : X.N.Nodup) (he : EV X Wx e f) (hi : X.N[i]? = some x := by rfl) (hx : Loc X.env.scope x := by first | exact Or.inl rfl | exact Or.inr rfl)
    (hf : X.fn x = true ∨ X.env.scope.names.lookup x = some .local := by first | exact .inl rfl | exact .inr rfl) (hk : i ∉ Wx.lock := by first | exact List.not_mem_nil | decide) : SV X Wx (.AugAssign (.Name x pos') .Add e pos) (sAug i f) :=
  PSm (ps_aug hN hi hx he ip_add hf) fun D σ H ⟨μ, st, hid, fr, S, P⟩ => by
    unfold sAug at P
    split at P
    · rename_i a ea
      obtain ⟨v, e1, r⟩ := S.loc i _ ea
      cases rep_int_inv r
      refine ⟨_, e1, stm_read (t := id) S P fun w st1 μ1 H1 v S1 g1 r1 P1 => ?_⟩
      split at P1
      · rename_i b
        cases rep_int_inv r1
        exact ⟨_, _, rfl, rfl, P1 μ1 _ H1 (S1.set i hk rep_int) .refl⟩
      · exact P1.elim
    · exact P.elim
end SL

/-! # list(range(..)) as a value -/
namespace SL
open PySem PySem.Spec PyProof.Rows L2
/-- the whole numbers a .. b - 1 -/
def rgI (a b : Int) : List Int := (List.range (b - a).toNat).map fun (i : Nat) => a + (i : Int)
theorem rgI_len {a b : Int} : (rgI a b).length = (b - a).toNat := by unfold rgI; rw [List.length_map, List.length_range]
theorem rgV_rgI {a b : Int} : rgV a b = (rgI a b).map V.int := by unfold rgV rgI; rw [List.map_map]; rfl
noncomputable def rgOk (a b : Int) : Bool := dec (RgOk a b)
noncomputable def eLstRg1 (f : Sem) : Sem := fun fr st => (f fr st).bind fun w st1 => match w with
  | .int b => if rgOk 0 b = true then .ok (.lst ((rgI 0 b).map W.int)) st1 else .bad
  | _ => .bad
noncomputable def eLstRg2 (f g : Sem) : Sem := fun fr st => (f fr st).bind fun w st1 => (g fr st1).bind fun u st2 => match w, u with
  | .int a, .int b => if rgOk a b = true then .ok (.lst ((rgI a b).map W.int)) st2 else .bad
  | _, _ => .bad
section
variable {X : Cx} {Wx : Wish}
theorem ev_lstRg1 {a : Expr} {f : Sem} {p pos p2 pos2 : Pos} (hc : X.calm = true) (hm : X.mg "list" = none) (hmr : X.mg "range" = none) (ha : EV X Wx a f) (hg : Gl X "list" := by rfl) (hgr : Gl X "range" := by rfl) (na : starEach [a] X.env = (false, eval a X.env) :: starEach [] X.env := by rfl)
    (ne : starEach [.Call (.Name "range" p2) [a] [] pos2] X.env = (false, eval (.Call (.Name "range" p2) [a] [] pos2) X.env) :: starEach [] X.env := by rfl) : EV X Wx (.Call (.Name "list" p) [.Call (.Name "range" p2) [a] [] pos2] [] pos) (eLstRg1 f) :=
  PEm (pe_listRg hc hg hm (prg_1 hgr hmr ha na) ne) fun σ H Q ⟨μ, st, hid, fr, S, P⟩ => by
    unfold tLstRg tRg1
    refine ⟨μ, st, hid, fr, S, ?_⟩
    unfold eLstRg1 at P
    cases h : f fr st with
    | bad => rw [h] at P; exact P
    | err x s => rw [h] at P; exact P
    | ok w st1 =>
      rw [h, Out.bind_ok] at P
      intro μ1 H1 v k1 g1 r1
      cases w with
      | int b =>
        have P1 := EPost.from g1 P
        simp only at P1
        split at P1
        · rename_i hb
          refine ⟨b, rep_int_inv r1, dec_of hb, fun q hq => ?_⟩
          refine ok_new P1 k1 hq fun F l e => rep_lst e ?_
          rw [rgV_rgI]; exact ro_reps _
        · exact P1.elim
      | _ => exact P.elim
theorem ev_lstRg2 {a b : Expr} {f g : Sem} {p pos p2 pos2 : Pos} (hc : X.calm = true) (hm : X.mg "list" = none) (hmr : X.mg "range" = none) (ha : EV X Wx a f) (hb : EV X Wx b g) (hg : Gl X "list" := by rfl) (hgr : Gl X "range" := by rfl) (na : starEach [a, b] X.env = (false, eval a X.env) :: starEach [b] X.env := by rfl)
    (nb : starEach [b] X.env = (false, eval b X.env) :: starEach [] X.env := by rfl) (hp : (backTo pos2 (starEach [b] X.env)).any (·.1) = false := by rfl)
    (ne : starEach [.Call (.Name "range" p2) [a, b] [] pos2] X.env = (false, eval (.Call (.Name "range" p2) [a, b] [] pos2) X.env) :: starEach [] X.env := by rfl) : EV X Wx (.Call (.Name "list" p) [.Call (.Name "range" p2) [a, b] [] pos2] [] pos) (eLstRg2 f g) :=
  PEm (pe_listRg hc hg hm (prg_2 hgr hmr ha hb na nb hp) ne) fun σ H Q ⟨μ, st, hid, fr, S, P⟩ => by
    unfold tLstRg tRg2
    refine ⟨μ, st, hid, fr, S, ?_⟩
    unfold eLstRg2 at P
    cases h : f fr st with
    | bad => rw [h] at P; exact P
    | err x s => rw [h] at P; exact P
    | ok w st1 =>
      rw [h, Out.bind_ok] at P
      intro μ1 H1 v k1 g1 r1
      have P1 := EPost.from g1 P
      refine ⟨μ1, st1, hid, fr, S.next k1 g1, ?_⟩
      cases h2 : g fr st1 with
      | bad => rw [h2] at P1; exact P1
      | err x s => rw [h2] at P1; exact P1
      | ok u st2 =>
        rw [h2, Out.bind_ok] at P1
        intro μ2 H2 v2 k2 g2 r2
        have P2 := EPost.from g2 P1
        cases w with
        | int a =>
          cases u with
          | int b =>
            simp only at P2
            split at P2
            · rename_i hb
              refine ⟨a, b, rep_int_inv r1, rep_int_inv r2, dec_of hb, fun q hq => ?_⟩
              refine ok_new P2 k2 hq fun F l e => rep_lst e ?_
              rw [rgV_rgI]; exact ro_reps _
            · exact P2.elim
          | _ => exact P2.elim
        | _ => exact P2.elim
end
end SL

/-! # list.remove, text * int, tuples (int, text) compared -/
namespace SL
open PySem PySem.Spec PyProof.Rows L2
section
variable {X : Cx} {Wx : Wish}
def mRemove : OpM := fun x ws st => match x, ws with
  | .cell k, [.int v] => match st[k]? with
    | some (.lst us) => match intsW us with
      | some ns => match ns.findIdx? (fun z => decide (z = v)) with
        | some j => .ok .non (st.set k (.lst ((ns.eraseIdx j).map W.int)))
        | none => .bad
      | none => .bad
    | _ => .bad
  | _, _ => .bad
theorem os_remove : OpMS X mRemove rRemI := by
  intro Wx hid μ st σ H Q w ws x vs k rx rs P
  unfold mRemove at P
  split at P
  · rename_i n v
    obtain ⟨y, rfl, r1⟩ := reps1 (ws := []) rs
    cases rep_int_inv r1
    split at P
    · rename_i us e1
      split at P
      · rename_i ns en
        split at P
        · rename_i j ej
          obtain ⟨a, rfl, h3, xs, h4, h5⟩ := k.cell e1 rx
          rw [intsW_eq en] at h5
          rw [reps_ints h5] at h4
          rw [List.findIdx?_eq_some_iff_getElem] at ej
          obtain ⟨hj, e2', e3⟩ := ej
          have e2' := of_decide_eq_true e2'
          refine ⟨a, ns, v, j, rfl, rfl, h4, by rw [List.getElem?_eq_getElem hj, e2'], fun m hm => ?_, ?_⟩
          · have := e3 m hm
            have hml : m < ns.length := by omega
            rw [List.getElem?_eq_getElem hml]
            intro z
            cases z
            simp at this
          · obtain ⟨k2, g2⟩ := k.setCell (c' := .lst ((ns.eraseIdx j).map W.int)) (o := .lst ((ns.eraseIdx j).map V.int)) h3 e1 rfl rfl ⟨_, upd_same, ro_reps _⟩
            exact P μ _ _ k2 g2 rep_non
        · exact P.elim
      · exact P.elim
    · exact P.elim
  · exact P.elim
/-! ## text * int -/
def rMulS : R2 := fun x y H Q => ∃ z n, x = .str z ∧ y = .int n ∧ MulOk z n ∧ Q (.str (Txt.mul z n)) H
theorem op_mulS : OpR X (binaryOp .Mult) rMulS := by
  intro pins s σ H x y v u Q I rx ry h
  obtain ⟨z, n, rfl, rfl, ok, q⟩ := h
  obtain ⟨t, rfl⟩ := rx
  obtain ⟨t', rfl⟩ := ry
  exact SB.mul ok fun t2 k => ⟨.str (Txt.mul z n), H, I.tok _, ⟨_, rfl⟩, q⟩
noncomputable def oMulS : Op2 := fun x y st => match x, y with
  | .str z, .int n => if dec (z.length = 1 ∧ 0 ≤ n ∧ n ≤ 1000) = true then .ok (.str (Txt.mul z n)) st else .bad
  | _, _ => .bad
theorem mulOk_one {z : Str} {n : Int} (h : z.length = 1 ∧ 0 ≤ n ∧ n ≤ 1000) : MulOk z n := by
  obtain ⟨h1, h2, h3⟩ := h
  refine ⟨?_, fun h4 _ => ?_, fun _ _ => ?_⟩
  · rw [decide_eq_false (by omega), decide_eq_false (by omega)]; rfl
  · rw [h1]
    have : (1 : Int) ≤ (2 ^ 63 - 1) / n := (Int.le_ediv_iff_mul_le (by omega)).mpr (by omega)
    show ¬ ((1 : Nat) : Int) > _
    omega
  · rw [h1]
    have hl := line63
    exact decide_eq_false (by
      have : (16777216 : Nat) ≤ sizeLine := by rw [sizeLine_eq]; omega
      omega)
theorem os_mulS : Op2S X oMulS rMulS := by
  intro Wx hid μ st σ H Q w u x y k rx ry P
  unfold oMulS at P
  split at P
  · cases rep_str_inv rx; cases rep_int_inv ry
    split at P
    · rename_i hz
      exact ⟨_, _, rfl, rfl, mulOk_one (dec_of hz), P μ H _ k .refl rep_str⟩
    · exact P.elim
  · exact P.elim
/-! ## (int, text) > (int, text) -/
def rGtIS (K : PySem.W.Frag) : R2 := fun x y H Q => ∃ a b i j z w, x = .ref a ∧ y = .ref b ∧ SqT K H a [V.int i, V.str z] ∧ SqT K H b [V.int j, V.str w] ∧ Q (.bl (if i = j then decide (w.cps.toList < z.cps.toList) else decide (j < i))) H
theorem op_gtIS (hu : X.A.units < cLine) : OpR X (compareOp .Gt) (rGtIS X.K) := by
  intro pins s σ H x y v u Q I rx ry h
  obtain ⟨a, b, i, j, z, w, rfl, rfl, ha, hb, q⟩ := h
  cases rx
  cases ry
  obtain ⟨its, r1, p1, _⟩ := I.tuple ha
  obtain ⟨its2, r2, p2, _⟩ := I.tuple hb
  cases r1 with
  | cons x1 r1 =>
  cases r1 with
  | cons x2 r1 =>
  cases r1
  cases r2 with
  | cons y1 r2 =>
  cases r2 with
  | cons y2 r2 =>
  cases r2
  obtain ⟨t1, rfl⟩ := x1
  obtain ⟨t2, rfl⟩ := x2
  obtain ⟨t3, rfl⟩ := y1
  obtain ⟨t4, rfl⟩ := y2
  have R := Ob.RcOp.tuples_gt (A := X.A) (s := s) (e := fun k => if k = 0 then decide (i = j) else (z == w)) (r := fun k => if k = 0 then decide (j < i) else decide (w.cps.toList < z.cps.toList)) p1 p2 hu (fun k h1 h2 => by
    have hk : k < 2 := h1
    match k, hk with
    | 0, _ =>
      have e : (i == j) = decide (i = j) := by
        by_cases q : i = j
        · rw [decide_eq_true q]; exact beq_iff_eq.mpr q
        · rw [decide_eq_false q]; exact beq_eq_false_iff_ne.mpr q
      show SeqAt.EqAt X.A.in1 s (.int i t1) (.int j t3) (decide (i = j))
      rw [← e]
      exact SeqAt.EqAt.int_int _ _ _ _
    | 1, _ => exact SeqAt.EqAt.str_str _ _ _ _) (fun k h1 h2 _ => by
    have hk : k < 2 := h1
    match k, hk with
    | 0, _ => exact Ob.RcOp.gt_int _ _ _ _
    | 1, _ => exact fun _ _ _ _ h => PySem.P.gt_str h)
  have e : Ob.lexAt (fun k => if k = 0 then decide (i = j) else (z == w)) (fun k => if k = 0 then decide (j < i) else decide (w.cps.toList < z.cps.toList)) (decide (([Value.int i t1, Value.str z t2].toArray).size > ([Value.int j t3, Value.str w t4].toArray).size)) 0 (min ([Value.int i t1, Value.str z t2].toArray).size ([Value.int j t3, Value.str w t4].toArray).size) = (if i = j then decide (w.cps.toList < z.cps.toList) else decide (j < i)) := by
    show (if decide (i = j) = true then (if (z == w) = true then decide (2 > 2) else decide (w.cps.toList < z.cps.toList)) else decide (j < i)) = _
    by_cases q : i = j
    · rw [if_pos (decide_eq_true q), if_pos q]
      by_cases q2 : z = w
      · subst q2
        rw [if_pos (by simp)]
        rw [decide_eq_false (by omega : ¬ (2 > 2)), decide_eq_false (List.lt_irrefl _)]
      · rw [if_neg (by simpa using q2)]
    · rw [if_neg (by rw [decide_eq_false q]; decide), if_neg q]
  rw [e] at R
  have z : wpAny (model X.prog X.w) X.A (compareOp .Gt (.ref a) (.ref b)) (EP X pins σ Q) X.xe s := R X.prog X.w X.xe (EP X pins σ Q) ⟨.bl _, H, I, rfl, q⟩
  exact z
def oGtT : Op2 := fun x y st => match x, y with
  | .tup [.int i, .str z], .tup [.int j, .str w] => .ok (.bl (if i = j then decide (w.cps.toList < z.cps.toList) else decide (j < i))) st
  | _, _ => .bad
theorem os_gtT : Op2S X oGtT (rGtIS X.K) := by
  intro Wx hid μ st σ H Q w u x y k rx ry P
  unfold oGtT at P
  split at P
  · rename_i i z j w
    obtain ⟨a, as, rfl, ta, ra⟩ := rep_tup_inv rx
    obtain ⟨b, bs, rfl, tb, rb⟩ := rep_tup_inv ry
    obtain ⟨a1, a2, rfl, r1, r2⟩ := reps2 ra
    obtain ⟨b1, b2, rfl, r3, r4⟩ := reps2 rb
    cases rep_int_inv r1; cases rep_str_inv r2; cases rep_int_inv r3; cases rep_str_inv r4
    refine ⟨a, b, i, j, z, w, rfl, rfl, ?_, ?_, P μ H _ k .refl rep_bl⟩
    · exact ta.fz
    · exact tb.fz
  · exact P.elim
end
end SL

/-! # dicts with text keys: sorted(d), dict(d), list(d), list(d.values()), items -/
namespace SLd
open PySem PySem.Spec PyProof.Rows L2
section
variable {X : Cx} {e : Expr} {te : TE} {p apos cpos pos : Pos}
def tListVals (te : TE) : TE := fun σ H Q => te σ H fun x H1 => ∃ (d : Addr) (kvs : List (Key × V)), x = .ref d ∧ Rd H1 d (.dK kvs) ∧ ∀ p, H1 p = none → Q (.ref p) (upd H1 p (.lst (kvs.map (·.2))))
theorem pe_listVals (hc : X.calm = true) (he : PE X e te) (hg : Gl X "list") (hm : X.mg "list" = none) (hv : bootBuiltins "list" = some (.type "list")) (hbase : attributeBase e "values" X.env (eval e X.env) = eval e X.env := by rfl) (hline : (apos.endLine == cpos.line) = true := by rfl)
    (hs : starEach [.Call (.Attribute e "values" apos) [] [] cpos] X.env = (false, eval (.Call (.Attribute e "values" apos) [] [] cpos) X.env) :: starEach [] X.env := by rfl) :
    PE X (.Call (.Name "list" p) [.Call (.Attribute e "values" apos) [] [] cpos] [] pos) (tListVals te) := by
  refine ⟨fun pins s σ H Q I hq => ?_⟩
  refine wpAny_Call_Name_kw (ld_blt I hg hm hv ?_)
  refine PyProof.Rows.callWith_type1 ?_ hs rfl
  rw [hs]
  show wpAny _ _ (spliced ((false, eval (.Call (.Attribute e "values" apos) [] [] cpos) X.env) :: backTo pos (starEach [] X.env))) _ _ s
  refine Calls.spliced_cons ?_
  refine wpAny_Call_method (T := "dict") (id := "dict.values") hbase rfl hline F.plainAttrs_dict F.slot_dict_values F.type_dict_values (thn (he.run pins s σ H _ I hq) fun u s1 ⟨x, H1, I1, rx, d, kvs, ex, hd, q⟩ => ?_)
  subst ex
  obtain rfl : u = Value.ref d := rx
  obtain ⟨hz, hs0, vs, kv, hdo⟩ := hd.ok I1.hok
  obtain ⟨ep, hat⟩ := hdo.dictAt
  have lk : kvs.length = vs.length := Paired.length kv
  have I2 : Inv X pins σ H1 { s1 with heap := s1.heap.push { cls := .type "dict_values", data := .fields #[.ref d] } } := I1.kept (t' := s1.toks) fun b ob q => Heap.get?_push_of_some _ q
  refine ⟨hdo.typeIs, hdo.mapOf.noDict, ?_⟩
  show wpAny _ _ (callWith cpos (.builtin "dict.values") [.ref d] [] []) _ X.xe s1
  refine method_meetsIn F.slot_dict_values F.entry_dict_values rfl (PySem.evalArgs_none ⟨rfl, hdo.typeIs, F.args_dict_values_1 _, _, meets_dict_values (mixKind X.prog X.w) d hs0, ⟨vs, hdo⟩, ?_⟩)
  refine Calls.spliced_nil ?_
  refine PySem.W.kdl_call (PySem.W.kdl_values (knd := mixKind X.prog X.w) (r := s1.heap.objs.size) (d := d) (kvs := vs) (ep := ep)) (I1.ok.hd hc) ⟨⟨_, Heap.get?_push_size _ rfl, rfl, rfl⟩, hat.push _⟩ (by omega) fun h' tk acc' c' hkeep hS hacc => ?_
  refine ⟨.ref _, upd H1 _ (.lst (kvs.map (·.2))), I2.laid hkeep (Nat.le_refl _) (show ObjOk X.prog X.w _ _ _ (.lst (kvs.map (·.2))) from ⟨?_, acc'.toList, c', ?_, ?_⟩), rfl, q _ (I2.hok.fresh (Nat.le_refl _))⟩
  · rw [List.length_map]; exact hz
  · have el : acc'.toList.length = acc'.size := by simp
    refine vals_of_at (by rw [List.length_map, el, hacc.1, lk]) fun j x w h1 h2 => ?_
    obtain ⟨k, hky⟩ := hacc.2 j w (by rw [← Array.getElem?_toList]; exact h2)
    rw [List.getElem?_map] at h1
    obtain ⟨kvj, h3, rfl⟩ := Option.map_eq_some_iff.mp h1
    obtain ⟨u, hu, ru⟩ := kv_get kv h3
    rw [hky] at hu
    cases hu
    exact ru
  · rw [Array.toArray_toList]; exact hS
def rListR : List V → Hp → VK → Prop := fun xs H Q => ∃ p kvs, xs = [.ref p] ∧ Rd H p (.dK kvs) ∧ ∀ q, H q = none → Q (.ref q) (upd H q (.lst (kvs.map fun kv => kV kv.1)))
theorem call_list_dR (hc : X.calm = true) : CallR X (.type "list") rListR := by
  intro pins s σ H xs us Q I r h
  obtain ⟨p, kvs, e, hk, q⟩ := h
  subst e
  obtain ⟨u, eu, rx⟩ := vals1 r
  subst eu
  obtain rfl : u = Value.ref p := rx
  obtain ⟨z, lo, vs, rk, hd⟩ := hk.ok I.hok
  obtain ⟨ep, hat⟩ := hd.dictAt
  have hl : kvs.length = vs.length := Paired.length rk
  refine PySem.W.kdl_call (PySem.W.kdl_dict (knd := mixKind X.prog X.w) (kvs := vs) (ep := ep) lo) (I.ok.hd hc) hat (by rw [← hl]; exact z) fun h' tk acc' c' hkeep hS hacc => ?_
  refine ⟨.ref s.heap.objs.size, upd H s.heap.objs.size (.lst (kvs.map fun kv => kV kv.1)), I.laid hkeep (Nat.le_refl _) (show ObjOk X.prog X.w _ _ _ (.lst (kvs.map fun kv => kV kv.1)) from ⟨?_, acc'.toList, c', ?_, ?_⟩), rfl, q _ (I.hok.fresh (Nat.le_refl _))⟩
  · rw [List.length_map]; exact z
  · have el : acc'.toList.length = acc'.size := by simp
    refine vals_of_at (by rw [List.length_map, el, hacc.1, hl]) fun j x w h1 h2 => ?_
    obtain ⟨k, y, hky, hi⟩ := hacc.2 j w (by rw [← Array.getElem?_toList]; exact h2)
    rw [List.getElem?_map] at h1
    obtain ⟨kvj, h3, rfl⟩ := Option.map_eq_some_iff.mp h1
    obtain ⟨u, hu, ru⟩ := kv_get rk h3
    rw [hky] at hu
    cases hu
    exact keyIs_rel hi
  · rw [Array.toArray_toList]; exact hS
end
end SLd
namespace SL
open PySem PySem.Spec PyProof.Rows L2
/-- a dict's keys as they stand -/
def dctKs (st : Sto) (x : W) : Option (List W × List W) := match x with
  | .cell k => match st[k]? with
    | some (.dct ks ws) => some (ks, ws)
    | _ => none
  | .dct ks ws => some (ks, ws)
  | _ => none
/-- all keys are texts -/
def txtKs : List Key → Option (List Str)
  | [] => some []
  | .inr x :: r => (txtKs r).map (x :: ·)
  | _ => none
theorem txtKs_eq : ∀ {kk : List Key} {xs : List Str}, txtKs kk = some xs → kk = xs.map Sum.inr
  | [], xs, h => by unfold txtKs at h; cases h; rfl
  | .inr x :: r, xs, h => by
    unfold txtKs at h
    cases e : txtKs r with
    | none => rw [e] at h; cases h
    | some ys => rw [e] at h; cases h; rw [List.map_cons, ← txtKs_eq e]
  | .inl _ :: _, _, h => by unfold txtKs at h; cases h
noncomputable def oSortD : OpN := fun ws st => match ws with
  | [x] => match dctW st x with
    | some (kk, _) => match txtKs kk with
      | some xs => if xs.length < 64 then .ok (.lst ((sortS xs).map .str)) st else .bad
      | none => .bad
    | none => .bad
  | _ => .bad
def oDictC : OpN := fun ws st => match ws with
  | [x] => match dctKs st x with
    | some (ks, us) => match mapO keyW ks with
      | some _ => .ok (.cell st.length) (st ++ [.dct ks us])
      | none => .bad
    | none => .bad
  | _ => .bad
def oListD : OpN := fun ws st => match ws with
  | [x] => match dctKs st x with
    | some (ks, _) => match mapO keyW ks with
      | some _ => .ok (.lst ks) st
      | none => .bad
    | none => .bad
  | _ => .bad
def eListV (f : Sem) : Sem := fun fr st => (f fr st).bind fun x st1 => match dctKs st1 x with
  | some (ks, us) => match mapO keyW ks with
    | some _ => .ok (.lst us) st1
    | none => .bad
  | none => .bad
section
variable {X : Cx} {Wx : Wish}
theorem dctKs_at {K : PySem.W.Frag} {mg : Str → Option Value} {hid μ : List Addr} {st : Sto} {H : Hp} {x : W} {v : V} {kk : List Key} {ks ws : List W} (k : StOk K mg μ st hid H) (h : dctKs st x = some (ks, ws)) (hk : mapO keyW ks = some kk) (r : Rep K mg (Fz μ st hid H) μ x v) :
    ∃ a vs, v = .ref a ∧ kk.length = vs.length ∧ Rd H a (.dK (kk.zip vs)) ∧ Reps K mg (Fz μ st hid H) μ ws vs := by
  refine dctW_at k (kk := kk) (ws := ws) ?_ r
  cases x with
  | cell n =>
    unfold dctKs at h
    unfold dctW
    simp only at h ⊢
    split at h
    · rename_i k1 w1 e
      cases h
      simp only [e, kind_plain hk]
    · cases h
  | dct k1 w1 =>
    unfold dctKs at h
    cases h
    unfold dctW
    simp only [kind_plain hk]
  | _ => cases h
theorem zip_snd {α β : Type} : ∀ (kk : List α) (vs : List β), kk.length = vs.length → (kk.zip vs).map (·.2) = vs
  | [], [], _ => rfl
  | _ :: kk, _ :: vs, h => by rw [List.zip_cons_cons, List.map_cons, zip_snd kk vs (by simpa using h)]
  | [], _ :: _, h => (nomatch h)
  | _ :: _, [], h => (nomatch h)
theorem zip_fst {α β : Type} : ∀ (kk : List α) (vs : List β), kk.length = vs.length → (kk.zip vs).map (·.1) = kk
  | [], [], _ => rfl
  | _ :: kk, _ :: vs, h => by rw [List.zip_cons_cons, List.map_cons, zip_fst kk vs (by simpa using h)]
  | [], _ :: _, h => (nomatch h)
  | _ :: _, [], h => (nomatch h)
theorem keys_reps {K : PySem.W.Frag} {mg : Str → Option Value} {F : Hp} {μ : List Addr} : ∀ {ks : List W} {kk : List Key}, mapO keyW ks = some kk → Reps K mg F μ ks (kk.map kV)
  | [], kk, h => by unfold mapO at h; cases h; exact .nil
  | w :: ks, kk, h => by
    unfold mapO at h
    cases e1 : keyW w with
    | none => rw [e1] at h; cases h
    | some b =>
      cases e2 : mapO keyW ks with
      | none => rw [e1, e2] at h; cases h
      | some bs =>
        rw [e1, e2] at h; cases h
        exact .cons (rep_key e1) (keys_reps e2)
theorem os_sortD : OpNS X oSortD (fun xs H Q => ∃ (a : Addr) (kvs : List (Key × V)) (ks : List Str), xs = [.ref a] ∧ Rd H a (.dK kvs) ∧ kvs.map (·.1) = ks.map Sum.inr ∧ ks.length < 64 ∧ ∀ ys p, ys.Perm ks → sortedS ys = true → H p = none → Q (.ref p) (upd H p (.lst (ys.map V.str)))) := by
  intro Wx hid μ st σ H Q ws vs k r P
  unfold oSortD at P
  split at P
  · rename_i x
    obtain ⟨v, rfl, r1⟩ := reps1 (ws := []) r
    split at P
    · rename_i kk us e
      split at P
      · rename_i xs ex
        split at P
        · rename_i hl
          obtain ⟨a, vs, rfl, h1, h2, h3⟩ := dctW_at k e r1
          refine ⟨a, kk.zip vs, xs, rfl, h2, by rw [zip_fst kk vs h1]; exact txtKs_eq ex, hl, fun ys p pm sr hp => ?_⟩
          have e2 : ys = sortS xs := sortS_of pm sr
          rw [e2]
          refine ok_new P k hp fun F l e => rep_lst e ?_
          exact reps_strs _
        · exact P.elim
      · exact P.elim
    · exact P.elim
  · exact P.elim
theorem os_dictC : OpNS X oDictC (fun xs H Q => ∃ (a : Addr) (kvs : List (Key × V)), xs = [.ref a] ∧ Rd H a (.dK kvs) ∧ ∀ p, H p = none → Q (.ref p) (upd H p (.dK kvs))) := by
  intro Wx hid μ st σ H Q ws vs k r P
  unfold oDictC at P
  split at P
  · rename_i x
    obtain ⟨v, rfl, r1⟩ := reps1 (ws := []) r
    split at P
    · rename_i ks us e
      split at P
      · rename_i kk hk
        obtain ⟨a, vs, rfl, h1, h2, h3⟩ := dctKs_at k e hk r1
        refine ⟨a, kk.zip vs, rfl, h2, fun p hp => ?_⟩
        obtain ⟨k2, g2⟩ := k.newCell (c := .dct ks us) (o := .dK (kk.zip vs)) hp rfl ⟨vs, ⟨false, .inl kk, kind_plain hk, h1, upd_same⟩, h3.mono (.refl _) ⟨[p], rfl⟩⟩
        refine P _ _ _ k2 g2 ?_
        unfold Rep
        exact ⟨p, by rw [← k.len]; simp, rfl⟩
      · exact P.elim
    · exact P.elim
  · exact P.elim
theorem os_listD : OpNS X oListD SLd.rListR := by
  intro Wx hid μ st σ H Q ws vs k r P
  unfold oListD at P
  split at P
  · rename_i x
    obtain ⟨v, rfl, r1⟩ := reps1 (ws := []) r
    split at P
    · rename_i ks us e
      split at P
      · rename_i kk hk
        obtain ⟨a, vs, rfl, h1, h2, h3⟩ := dctKs_at k e hk r1
        refine ⟨a, kk.zip vs, rfl, h2, fun p hp => ?_⟩
        refine ok_new P k hp fun F l e => rep_lst e ?_
        have e2 : (kk.zip vs).map (fun kv => kV kv.1) = kk.map kV := by
          rw [← zip_fst kk vs h1, List.map_map, zip_fst kk vs h1]; rfl
        rw [e2]
        exact keys_reps hk
      · exact P.elim
    · exact P.elim
  · exact P.elim
theorem ev_listV {e : Expr} {f : Sem} {p apos cpos pos : Pos} (hc : X.calm = true) (hm : X.mg "list" = none) (he : EV X Wx e f) (hg : Gl X "list" := by rfl) (hv : bootBuiltins "list" = some (.type "list") := by decide +kernel) (hbase : attributeBase e "values" X.env (eval e X.env) = eval e X.env := by rfl) (hline : (apos.endLine == cpos.line) = true := by rfl)
    (hs : starEach [.Call (.Attribute e "values" apos) [] [] cpos] X.env = (false, eval (.Call (.Attribute e "values" apos) [] [] cpos) X.env) :: starEach [] X.env := by rfl) :
    EV X Wx (.Call (.Name "list" p) [.Call (.Attribute e "values" apos) [] [] cpos] [] pos) (eListV f) :=
  PEm (SLd.pe_listVals hc he hg hm hv hbase hline hs) fun σ H Q ⟨μ, st, hid, fr, S, P⟩ => by
    unfold SLd.tListVals
    refine ⟨μ, st, hid, fr, S, ?_⟩
    unfold eListV at P
    cases h : f fr st with
    | bad => rw [h] at P; exact P
    | err x s => rw [h] at P; exact P
    | ok w st1 =>
      rw [h, Out.bind_ok] at P
      intro μ1 H1 v k1 g1 r1
      have P1 := EPost.from g1 P
      split at P1
      · rename_i ks us e
        split at P1
        · rename_i kk hk
          obtain ⟨a, vs, rfl, h1, h2, h3⟩ := dctKs_at k1 e hk r1
          refine ⟨a, kk.zip vs, rfl, h2, fun q hq => ?_⟩
          refine ok_new P1 k1 hq fun F l e => rep_lst e ?_
          rw [zip_snd kk vs h1]
          exact h3.mono l (.refl _)
        · exact P1.elim
      · exact P1.elim
end
end SL

/-! # dicts walked, told by an expression; their items -/
namespace SL
open PySem PySem.Spec PyProof.Rows L2
def sLockX (fl : Sem) (s : SSem) : SSem := fun fr st => match fl fr st with
  | .ok (.cell n) _ => (match st[n]? with
    | some (.dct ks ws) => (match mapO keyW ks with
      | some _ => unlS n (s fr (st.set n (.dct (lkL ks) ws)))
      | none => s fr st)
    | _ => .bad)
  | _ => .bad
def eLockX (fl : Sem) (e : Sem) : Sem := fun fr st => match fl fr st with
  | .ok (.cell n) _ => (match st[n]? with
    | some (.dct ks ws) => (match mapO keyW ks with
      | some _ => unlE n (e fr (st.set n (.dct (lkL ks) ws)))
      | none => e fr st)
    | _ => .bad)
  | _ => .bad
def iKeysX (f : Sem) : SemI := fun fr st => (f fr st).bind fun x st1 => match x with
  | .cell n => (match st1[n]? with
    | some (.dct (.ty t :: ks) _) => if t = "L" then (match mapO keyW ks with
      | some _ => if ks.length ≤ LINE then .ok (.non, ks) st1 else .bad
      | none => .bad) else .bad
    | _ => .bad)
  | _ => .bad
def kvT (ks ws : List W) : List W := (ks.zip ws).map fun p => .tup [p.1, p.2]
def iItemsX (f : Sem) : SemI := fun fr st => (f fr st).bind fun x st1 => match x with
  | .cell n => (match st1[n]? with
    | some (.dct (.ty t :: ks) ws) => if t = "L" then (match mapO keyW ks with
      | some _ => if ks.length ≤ LINE ∧ ks.length = ws.length then .ok (.non, kvT ks ws) st1 else .bad
      | none => .bad) else .bad
    | _ => .bad)
  | _ => .bad
section
variable {K : PySem.W.Frag} {mg : Str → Option Value} {Wx : Wish} {μ hid : List Addr} {st : Sto} {fr : Fr} {σ : L2.St} {H : Hp}
theorem SI.lockN (S : SI K mg Wx μ st hid fr σ H) {n : Nat} {ks ws : List W} {kk : List Key} (hn : st[n]? = some (.dct ks ws)) (hk : mapO keyW ks = some kk) :
    ∃ (d : Addr) (vs : List V), μ[n]? = some d ∧ d ∉ hid ∧ kk.length = vs.length ∧ H d = some (.dK (kk.zip vs)) ∧ ∀ od, SI K mg Wx μ (st.set n (.dct (lkL ks) ws)) hid fr σ (upd H d (.frz od (.dK (kk.zip vs)))) ∧ Fz μ (st.set n (.dct (lkL ks) ws)) hid (upd H d (.frz od (.dK (kk.zip vs)))) = Fz μ st hid H := by
  have hlt : n < μ.length := by rw [S.sto.len]; exact (List.getElem?_eq_some_iff.mp hn).1
  have h1 : μ[n]? = some μ[n] := List.getElem?_eq_getElem hlt
  obtain ⟨vs, ⟨l, q, g1, g2, g3⟩, h3⟩ := S.sto.ok n _ _ h1 hn
  rw [kind_plain hk] at g1
  cases g1
  have g3' : H μ[n] = some (.dK (kk.zip vs)) := g3
  have g2' : kk.length = vs.length := g2
  refine ⟨μ[n], vs, h1, S.sto.hidn n _ _ h1 hn rfl, g2', g3', fun od => ?_⟩
  have kl : kindW (lkL ks) = some (true, .inl kk) := by
    show (mapO keyW ks).map (fun kk => (true, Sum.inl kk)) = _
    rw [hk]; rfl
  obtain ⟨k2, e, _⟩ := S.sto.setCell0 (c' := .dct (lkL ks) ws) (o := .frz od (.dK (kk.zip vs))) h1 hn rfl rfl ⟨vs, ⟨true, .inl kk, kl, g2', od, upd_same⟩, h3⟩
  exact ⟨⟨k2, S.len, fun j w h => by rw [e]; exact S.loc j w h, by rw [e]; exact S.ex⟩, e⟩
end
section
variable {X : Cx} {Wx : Wish}
theorem sv_lockX {fl : Sem} {st : Stmt} {s : SSem} (h : SV X Wx st s) : SV X Wx st (sLockX fl s) := PSm (PSor (ps_lock h) h) fun D σ H ⟨μ, st, hid, fr, S, P⟩ => by
  unfold sLockX at P
  split at P
  · rename_i n _ hf
    split at P
    · rename_i ks ws hn
      split at P
      · rename_i kk hk
        obtain ⟨d, vs, h1, h2, h3, h4, h5⟩ := S.lockN hn hk
        refine .inl ⟨d, _, h4, trivial, fun od => ?_⟩
        obtain ⟨S1, e1⟩ := h5 od
        refine ⟨μ, _, hid, fr, S1, ?_⟩
        have at2 : ∀ {μ2 : List Addr} {st2 : Sto} {H2 : Hp}, Grow hid μ (st.set n (.dct (lkL ks) ws)) (upd H d (.frz od (.dK (kk.zip vs)))) μ2 st2 H2 → μ2[n]? = some d ∧ H2 d = some (.frz od (.dK (kk.zip vs))) := fun g => ⟨g.pre.get h1, g.lck _ _ _ upd_same⟩
        cases e : s fr (st.set n (.dct (lkL ks) ws)) with
        | bad => rw [e] at P; exact P
        | er x f s => rw [e] at P; exact False.elim P
        | nx f2 st2 =>
          rw [e] at P
          intro μ2 σ2 H2 S2 g
          obtain ⟨a1, a2⟩ := at2 g
          refine ⟨a2, ?_⟩
          cases eu : unlk n st2 with
          | none => simp only [unlS, eu] at P; exact False.elim P
          | some st3 =>
            simp only [unlS, eu] at P
            exact P μ2 σ2 _ (S2.free eu a1 a2) (grow_lock (n := n) e1 h2 h4 (fun o z q => nomatch q) rfl g (unlk_at S2.sto eu a1 a2).2)
        | bk f2 st2 =>
          rw [e] at P
          intro μ2 σ2 H2 S2 g
          obtain ⟨a1, a2⟩ := at2 g
          refine ⟨a2, ?_⟩
          cases eu : unlk n st2 with
          | none => simp only [unlS, eu] at P; exact False.elim P
          | some st3 =>
            simp only [unlS, eu] at P
            exact P μ2 σ2 _ (S2.free eu a1 a2) (grow_lock (n := n) e1 h2 h4 (fun o z q => nomatch q) rfl g (unlk_at S2.sto eu a1 a2).2)
        | ct f2 st2 =>
          rw [e] at P
          intro μ2 σ2 H2 S2 g
          obtain ⟨a1, a2⟩ := at2 g
          refine ⟨a2, ?_⟩
          cases eu : unlk n st2 with
          | none => simp only [unlS, eu] at P; exact False.elim P
          | some st3 =>
            simp only [unlS, eu] at P
            exact P μ2 σ2 _ (S2.free eu a1 a2) (grow_lock (n := n) e1 h2 h4 (fun o z q => nomatch q) rfl g (unlk_at S2.sto eu a1 a2).2)
        | rt w st2 =>
          rw [e] at P
          intro μ2 H2 v k2 g r2
          obtain ⟨a1, a2⟩ := at2 g
          refine ⟨a2, ?_⟩
          cases eu : unlk n st2 with
          | none => simp only [unlS, eu] at P; exact False.elim P
          | some st3 =>
            simp only [unlS, eu] at P
            obtain ⟨k3, e3⟩ := unlk_at k2 eu a1 a2
            exact P μ2 _ v k3 (grow_lock (n := n) e1 h2 h4 (fun o z q => nomatch q) rfl g e3) (by rw [e3]; exact r2)
      · exact .inr ⟨μ, st, hid, fr, S, P⟩
    · exact P.elim
  · exact P.elim
theorem ev_lockX {fl : Sem} {e : Expr} {f : Sem} (h : EV X Wx e f) : EV X Wx e (eLockX fl f) := PEm (PEor (pe_lock h) h) fun σ H Q ⟨μ, st, hid, fr, S, P⟩ => by
  unfold eLockX at P
  split at P
  · rename_i n _ hf
    split at P
    · rename_i ks ws hn
      split at P
      · rename_i kk hk
        obtain ⟨d, vs, h1, h2, h3, h4, h5⟩ := S.lockN hn hk
        refine .inl ⟨d, _, h4, trivial, fun od => ?_⟩
        obtain ⟨S1, e1⟩ := h5 od
        refine ⟨μ, _, hid, fr, S1, ?_⟩
        cases e : f fr (st.set n (.dct (lkL ks) ws)) with
        | bad => rw [e] at P; exact P
        | err x s => rw [e] at P; exact P.elim
        | ok w st2 =>
          rw [e] at P
          intro μ2 H2 v k2 g r2
          have a1 := g.pre.get h1
          have a2 := g.lck _ _ _ (upd_same (H := H) (a := d) (o := .frz od (.dK (kk.zip vs))))
          refine ⟨a2, ?_⟩
          cases eu : unlk n st2 with
          | none => simp only [unlE, eu] at P; exact False.elim P
          | some st3 =>
            simp only [unlE, eu] at P
            obtain ⟨k3, e3⟩ := unlk_at k2 eu a1 a2
            exact P μ2 _ v k3 (grow_lock (n := n) e1 h2 h4 (fun o z q => nomatch q) rfl g e3) (by rw [e3]; exact r2)
      · exact .inr ⟨μ, st, hid, fr, S, P⟩
    · exact P.elim
  · exact P.elim
theorem iv_keysX {e : Expr} {f : Sem} {tg : Expr} (he : EV X Wx e f) : IV X Wx tg e (iKeysX f) := PIm (pi_keys he) fun σ H R ⟨μ, st, hid, fr, S, P⟩ => by
  unfold iKeysX at P
  refine ⟨μ, st, hid, fr, S, ?_⟩
  cases hx : f fr st with
  | bad => rw [hx] at P; exact P.elim
  | err x s => rw [hx] at P; exact P
  | ok w st1 =>
  rw [hx, Out.bind_ok] at P
  intro μ1 H1 v k1 g1 r1
  have P := IPost.from g1 P
  split at P
  · rename_i n
    split at P
    · rename_i t ks ws hn
      split at P
      · rename_i ht
        subst ht
        split at P
        · rename_i kk hk
          split at P
          · rename_i hl
            obtain ⟨d, rfl, h1, vs, ⟨l, q, c1, c2, c3⟩, h3⟩ := k1.cell hn r1
            have kl : kindW (.ty "L" :: ks) = some (true, .inl kk) := by
              show (mapO keyW ks).map (fun kk => (true, Sum.inl kk)) = _
              rw [hk]; rfl
            rw [kl] at c1
            cases c1
            obtain ⟨o, c3⟩ := c3
            have c3' : H1 d = some (.frz o (.dK (kk.zip vs))) := c3
            have c2' : kk.length = vs.length := c2
            have hkl := mapO_len hk
            have hz : (kk.zip vs).length = ks.length := by rw [List.length_zip]; omega
            refine ⟨d, o, rfl, .inl ⟨_, c3', P μ1 H1 _ k1 .refl ?_⟩⟩
            exact {
              len := le_line hl
              go := fun hid μ st H j k l p q s hj => ⟨q _ _ _ c3', by rw [hz]; exact hj⟩
              yld := fun hid μ st H j v H' k l p q s hj y => by
                obtain ⟨rfl, key, u, e1, rfl⟩ := y
                refine ⟨k, .refl, ks[j], List.getElem?_eq_getElem hj, ?_⟩
                have e2 : kk[j]? = some key := by
                  rw [List.getElem?_zip_eq_some] at e1
                  exact e1.1
                exact rep_key (mapO_get hk (List.getElem?_eq_getElem hj) e2)
              stop := fun hid μ st H j k l p q s hj => ⟨q _ _ _ c3', by rw [hz]; exact hj⟩ }
          · exact P.elim
        · exact P.elim
      · exact P.elim
    · exact P.elim
  · exact P.elim

theorem iv_items {e : Expr} {f : Sem} {elts : List Expr} {kk0 : Nat} {tpos apos cpos : Pos} (he : EV X Wx e f) (hbase : attributeBase e "items" X.env (eval e X.env) = eval e X.env := by rfl) (hline : (apos.endLine == cpos.line) = true := by rfl) : IV X Wx (.Tuple elts kk0 tpos) (.Call (.Attribute e "items" apos) [] [] cpos) (iItemsX f) := PIm (pi_items he hbase hline) fun σ H R ⟨μ, st, hid, fr, S, P⟩ => by
  unfold iItemsX at P
  refine ⟨μ, st, hid, fr, S, ?_⟩
  cases hx : f fr st with
  | bad => rw [hx] at P; exact P.elim
  | err x s => rw [hx] at P; exact P
  | ok w st1 =>
  rw [hx, Out.bind_ok] at P
  intro μ1 H1 v k1 g1 r1
  have P := IPost.from g1 P
  split at P
  · rename_i n
    split at P
    · rename_i t ks ws hn
      split at P
      · rename_i ht
        subst ht
        split at P
        · rename_i kk hk
          split at P
          · rename_i hl
            obtain ⟨hl, hlw⟩ := hl
            obtain ⟨d, rfl, h1, vs, ⟨l, q, c1, c2, c3⟩, h3⟩ := k1.cell hn r1
            have kl : kindW (.ty "L" :: ks) = some (true, .inl kk) := by
              show (mapO keyW ks).map (fun kk => (true, Sum.inl kk)) = _
              rw [hk]; rfl
            rw [kl] at c1
            cases c1
            obtain ⟨o, c3⟩ := c3
            have c3' : H1 d = some (.frz o (.dK (kk.zip vs))) := c3
            have c2' : kk.length = vs.length := c2
            have hkl := mapO_len hk
            have hz : (kk.zip vs).length = ks.length := by rw [List.length_zip]; omega
            have hkv : (kvT ks ws).length = ks.length := by unfold kvT; rw [List.length_map, List.length_zip]; omega
            refine ⟨d, o, _, rfl, c3', P μ1 H1 _ k1 .refl ?_⟩
            exact {
              len := by rw [hkv]; exact le_line hl
              go := fun hid μ st H j k l p q s hj => ⟨q _ _ _ c3', by rw [hz, ← hkv]; exact hj⟩
              yld := fun hid μ st H j v H' k l p q s hj y => by
                obtain ⟨T, key, u, e1, rfl, hT, rfl⟩ := y
                rw [hkv] at hj
                rw [List.getElem?_zip_eq_some] at e1
                obtain ⟨e2, e3⟩ := e1
                obtain ⟨w, h4, h5⟩ := h3.get' e3
                obtain ⟨k2, g2, e4⟩ := k.laid (o := .tup [kV key, u]) hT
                refine ⟨k2, g2, .tup [ks[j], w], ?_, ?_⟩
                · unfold kvT
                  rw [List.getElem?_map, (List.getElem?_zip_eq_some (z := (ks[j], w))).mpr ⟨List.getElem?_eq_getElem hj, h4⟩]; rfl
                · exact rep_tup e4 (.cons (rep_key (mapO_get hk (List.getElem?_eq_getElem hj) e2)) (.cons ((Rep.mono l p _ _ h5).mono g2.le (.refl _)) .nil))
              stop := fun hid μ st H j k l p q s hj => ⟨q _ _ _ c3', by rw [hz, ← hkv]; exact hj⟩ }
          · exact P.elim
        · exact P.elim
      · exact P.elim
    · exact P.elim
  · exact P.elim
end
end SL

/-! # a def whose new cells go on to live, however it ends -/
namespace SL
open PySem PySem.Spec PyProof.Rows L2
def mkFnI (m : Nat) (b : SSem) : Fn := fun ws st => match b (ws.map some ++ List.replicate (m - ws.length) none) st with
  | .nx _ st1 => .ok .non st1
  | .rt w st1 => .ok w st1
  | .er x _ st1 => .err x st1
  | _ => .bad
theorem fn_okI {P : Program} {w : World} {K : PySem.W.Frag} {mg : Str → Option Value} {base : Heap} {x qual : Str} {st : Stmt} {f : Addr} {fd : FuncData} {N ps : List Str} {k m n : Nat} {b : SSem} (F : Fun K x qual st f fd) (S : FnScope N ps (defScope st)) (hm : N.length = m := by rfl) (hn : ps.length = n := by rfl)
    (hb : ∀ (cdv : Value) (A : Around) (outer : List Env) (s : Shared) (H : Hp) (E : XK), Ctx (cxOf (L2.CX P w) P w K mg base N qual (defScope st) f cdv A outer s H E) (Wish.of fun c d _ H => E c d H) k → BV (cxOf (L2.CX P w) P w K mg base N qual (defScope st) f cdv A outer s H E) (Wish.of fun c d _ H => E c d H) (defBody st) b) :
    FnOk P w K mg base (L2.CX P w) (k + 1) f fd ps (spF K mg n (mkFnI m b)) := by
  refine F.okX S (fun vs H Q E h => ?_) (fun cdv A outer s H vs Q E hr h => ?_)
  · obtain ⟨_, _, _, _, h, _⟩ := h
    rw [h, hn]
  · refine ⟨_, hb cdv A outer s H E ⟨rfl, S.nd, hr, takes_of rfl rfl rfl rfl, passes_of (K := fun e s'' => L2.CX P w outer H s E e s'') rfl⟩, ?_⟩
    obtain ⟨hid, μ, st0, ws, hl, k0, r, P0⟩ := h
    have wl : ws.length = vs.length := r.length
    refine ⟨μ, st0, hid, ws.map some ++ List.replicate (m - ws.length) none, ⟨k0, ?_, fun i u hi => ?_, trivial⟩, ?_⟩
    · unfold L2.start
      simp only [List.length_append, List.length_map, List.length_replicate, wl, hm]
    · by_cases hlt : i < ws.length
      · rw [List.getElem?_append_left (by simpa using hlt), List.getElem?_map] at hi
        cases e : ws[i]? with
        | none => rw [e] at hi; cases hi
        | some u' =>
          rw [e] at hi
          cases hi
          obtain ⟨v, e1, e2⟩ := r.get e
          exact ⟨v, start_get e1, e2⟩
      · rw [List.getElem?_append_right (by simpa using hlt), List.getElem?_replicate] at hi
        split at hi <;> cases hi
    · unfold mkFnI at P0
      cases e : b (ws.map some ++ List.replicate (m - ws.length) none) st0 with
      | bad => rw [e] at P0; exact P0
      | bk f s => rw [e] at P0; exact P0.elim
      | ct f s => rw [e] at P0; exact P0.elim
      | nx f s =>
        rw [e] at P0
        exact fun μ' σ' H' S' g => P0 μ' H' _ S'.sto g rep_non
      | rt u s =>
        rw [e] at P0
        exact fun μ' H' v k' g' r' => P0 μ' H' v k' g' r'
      | er x f s =>
        rw [e] at P0
        exact fun μ' σ' H' c d S' g xr => P0 μ' H' c d S'.sto g xr
end SL

/-! # zip of a tuple and a list, walked with a tuple of names: over the library's zips of any two iterators -/
namespace SLy
open PySem PySem.Spec PyProof.Rows RZ L2
/-- an iterator that has come to its end -/
theorem spent {prog : Program} {w : World} {A : Around} {it b : Addr} {k : Nat} {St : Heap → Prop} (live : ∀ h, St h → ∃ o, h.get? it = some o)
    (frame : ∀ h h', St h → (∀ c ∈ [it, b], ∀ o, h.get? c = some o → h'.get? c = some o) → St h')
    (stop : ∀ (s : Shared) (Q E : Value → Shared → Prop), St s.heap → (∀ h' e, Heap.ExtBut it s.heap h' → (∃ o, h'.get? e = some o ∧ o.cls = .type "StopIteration") → E (.ref e) { s with heap := h' }) → wpAny (model prog w) A (Builtin.SmallTypes.nextOf (.ref it)) Q E s) :
    Draws prog w A it [it, b] k (fun _ _ => True) (fun j h => j = k ∧ St h) where
  live _ h q := live h q.2
  frame _ h h' q l := ⟨q.1, frame h h' q.2 l⟩
  item i s Q E l q _ := absurd q.1 (Nat.ne_of_lt l)
  done s Q E q l := stop s Q E q.2 l
/-- a tuple's iterator that stands at k, whether there is more or not -/
theorem tupAt {prog : Program} {w : World} {A : Around} (hh : A.handled = none) {it b : Addr} (ne : b ≠ it) (xs : Array Value) (k : Nat) :
    ∃ n P St, Draws prog w A it [it, b] n P St ∧ k ≤ n ∧ (∀ h : Heap, h.IsTupleIter it b k → h.IsTuple b xs → St k h) ∧ (xs.size ≤ k → k = n) := by
  by_cases l : xs.size ≤ k
  · exact ⟨k, _, _, spent (St := fun h => h.IsTupleIter it b k ∧ h.IsTuple b xs) (fun h q => q.1.imp fun o e => e.1) (fun h h' q m => ⟨q.1.at fun o e => m it (by simp) o e, q.2.at fun o e => m b (by simp) o e⟩)
      (fun s Q E q m => wpAny_nextOf_tuple_end hh q.1 q.2 (by simp; exact l) m), Nat.le_refl k, fun h q r => ⟨rfl, q, r⟩, fun _ => rfl⟩
  · exact ⟨_, _, _, Draws.tuple hh it b ne xs, by omega, fun h q r => ⟨q, r⟩, fun m => absurd m l⟩
/-- the same of a list's -/
theorem lstAt {prog : Program} {w : World} {A : Around} (hh : A.handled = none) {it b : Addr} (ne : b ≠ it) (xs : Array Value) (k : Nat) :
    ∃ n P St, Draws prog w A it [it, b] n P St ∧ k ≤ n ∧ (∀ h : Heap, h.IsListIter it b k → h.IsList b xs → St k h) ∧ (xs.size ≤ k → k = n) := by
  by_cases l : xs.size ≤ k
  · exact ⟨k, _, _, spent (St := fun h => h.IsListIter it b k ∧ h.IsList b xs) (fun h q => q.1.imp fun o e => e.1) (fun h h' q m => ⟨q.1.at fun o e => m it (by simp) o e, q.2.at fun o e => m b (by simp) o e⟩)
      (fun s Q E q m => wpAny_nextOf_list_end hh q.1 q.2 (by simp; exact l) m), Nat.le_refl k, fun h q r => ⟨rfl, q, r⟩, fun _ => rfl⟩
  · exact ⟨_, _, _, Draws.list hh it b ne xs, by omega, fun h q r => ⟨q, r⟩, fun m => absurd m l⟩
theorem two_sep {z p q i j a b : Addr} (D : ZipApart z p q i j a b) : ZipSep2 z p q i j [i, a] [j, b] where
  TIz := D.TIz
  TOz := D.TOz
  TITO := D.TITO
  TIi1 := D.TIi1
  mem1 := by simp
  zf1 := by simp only [List.mem_cons, List.not_mem_nil, or_false, not_or]; exact ⟨D.i1z.symm, D.l1z.symm⟩
  Tf1 := by simp only [List.mem_cons, List.not_mem_nil, or_false, not_or]; exact ⟨D.TOi1, D.l1TO.symm⟩
  TIi2 := D.TIi2
  mem2 := by simp
  zf2 := by simp only [List.mem_cons, List.not_mem_nil, or_false, not_or]; exact ⟨D.i2z.symm, D.l2z.symm⟩
  Tf2 := by simp only [List.mem_cons, List.not_mem_nil, or_false, not_or]; exact ⟨D.TOi2, D.l2TO.symm⟩
  sep1_2 := by simp only [List.mem_cons, List.not_mem_nil, or_false, not_or]; exact ⟨D.i12, D.l2i1.symm⟩
  sep2_1 := by simp only [List.mem_cons, List.not_mem_nil, or_false, not_or]; exact ⟨D.i12.symm, D.l1i2.symm⟩
/-- a tuple and a list, in pairs -/
def ItzM (K : PySem.W.Frag) (a b : Addr) : It where
  go k H := ∃ (xs ys : List V) (x y : V), SqT K H a xs ∧ SqL K H b ys ∧ xs[k]? = some x ∧ ys[k]? = some y
  yld k H v H' := ∃ T x y, v = .ref T ∧ H T = none ∧ H' = upd H T (.tup [x, y]) ∧ (∀ l, SqT K H a l → l[k]? = some x) ∧ ∀ l, SqL K H b l → l[k]? = some y
  stop k H := ∃ l m : List V, SqT K H a l ∧ SqL K H b m ∧ (l.length ≤ k ∨ m.length ≤ k)
theorem turn_tl {P : Program} {w : World} {K : PySem.W.Frag} {elts : List Expr} {kk : Nat} {tp : Pos} {a b z p q i j : Addr} (D : ZipApart z p q i j a b) :
    Turn P w K (.Tuple elts kk tp) (ItzM K a b) [z, p, q, i, j] z (fun k h => IsZip h z p q .none ∧ IsPair h p (.ref i) (.ref j) ∧ (∃ c d, IsPair h q c d) ∧ h.IsTupleIter i a k ∧ h.IsListIter j b k) where
  mem := by simp
  obj := fun k h st c hc => by
    obtain ⟨hz, hp, ⟨x, y, hq⟩, ⟨o1, k1, _, d1⟩, ⟨o2, k2, _, d2⟩⟩ := st
    have e' : c = z ∨ c = p ∨ c = q ∨ c = i ∨ c = j := by simpa using hc
    rcases e' with r | r | r | r | r
    · rw [r]; exact ⟨_, hz, fun v k => nomatch k⟩
    · rw [r]; exact ⟨_, hp, fun v k => nomatch k⟩
    · rw [r]; exact ⟨_, hq, fun v k => nomatch k⟩
    · rw [r]; exact ⟨o1, k1, fun v k => by rw [d1] at k; cases k⟩
    · rw [r]; exact ⟨o2, k2, fun v k => by rw [d2] at k; cases k⟩
  keep := fun k h h' st kp => by
    obtain ⟨hz, hp, ⟨x, y, hq⟩, h1, h2⟩ := st
    exact ⟨kp z (by simp) _ hz, kp p (by simp) _ hp, ⟨x, y, kp q (by simp) _ hq⟩, h1.at fun o r => kp i (by simp) o r, h2.at fun o r => kp j (by simp) o r⟩
  item := by
    intro X hP hw hK hc k pins s σ H E I hf st hg
    subst hP hw hK
    obtain ⟨hz, hp, hq, h1, h2⟩ := st
    obtain ⟨xs, ys, x, y, tx, ty, hx, hy⟩ := hg; obtain ⟨its, rv, p1, _⟩ := I.tuple tx
    obtain ⟨jts, rv2, p2, _⟩ := I.list ty; obtain ⟨g, hg, rg⟩ := rv.get hx
    obtain ⟨g2, hg2, rg2⟩ := rv2.get hy
    have old : ∀ c, c ∈ [z, p, q, i, j] → c < s.heap.objs.size := fun c hcm => by
      have e' : c = z ∨ c = p ∨ c = q ∨ c = i ∨ c = j := by simpa using hcm
      obtain ⟨c1, d1, hq'⟩ := hq
      obtain ⟨o1, e1, _⟩ := h1
      obtain ⟨o2, e2', _⟩ := h2
      rcases e' with r | r | r | r | r
      · rw [r]; exact Heap.lt_size hz
      · rw [r]; exact Heap.lt_size hp
      · rw [r]; exact Heap.lt_size hq'
      · rw [r]; exact Heap.lt_size e1
      · rw [r]; exact Heap.lt_size e2'
    have hn : X.A.in1.handled = none := I.ok.hd hc
    obtain ⟨c0, d0, hq⟩ := hq
    have ng := hg; have ng2 := hg2
    rw [List.getElem?_eq_some_iff] at ng ng2
    obtain ⟨ln, _⟩ := ng
    obtain ⟨ln2, _⟩ := ng2
    refine wpAny_pyNext_zipD2_item (two_sep D) (Draws.tuple (prog := X.prog) (w := X.w) (A := X.A.in1) hn i a D.l1i1 its.toArray) (Draws.list (prog := X.prog) (w := X.w) (A := X.A.in1) hn j b D.l2i2 jts.toArray) hz hp hq ⟨h1, p1⟩ ⟨h2, p2.isList⟩ (by simpa using ln) (by simpa using ln2) fun x1 x2 h' tk e1 e2 z' q' d1 d2 hT hsz hk => ?_
    obtain rfl : g = x1 := Option.some.inj (hg.symm.trans (by simpa using e1))
    obtain rfl : g2 = x2 := Option.some.inj (hg2.symm.trans (by simpa using e2))
    have h1' := d1.1
    have h2' := d2.1
    refine ⟨_, rfl, wpAny_letOwnedTupleGo_zip (s := { s with heap := h', toks := tk }) z' fun h2 zz sb => ?_⟩
    have zlt : s.heap.objs.size ≠ z := Nat.ne_of_gt (Heap.lt_size hz)
    have hT' : IsPair h2 s.heap.objs.size g g2 := (sb.2 _ zlt).trans hT
    have keep : ∀ c o, c ∉ [z, p, q, i, j] → s.heap.get? c = some o → h2.get? c = some o := fun c o hb k => (sb.2 c (fun r => hb (by simp [r]))).trans (hk c o (fun r => hb (by simp [r])) (fun r => hb (by simp [r])) (fun r => hb (by simp [r])) (fun r => hb (by simp [r])) k)
    have new : ObjOk X.prog X.w (upd H s.heap.objs.size (.tup [x, y])) h2 s.heap.objs.size (.tup [x, y]) :=
      ⟨by show 2 ≤ sizeLine; decide, [g, g2], .cons rg (.cons rg2 .nil), ⟨_, hT', rfl, _, rfl⟩⟩
    have I1 := I.turnedNew (t' := tk) (ch := [z, p, q, i, j]) (fun c o hb k => keep c o hb k) hf (Nat.le_refl _) new
    refine ⟨.ref s.heap.objs.size, _, I1, rfl, ⟨_, x, y, rfl, I.hok.fresh (Nat.le_refl _), rfl, fun l hl => by rw [I.tuple_inj hl tx]; exact hx, fun l hl => by rw [I.list_inj hl ty]; exact hy⟩, ⟨zz, (sb.2 _ D.TIz).trans (hk _ _ D.TIz D.TITO D.TIi1 D.TIi2 hp), ⟨_, _, (sb.2 _ D.TOz).trans q'⟩, h1'.at fun o r => (sb.2 _ D.i1z).trans r, h2'.at fun o r => (sb.2 _ D.i2z).trans r⟩, fun c hcm => ?_⟩
    rw [upd_ne (Nat.ne_of_lt (old c hcm))]
    exact (hf c hcm).1
  done := by
    intro X hP hw hK hc k pins s σ H E I hf st hg
    subst hP hw hK
    obtain ⟨hz, hp, hq, h1, h2⟩ := st
    obtain ⟨xs, ys, tx, ty, fin⟩ := hg; obtain ⟨its, rv, p1, _⟩ := I.tuple tx
    obtain ⟨jts, rv2, p2, _⟩ := I.list ty; have l1 := rv.length
    have l2 := rv2.length
    have hn : X.A.in1.handled = none := I.ok.hd hc
    obtain ⟨c0, d0, hq⟩ := hq
    obtain ⟨n1, P1, S1, D1, b1, f1, g1⟩ := tupAt (prog := X.prog) (w := X.w) (A := X.A.in1) hn D.l1i1 its.toArray k
    obtain ⟨n2, P2, S2, D2, b2, f2, g2⟩ := lstAt (prog := X.prog) (w := X.w) (A := X.A.in1) hn D.l2i2 jts.toArray k
    have he : k = n1 ∨ k = n2 := fin.imp (fun r => g1 (by simp; omega)) (fun r => g2 (by simp; omega))
    exact wpAny_pyNext_zipD2_end (two_sep D) D1 D2 hz hp hq (f1 _ h1 p1) (f2 _ h2 p2.isList) b1 b2 he fun h' tk hk => ⟨rfl, I.turnedL (t' := tk) (ch := [z, p, q, i, j]) (fun c o hb k => hk c o (fun r => hb (by simp [r])) (fun r => hb (by simp [r])) (fun r => hb (by simp [r])) (fun r => hb (by simp [r])) k) hf⟩
  self := fun A k s Q E st h => wpAny_pyIter_zip st.1 h
end SLy
namespace SL
open PySem PySem.Spec PyProof.Rows RZ L2
def iZipT0 (K : PySem.W.Frag) (ta : TA) : TI := fun σ H R => ta σ H fun vs H1 => ∃ a b xs ys, vs = [.ref a, .ref b] ∧ SqT K H1 a xs ∧ SqL K H1 b ys ∧ R (SLy.ItzM K a b) H1
theorem pi_zipM {X : Cx} {e f : Expr} {ta : TA} {p pos tp : Pos} {elts : List Expr} {kk : Nat} (hg : Gl X "zip") (hm : X.mg "zip" = none) (ha : PA X [e, f] ta)
    (hs : starEach [e, f] X.env = (false, eval e X.env) :: starEach [f] X.env := by rfl) (hpl : (backTo pos (starEach [f] X.env)).any (·.1) = false := by rfl) :
    PI X (.Tuple elts kk tp) (.Call (.Name "zip" p) [e, f] [] pos) (iZipT0 X.K ta) := by
  refine ⟨fun pins s σ H R I h => Call_ (ld_blt I hg hm PyProof.Rows.boot_zip (PyProof.Rows.callWith_type1 (thn (ha.run pos pins s σ H _ I h) fun us s1 ⟨vs, H1, I1, r1, a, b, xs, ys, ex, tx, ty, q⟩ => ?_) hs hpl))⟩
  subst ex
  cases r1 with
  | cons r rr =>
    cases rr with
    | cons r' rr =>
      cases rr
      cases r
      cases r'
      have five : ∀ c, c ∈ [s1.heap.objs.size + 4, s1.heap.objs.size + 2, s1.heap.objs.size + 3, s1.heap.objs.size, s1.heap.objs.size + 1] → FpOk X pins H1 c := fun c hcm => by
        have low : s1.heap.objs.size ≤ c := by
          simp only [List.mem_cons, List.not_mem_nil, or_false] at hcm
          omega
        exact I1.fpOk low (I1.hok.fresh low)
      obtain ⟨its, rv, p1, _⟩ := I1.tuple tx
      obtain ⟨jts, rv2, p2, _⟩ := I1.list ty
      obtain ⟨o1, ho1, _⟩ := id p1
      refine zip_begins2 (begins_tuple a its.toArray) (begins_list b jts.toArray) (show s1.heap.IsTuple a its.toArray from p1) p2.isList fun h' hz hp hq h1 h2 hsz hk => wpAny_pyIter_zip hz ?_
      have I2 : Inv X pins σ H1 { s1 with heap := h' } := I1.kept (t' := s1.toks) hk
      exact ⟨s1.heap.objs.size + 4, [s1.heap.objs.size + 4, s1.heap.objs.size + 2, s1.heap.objs.size + 3, s1.heap.objs.size, s1.heap.objs.size + 1], _, _, H1, rfl, I2, SLy.turn_tl (PySem.W.ktu_apart s1.heap.objs.size a b (Heap.lt_size ho1) p2.lt), ⟨hz, hp, ⟨_, _, hq⟩, ⟨_, h1, rfl, rfl⟩, ⟨_, h2, rfl, rfl⟩⟩, five, q⟩
def iZipM (f : SemL) : SemI := fun fr st => (f fr st).bind fun vs st1 => match vs with
  | [x, .lst ws] => (match tupF x with
    | some us => if us.length ≤ LINE then .ok (.non, zipP us ws) st1 else .bad
    | none => .bad)
  | _ => .bad
theorem iv_zipM {X : Cx} {Wx : Wish} {e g : Expr} {f : SemL} {p pos tp : Pos} {elts : List Expr} {kk : Nat} (hm : X.mg "zip" = none) (ha : AV X Wx [e, g] f) (hg : Gl X "zip" := by rfl)
    (hs : starEach [e, g] X.env = (false, eval e X.env) :: starEach [g] X.env := by rfl) (hpl : (backTo pos (starEach [g] X.env)).any (·.1) = false := by rfl) :
    IV X Wx (.Tuple elts kk tp) (.Call (.Name "zip" p) [e, g] [] pos) (iZipM f) := PIm (pi_zipM hg hm ha hs hpl) fun σ H R ⟨μ, st, hid, fr, S, P⟩ => by
  refine ⟨μ, st, hid, fr, S, ?_⟩
  unfold iZipM at P
  cases h1 : f fr st with
  | bad => rw [h1] at P; exact P
  | err x s => rw [h1] at P; exact P
  | ok ws st1 =>
    rw [h1, Out.bind_ok] at P
    intro μ1 H1 vs k1 g1 r1
    have P1 := IPost.from g1 P
    split at P1
    · rename_i x zs
      obtain ⟨v, y', rfl, rx, ry⟩ := reps2 r1
      split at P1
      · rename_i us e1
        split at P1
        · rename_i hl
          obtain ⟨a, xs, rfl, la, na⟩ := tup_now e1 rx
          obtain ⟨b, ys, rfl, hb, hr⟩ := rep_lst_inv ry
          have lb : ys.length = zs.length := hr.length.symm
          have nb : ∀ hid2 μ st H, StOk X.K X.mg μ st hid2 H → Le (Fz μ1 st1 hid H1) (Fz μ st hid2 H) → Pre μ1 μ → SqL X.K H b ys ∧ Reps X.K X.mg (Fz μ st hid2 H) μ zs ys := fun hid2 μ st H k l p => ⟨.inl (.inl (Fz.sub (l.fix _ (.lst ys) trivial hb)).1), hr.mono l p⟩
          have a0 := (na _ _ _ _ k1 (.refl _) (.refl _)).1
          have b0 := (nb _ _ _ _ k1 (.refl _) (.refl _)).1
          refine ⟨a, b, xs, ys, rfl, a0, b0, P1 μ1 H1 _ k1 .refl ?_⟩
          exact {
            len := by rw [zipP_len]; exact Nat.le_trans (Nat.min_le_left _ _) (le_line hl)
            go := fun hid μ st H i k l p _ _ hi => by
              rw [zipP_len] at hi
              have h1 : i < xs.length := by omega
              have k2 : i < ys.length := by omega
              exact ⟨xs, ys, xs[i], ys[i], (na _ _ _ _ k l p).1, (nb _ _ _ _ k l p).1, by simp, by simp⟩
            yld := fun hid μ st H i v H' k l p _ _ hi y => by
              obtain ⟨T, x, z, rfl, hT, rfl, q1, q2⟩ := y
              obtain ⟨A1, A2⟩ := na _ _ _ _ k l p
              obtain ⟨B1, B2⟩ := nb _ _ _ _ k l p
              obtain ⟨u, hu, ru⟩ := A2.get' (q1 xs A1)
              obtain ⟨w, hw, rw_⟩ := B2.get' (q2 ys B1)
              obtain ⟨k2, g2, e5⟩ := k.laid (o := .tup [x, z]) hT
              exact ⟨k2, g2, _, zipP_get hu hw, rep_tup e5 (.cons (ru.mono g2.le (.refl _)) (.cons (rw_.mono g2.le (.refl _)) .nil))⟩
            stop := fun hid μ st H i k l p _ _ hi => by
              rw [zipP_len] at hi
              exact ⟨xs, ys, (na _ _ _ _ k l p).1, (nb _ _ _ _ k l p).1, by omega⟩ }
        · exact P1.elim
      · exact P1.elim
    · exact P1.elim
end SL

/-! # a method without arguments -/
namespace SL
open PySem PySem.Spec PyProof.Rows L2
section
variable {X : Cx} {Wx : Wish}
/-- o.m() -/
theorem ev_meth0 {k j : Nat} {c m : Str} {F : Fn} {o : Expr} {f : Sem} {apos pos : Pos} {pl : PySem.Sem Bool} (I : MethIs X.prog X.w X.K X.mg X.base c m k 0 F) (C : Ctx X Wx j) (hk : k ≤ j) (ho : EV X Wx o f)
    (ht : eval (.Call (.Attribute o m apos) [] [] pos) X.env = (do
      let ov ← eval o X.env
      standAt apos.atName
      let (f, first) ← holding [ov] (getMethod ov m pl)
      callWith pos f first [] []) := by rfl) :
    EV X Wx (.Call (.Attribute o m apos) [] [] pos) (eMeth c m F f aNil) := by
  obtain ⟨A, ad, fd, ps, hm, hc, M, G, B⟩ := I.ex
  refine ⟨fun pins s σ H Q J h => ?_⟩
  obtain h := eMeth_read (g := aNil) hm arN_nil σ H Q h
  refine PySem.W.methodCall_KW (pl := pl) (thn (ho.run pins s σ H _ J h) fun u s1 ⟨x, H1, I1, rx, a, dx, fs, ex, ea, l, q⟩ => ?_) ht
  subst ex
  obtain rfl : u = Value.ref a := rx
  refine getmeth_ok I1 ea hc M l ?_
  obtain ⟨μ, st, hid, fr, S, P⟩ := q
  exact PySem.W.callWith_K0 (first := [.ref a]) I1.kIn M.kp (run_fnS (us := [.ref a]) (vs := [.ref a]) G (C.room.mono hk) B (passAt C.tk σ) I1 (.cons rfl .nil) (P μ H1 [] S.sto .refl .nil))
end
end SL

namespace SL
open PySem PySem.Spec PyProof.Rows L2
/-! # plain reckoning: what the meanings come to -/
/-! frames, place by place -/
section
variable {α : Type} {a0 a1 a2 a3 a4 a5 a6 a7 a8 a9 a10 a11 a12 a13 a14 a15 a16 a17 a18 a19 a20 a21 a22 a23 a24 a25 a26 a27 a28 a29 a30 a31 a32 b : α} {l : List α}
@[simp high] theorem fg0 : (a0 :: l)[0]? = some a0 := rfl
@[simp high] theorem fs0 : (a0 :: l).set 0 b = b :: l := rfl
@[simp high] theorem fg1 : (a0 :: a1 :: l)[1]? = some a1 := rfl
@[simp high] theorem fs1 : (a0 :: a1 :: l).set 1 b = a0 :: b :: l := rfl
@[simp high] theorem fg2 : (a0 :: a1 :: a2 :: l)[2]? = some a2 := rfl
@[simp high] theorem fs2 : (a0 :: a1 :: a2 :: l).set 2 b = a0 :: a1 :: b :: l := rfl
@[simp high] theorem fg3 : (a0 :: a1 :: a2 :: a3 :: l)[3]? = some a3 := rfl
@[simp high] theorem fs3 : (a0 :: a1 :: a2 :: a3 :: l).set 3 b = a0 :: a1 :: a2 :: b :: l := rfl
@[simp high] theorem fg4 : (a0 :: a1 :: a2 :: a3 :: a4 :: l)[4]? = some a4 := rfl
@[simp high] theorem fs4 : (a0 :: a1 :: a2 :: a3 :: a4 :: l).set 4 b = a0 :: a1 :: a2 :: a3 :: b :: l := rfl
@[simp high] theorem fg5 : (a0 :: a1 :: a2 :: a3 :: a4 :: a5 :: l)[5]? = some a5 := rfl
@[simp high] theorem fs5 : (a0 :: a1 :: a2 :: a3 :: a4 :: a5 :: l).set 5 b = a0 :: a1 :: a2 :: a3 :: a4 :: b :: l := rfl
@[simp high] theorem fg6 : (a0 :: a1 :: a2 :: a3 :: a4 :: a5 :: a6 :: l)[6]? = some a6 := rfl
@[simp high] theorem fs6 : (a0 :: a1 :: a2 :: a3 :: a4 :: a5 :: a6 :: l).set 6 b = a0 :: a1 :: a2 :: a3 :: a4 :: a5 :: b :: l := rfl
@[simp high] theorem fg7 : (a0 :: a1 :: a2 :: a3 :: a4 :: a5 :: a6 :: a7 :: l)[7]? = some a7 := rfl
@[simp high] theorem fs7 : (a0 :: a1 :: a2 :: a3 :: a4 :: a5 :: a6 :: a7 :: l).set 7 b = a0 :: a1 :: a2 :: a3 :: a4 :: a5 :: a6 :: b :: l := rfl
@[simp high] theorem fg8 : (a0 :: a1 :: a2 :: a3 :: a4 :: a5 :: a6 :: a7 :: a8 :: l)[8]? = some a8 := rfl
@[simp high] theorem fs8 : (a0 :: a1 :: a2 :: a3 :: a4 :: a5 :: a6 :: a7 :: a8 :: l).set 8 b = a0 :: a1 :: a2 :: a3 :: a4 :: a5 :: a6 :: a7 :: b :: l := rfl
@[simp high] theorem fg9 : (a0 :: a1 :: a2 :: a3 :: a4 :: a5 :: a6 :: a7 :: a8 :: a9 :: l)[9]? = some a9 := rfl
@[simp high] theorem fs9 : (a0 :: a1 :: a2 :: a3 :: a4 :: a5 :: a6 :: a7 :: a8 :: a9 :: l).set 9 b = a0 :: a1 :: a2 :: a3 :: a4 :: a5 :: a6 :: a7 :: a8 :: b :: l := rfl
@[simp high] theorem fg10 : (a0 :: a1 :: a2 :: a3 :: a4 :: a5 :: a6 :: a7 :: a8 :: a9 :: a10 :: l)[10]? = some a10 := rfl
@[simp high] theorem fs10 : (a0 :: a1 :: a2 :: a3 :: a4 :: a5 :: a6 :: a7 :: a8 :: a9 :: a10 :: l).set 10 b = a0 :: a1 :: a2 :: a3 :: a4 :: a5 :: a6 :: a7 :: a8 :: a9 :: b :: l := rfl
@[simp high] theorem fg11 : (a0 :: a1 :: a2 :: a3 :: a4 :: a5 :: a6 :: a7 :: a8 :: a9 :: a10 :: a11 :: l)[11]? = some a11 := rfl
@[simp high] theorem fs11 : (a0 :: a1 :: a2 :: a3 :: a4 :: a5 :: a6 :: a7 :: a8 :: a9 :: a10 :: a11 :: l).set 11 b = a0 :: a1 :: a2 :: a3 :: a4 :: a5 :: a6 :: a7 :: a8 :: a9 :: a10 :: b :: l := rfl
@[simp high] theorem fg12 : (a0 :: a1 :: a2 :: a3 :: a4 :: a5 :: a6 :: a7 :: a8 :: a9 :: a10 :: a11 :: a12 :: l)[12]? = some a12 := rfl
@[simp high] theorem fs12 : (a0 :: a1 :: a2 :: a3 :: a4 :: a5 :: a6 :: a7 :: a8 :: a9 :: a10 :: a11 :: a12 :: l).set 12 b = a0 :: a1 :: a2 :: a3 :: a4 :: a5 :: a6 :: a7 :: a8 :: a9 :: a10 :: a11 :: b :: l := rfl
@[simp high] theorem fg13 : (a0 :: a1 :: a2 :: a3 :: a4 :: a5 :: a6 :: a7 :: a8 :: a9 :: a10 :: a11 :: a12 :: a13 :: l)[13]? = some a13 := rfl
@[simp high] theorem fs13 : (a0 :: a1 :: a2 :: a3 :: a4 :: a5 :: a6 :: a7 :: a8 :: a9 :: a10 :: a11 :: a12 :: a13 :: l).set 13 b = a0 :: a1 :: a2 :: a3 :: a4 :: a5 :: a6 :: a7 :: a8 :: a9 :: a10 :: a11 :: a12 :: b :: l := rfl
@[simp high] theorem fg14 : (a0 :: a1 :: a2 :: a3 :: a4 :: a5 :: a6 :: a7 :: a8 :: a9 :: a10 :: a11 :: a12 :: a13 :: a14 :: l)[14]? = some a14 := rfl
@[simp high] theorem fs14 : (a0 :: a1 :: a2 :: a3 :: a4 :: a5 :: a6 :: a7 :: a8 :: a9 :: a10 :: a11 :: a12 :: a13 :: a14 :: l).set 14 b = a0 :: a1 :: a2 :: a3 :: a4 :: a5 :: a6 :: a7 :: a8 :: a9 :: a10 :: a11 :: a12 :: a13 :: b :: l := rfl
@[simp high] theorem fg15 : (a0 :: a1 :: a2 :: a3 :: a4 :: a5 :: a6 :: a7 :: a8 :: a9 :: a10 :: a11 :: a12 :: a13 :: a14 :: a15 :: l)[15]? = some a15 := rfl
@[simp high] theorem fs15 : (a0 :: a1 :: a2 :: a3 :: a4 :: a5 :: a6 :: a7 :: a8 :: a9 :: a10 :: a11 :: a12 :: a13 :: a14 :: a15 :: l).set 15 b = a0 :: a1 :: a2 :: a3 :: a4 :: a5 :: a6 :: a7 :: a8 :: a9 :: a10 :: a11 :: a12 :: a13 :: a14 :: b :: l := rfl
@[simp high] theorem fg16 : (a0 :: a1 :: a2 :: a3 :: a4 :: a5 :: a6 :: a7 :: a8 :: a9 :: a10 :: a11 :: a12 :: a13 :: a14 :: a15 :: a16 :: l)[16]? = some a16 := rfl
@[simp high] theorem fs16 : (a0 :: a1 :: a2 :: a3 :: a4 :: a5 :: a6 :: a7 :: a8 :: a9 :: a10 :: a11 :: a12 :: a13 :: a14 :: a15 :: a16 :: l).set 16 b = a0 :: a1 :: a2 :: a3 :: a4 :: a5 :: a6 :: a7 :: a8 :: a9 :: a10 :: a11 :: a12 :: a13 :: a14 :: a15 :: b :: l := rfl
@[simp high] theorem fg17 : (a0 :: a1 :: a2 :: a3 :: a4 :: a5 :: a6 :: a7 :: a8 :: a9 :: a10 :: a11 :: a12 :: a13 :: a14 :: a15 :: a16 :: a17 :: l)[17]? = some a17 := rfl
@[simp high] theorem fs17 : (a0 :: a1 :: a2 :: a3 :: a4 :: a5 :: a6 :: a7 :: a8 :: a9 :: a10 :: a11 :: a12 :: a13 :: a14 :: a15 :: a16 :: a17 :: l).set 17 b = a0 :: a1 :: a2 :: a3 :: a4 :: a5 :: a6 :: a7 :: a8 :: a9 :: a10 :: a11 :: a12 :: a13 :: a14 :: a15 :: a16 :: b :: l := rfl
@[simp high] theorem fg18 : (a0 :: a1 :: a2 :: a3 :: a4 :: a5 :: a6 :: a7 :: a8 :: a9 :: a10 :: a11 :: a12 :: a13 :: a14 :: a15 :: a16 :: a17 :: a18 :: l)[18]? = some a18 := rfl
@[simp high] theorem fs18 : (a0 :: a1 :: a2 :: a3 :: a4 :: a5 :: a6 :: a7 :: a8 :: a9 :: a10 :: a11 :: a12 :: a13 :: a14 :: a15 :: a16 :: a17 :: a18 :: l).set 18 b = a0 :: a1 :: a2 :: a3 :: a4 :: a5 :: a6 :: a7 :: a8 :: a9 :: a10 :: a11 :: a12 :: a13 :: a14 :: a15 :: a16 :: a17 :: b :: l := rfl
@[simp high] theorem fg19 : (a0 :: a1 :: a2 :: a3 :: a4 :: a5 :: a6 :: a7 :: a8 :: a9 :: a10 :: a11 :: a12 :: a13 :: a14 :: a15 :: a16 :: a17 :: a18 :: a19 :: l)[19]? = some a19 := rfl
@[simp high] theorem fs19 : (a0 :: a1 :: a2 :: a3 :: a4 :: a5 :: a6 :: a7 :: a8 :: a9 :: a10 :: a11 :: a12 :: a13 :: a14 :: a15 :: a16 :: a17 :: a18 :: a19 :: l).set 19 b = a0 :: a1 :: a2 :: a3 :: a4 :: a5 :: a6 :: a7 :: a8 :: a9 :: a10 :: a11 :: a12 :: a13 :: a14 :: a15 :: a16 :: a17 :: a18 :: b :: l := rfl
@[simp high] theorem fg20 : (a0 :: a1 :: a2 :: a3 :: a4 :: a5 :: a6 :: a7 :: a8 :: a9 :: a10 :: a11 :: a12 :: a13 :: a14 :: a15 :: a16 :: a17 :: a18 :: a19 :: a20 :: l)[20]? = some a20 := rfl
@[simp high] theorem fs20 : (a0 :: a1 :: a2 :: a3 :: a4 :: a5 :: a6 :: a7 :: a8 :: a9 :: a10 :: a11 :: a12 :: a13 :: a14 :: a15 :: a16 :: a17 :: a18 :: a19 :: a20 :: l).set 20 b = a0 :: a1 :: a2 :: a3 :: a4 :: a5 :: a6 :: a7 :: a8 :: a9 :: a10 :: a11 :: a12 :: a13 :: a14 :: a15 :: a16 :: a17 :: a18 :: a19 :: b :: l := rfl
@[simp high] theorem fg21 : (a0 :: a1 :: a2 :: a3 :: a4 :: a5 :: a6 :: a7 :: a8 :: a9 :: a10 :: a11 :: a12 :: a13 :: a14 :: a15 :: a16 :: a17 :: a18 :: a19 :: a20 :: a21 :: l)[21]? = some a21 := rfl
@[simp high] theorem fs21 : (a0 :: a1 :: a2 :: a3 :: a4 :: a5 :: a6 :: a7 :: a8 :: a9 :: a10 :: a11 :: a12 :: a13 :: a14 :: a15 :: a16 :: a17 :: a18 :: a19 :: a20 :: a21 :: l).set 21 b = a0 :: a1 :: a2 :: a3 :: a4 :: a5 :: a6 :: a7 :: a8 :: a9 :: a10 :: a11 :: a12 :: a13 :: a14 :: a15 :: a16 :: a17 :: a18 :: a19 :: a20 :: b :: l := rfl
@[simp high] theorem fg22 : (a0 :: a1 :: a2 :: a3 :: a4 :: a5 :: a6 :: a7 :: a8 :: a9 :: a10 :: a11 :: a12 :: a13 :: a14 :: a15 :: a16 :: a17 :: a18 :: a19 :: a20 :: a21 :: a22 :: l)[22]? = some a22 := rfl
@[simp high] theorem fs22 : (a0 :: a1 :: a2 :: a3 :: a4 :: a5 :: a6 :: a7 :: a8 :: a9 :: a10 :: a11 :: a12 :: a13 :: a14 :: a15 :: a16 :: a17 :: a18 :: a19 :: a20 :: a21 :: a22 :: l).set 22 b = a0 :: a1 :: a2 :: a3 :: a4 :: a5 :: a6 :: a7 :: a8 :: a9 :: a10 :: a11 :: a12 :: a13 :: a14 :: a15 :: a16 :: a17 :: a18 :: a19 :: a20 :: a21 :: b :: l := rfl
@[simp high] theorem fg23 : (a0 :: a1 :: a2 :: a3 :: a4 :: a5 :: a6 :: a7 :: a8 :: a9 :: a10 :: a11 :: a12 :: a13 :: a14 :: a15 :: a16 :: a17 :: a18 :: a19 :: a20 :: a21 :: a22 :: a23 :: l)[23]? = some a23 := rfl
@[simp high] theorem fs23 : (a0 :: a1 :: a2 :: a3 :: a4 :: a5 :: a6 :: a7 :: a8 :: a9 :: a10 :: a11 :: a12 :: a13 :: a14 :: a15 :: a16 :: a17 :: a18 :: a19 :: a20 :: a21 :: a22 :: a23 :: l).set 23 b = a0 :: a1 :: a2 :: a3 :: a4 :: a5 :: a6 :: a7 :: a8 :: a9 :: a10 :: a11 :: a12 :: a13 :: a14 :: a15 :: a16 :: a17 :: a18 :: a19 :: a20 :: a21 :: a22 :: b :: l := rfl
@[simp high] theorem fg24 : (a0 :: a1 :: a2 :: a3 :: a4 :: a5 :: a6 :: a7 :: a8 :: a9 :: a10 :: a11 :: a12 :: a13 :: a14 :: a15 :: a16 :: a17 :: a18 :: a19 :: a20 :: a21 :: a22 :: a23 :: a24 :: l)[24]? = some a24 := rfl
@[simp high] theorem fs24 : (a0 :: a1 :: a2 :: a3 :: a4 :: a5 :: a6 :: a7 :: a8 :: a9 :: a10 :: a11 :: a12 :: a13 :: a14 :: a15 :: a16 :: a17 :: a18 :: a19 :: a20 :: a21 :: a22 :: a23 :: a24 :: l).set 24 b = a0 :: a1 :: a2 :: a3 :: a4 :: a5 :: a6 :: a7 :: a8 :: a9 :: a10 :: a11 :: a12 :: a13 :: a14 :: a15 :: a16 :: a17 :: a18 :: a19 :: a20 :: a21 :: a22 :: a23 :: b :: l := rfl
@[simp high] theorem fg25 : (a0 :: a1 :: a2 :: a3 :: a4 :: a5 :: a6 :: a7 :: a8 :: a9 :: a10 :: a11 :: a12 :: a13 :: a14 :: a15 :: a16 :: a17 :: a18 :: a19 :: a20 :: a21 :: a22 :: a23 :: a24 :: a25 :: l)[25]? = some a25 := rfl
@[simp high] theorem fs25 : (a0 :: a1 :: a2 :: a3 :: a4 :: a5 :: a6 :: a7 :: a8 :: a9 :: a10 :: a11 :: a12 :: a13 :: a14 :: a15 :: a16 :: a17 :: a18 :: a19 :: a20 :: a21 :: a22 :: a23 :: a24 :: a25 :: l).set 25 b = a0 :: a1 :: a2 :: a3 :: a4 :: a5 :: a6 :: a7 :: a8 :: a9 :: a10 :: a11 :: a12 :: a13 :: a14 :: a15 :: a16 :: a17 :: a18 :: a19 :: a20 :: a21 :: a22 :: a23 :: a24 :: b :: l := rfl
@[simp high] theorem fg26 : (a0 :: a1 :: a2 :: a3 :: a4 :: a5 :: a6 :: a7 :: a8 :: a9 :: a10 :: a11 :: a12 :: a13 :: a14 :: a15 :: a16 :: a17 :: a18 :: a19 :: a20 :: a21 :: a22 :: a23 :: a24 :: a25 :: a26 :: l)[26]? = some a26 := rfl
@[simp high] theorem fs26 : (a0 :: a1 :: a2 :: a3 :: a4 :: a5 :: a6 :: a7 :: a8 :: a9 :: a10 :: a11 :: a12 :: a13 :: a14 :: a15 :: a16 :: a17 :: a18 :: a19 :: a20 :: a21 :: a22 :: a23 :: a24 :: a25 :: a26 :: l).set 26 b = a0 :: a1 :: a2 :: a3 :: a4 :: a5 :: a6 :: a7 :: a8 :: a9 :: a10 :: a11 :: a12 :: a13 :: a14 :: a15 :: a16 :: a17 :: a18 :: a19 :: a20 :: a21 :: a22 :: a23 :: a24 :: a25 :: b :: l := rfl
@[simp high] theorem fg27 : (a0 :: a1 :: a2 :: a3 :: a4 :: a5 :: a6 :: a7 :: a8 :: a9 :: a10 :: a11 :: a12 :: a13 :: a14 :: a15 :: a16 :: a17 :: a18 :: a19 :: a20 :: a21 :: a22 :: a23 :: a24 :: a25 :: a26 :: a27 :: l)[27]? = some a27 := rfl
@[simp high] theorem fs27 : (a0 :: a1 :: a2 :: a3 :: a4 :: a5 :: a6 :: a7 :: a8 :: a9 :: a10 :: a11 :: a12 :: a13 :: a14 :: a15 :: a16 :: a17 :: a18 :: a19 :: a20 :: a21 :: a22 :: a23 :: a24 :: a25 :: a26 :: a27 :: l).set 27 b = a0 :: a1 :: a2 :: a3 :: a4 :: a5 :: a6 :: a7 :: a8 :: a9 :: a10 :: a11 :: a12 :: a13 :: a14 :: a15 :: a16 :: a17 :: a18 :: a19 :: a20 :: a21 :: a22 :: a23 :: a24 :: a25 :: a26 :: b :: l := rfl
@[simp high] theorem fg28 : (a0 :: a1 :: a2 :: a3 :: a4 :: a5 :: a6 :: a7 :: a8 :: a9 :: a10 :: a11 :: a12 :: a13 :: a14 :: a15 :: a16 :: a17 :: a18 :: a19 :: a20 :: a21 :: a22 :: a23 :: a24 :: a25 :: a26 :: a27 :: a28 :: l)[28]? = some a28 := rfl
@[simp high] theorem fs28 : (a0 :: a1 :: a2 :: a3 :: a4 :: a5 :: a6 :: a7 :: a8 :: a9 :: a10 :: a11 :: a12 :: a13 :: a14 :: a15 :: a16 :: a17 :: a18 :: a19 :: a20 :: a21 :: a22 :: a23 :: a24 :: a25 :: a26 :: a27 :: a28 :: l).set 28 b = a0 :: a1 :: a2 :: a3 :: a4 :: a5 :: a6 :: a7 :: a8 :: a9 :: a10 :: a11 :: a12 :: a13 :: a14 :: a15 :: a16 :: a17 :: a18 :: a19 :: a20 :: a21 :: a22 :: a23 :: a24 :: a25 :: a26 :: a27 :: b :: l := rfl
@[simp high] theorem fg29 : (a0 :: a1 :: a2 :: a3 :: a4 :: a5 :: a6 :: a7 :: a8 :: a9 :: a10 :: a11 :: a12 :: a13 :: a14 :: a15 :: a16 :: a17 :: a18 :: a19 :: a20 :: a21 :: a22 :: a23 :: a24 :: a25 :: a26 :: a27 :: a28 :: a29 :: l)[29]? = some a29 := rfl
@[simp high] theorem fs29 : (a0 :: a1 :: a2 :: a3 :: a4 :: a5 :: a6 :: a7 :: a8 :: a9 :: a10 :: a11 :: a12 :: a13 :: a14 :: a15 :: a16 :: a17 :: a18 :: a19 :: a20 :: a21 :: a22 :: a23 :: a24 :: a25 :: a26 :: a27 :: a28 :: a29 :: l).set 29 b = a0 :: a1 :: a2 :: a3 :: a4 :: a5 :: a6 :: a7 :: a8 :: a9 :: a10 :: a11 :: a12 :: a13 :: a14 :: a15 :: a16 :: a17 :: a18 :: a19 :: a20 :: a21 :: a22 :: a23 :: a24 :: a25 :: a26 :: a27 :: a28 :: b :: l := rfl
@[simp high] theorem fg30 : (a0 :: a1 :: a2 :: a3 :: a4 :: a5 :: a6 :: a7 :: a8 :: a9 :: a10 :: a11 :: a12 :: a13 :: a14 :: a15 :: a16 :: a17 :: a18 :: a19 :: a20 :: a21 :: a22 :: a23 :: a24 :: a25 :: a26 :: a27 :: a28 :: a29 :: a30 :: l)[30]? = some a30 := rfl
@[simp high] theorem fs30 : (a0 :: a1 :: a2 :: a3 :: a4 :: a5 :: a6 :: a7 :: a8 :: a9 :: a10 :: a11 :: a12 :: a13 :: a14 :: a15 :: a16 :: a17 :: a18 :: a19 :: a20 :: a21 :: a22 :: a23 :: a24 :: a25 :: a26 :: a27 :: a28 :: a29 :: a30 :: l).set 30 b = a0 :: a1 :: a2 :: a3 :: a4 :: a5 :: a6 :: a7 :: a8 :: a9 :: a10 :: a11 :: a12 :: a13 :: a14 :: a15 :: a16 :: a17 :: a18 :: a19 :: a20 :: a21 :: a22 :: a23 :: a24 :: a25 :: a26 :: a27 :: a28 :: a29 :: b :: l := rfl
@[simp high] theorem fg31 : (a0 :: a1 :: a2 :: a3 :: a4 :: a5 :: a6 :: a7 :: a8 :: a9 :: a10 :: a11 :: a12 :: a13 :: a14 :: a15 :: a16 :: a17 :: a18 :: a19 :: a20 :: a21 :: a22 :: a23 :: a24 :: a25 :: a26 :: a27 :: a28 :: a29 :: a30 :: a31 :: l)[31]? = some a31 := rfl
@[simp high] theorem fs31 : (a0 :: a1 :: a2 :: a3 :: a4 :: a5 :: a6 :: a7 :: a8 :: a9 :: a10 :: a11 :: a12 :: a13 :: a14 :: a15 :: a16 :: a17 :: a18 :: a19 :: a20 :: a21 :: a22 :: a23 :: a24 :: a25 :: a26 :: a27 :: a28 :: a29 :: a30 :: a31 :: l).set 31 b = a0 :: a1 :: a2 :: a3 :: a4 :: a5 :: a6 :: a7 :: a8 :: a9 :: a10 :: a11 :: a12 :: a13 :: a14 :: a15 :: a16 :: a17 :: a18 :: a19 :: a20 :: a21 :: a22 :: a23 :: a24 :: a25 :: a26 :: a27 :: a28 :: a29 :: a30 :: b :: l := rfl
@[simp high] theorem fg32 : (a0 :: a1 :: a2 :: a3 :: a4 :: a5 :: a6 :: a7 :: a8 :: a9 :: a10 :: a11 :: a12 :: a13 :: a14 :: a15 :: a16 :: a17 :: a18 :: a19 :: a20 :: a21 :: a22 :: a23 :: a24 :: a25 :: a26 :: a27 :: a28 :: a29 :: a30 :: a31 :: a32 :: l)[32]? = some a32 := rfl
@[simp high] theorem fs32 : (a0 :: a1 :: a2 :: a3 :: a4 :: a5 :: a6 :: a7 :: a8 :: a9 :: a10 :: a11 :: a12 :: a13 :: a14 :: a15 :: a16 :: a17 :: a18 :: a19 :: a20 :: a21 :: a22 :: a23 :: a24 :: a25 :: a26 :: a27 :: a28 :: a29 :: a30 :: a31 :: a32 :: l).set 32 b = a0 :: a1 :: a2 :: a3 :: a4 :: a5 :: a6 :: a7 :: a8 :: a9 :: a10 :: a11 :: a12 :: a13 :: a14 :: a15 :: a16 :: a17 :: a18 :: a19 :: a20 :: a21 :: a22 :: a23 :: a24 :: a25 :: a26 :: a27 :: a28 :: a29 :: a30 :: a31 :: b :: l := rfl
end
section
variable {fr : Fr} {st : Sto} {f g h : Sem} {b c : SemB} {s t : SSem} {i j : Int} {n k : Nat} {l : SemL} {w u : W}
@[simp] theorem x_seq : sSeq s t fr st = (match s fr st with | .nx fr1 st1 => t fr1 st1 | o => o) := rfl
@[simp] theorem x_nil : sNil fr st = .nx fr st := rfl
@[simp] theorem x_exp : sExp f fr st = (f fr st).stm fr fun _ st1 => .nx fr st1 := rfl
@[simp] theorem x_ret : sRet f fr st = (f fr st).stm fr fun w st1 => .rt w st1 := rfl
@[simp] theorem x_retN : sRetN fr st = .rt .non st := rfl
@[simp] theorem x_bk : sBk fr st = .bk fr st := rfl
@[simp] theorem x_ct : sCt fr st = .ct fr st := rfl
@[simp] theorem x_if : sIf b s t fr st = (b fr st).stm fr fun b st1 => if b = true then s fr st1 else t fr st1 := rfl
@[simp] theorem x_asgN : sAsg f (gNm n) fr st = (f fr st).stm fr fun w st1 => .nx (fr.set n (some w)) st1 := rfl
@[simp] theorem x_subL {o i : Sem} : sSub uLst f o i fr st = (f fr st).stm fr fun w st1 => (o fr st1).stm fr fun o st2 => (i fr st2).stm fr fun i st3 => match uLst o i w st3 with
  | some st4 => .nx fr st4
  | none => .bad := rfl
theorem x_uLst : uLst (.cell k) (.int j) w st = (match st[k]? with
    | some (.lst ws) => (ixN ws.length j).map fun n => st.set k (.lst (ws.set n w))
    | _ => none) := rfl
@[simp] theorem x_var : eVar n fr st = (match fr[n]? with
  | some (some w) => .ok w st
  | _ => .bad) := rfl
@[simp] theorem x_c : eC w fr st = .ok w st := rfl
@[simp] theorem x_2 {op : Op2} : e2 op f g fr st = (f fr st).bind fun w st1 => (g fr st1).bind fun u st2 => op w u st2 := rfl
@[simp] theorem x_1 {op : Op1} : e1 op f fr st = (f fr st).bind fun w st1 => op w st1 := rfl
@[simp] theorem x_N {op : OpN} : eN op l fr st = (l fr st).bind fun w st1 => op w st1 := rfl
@[simp] theorem x_call {F : Fn} : eCall F l fr st = (l fr st).bind fun w st1 => F w st1 := rfl
@[simp] theorem x_aNil : aNil fr st = .ok [] st := rfl
@[simp] theorem x_aCons : aCons f l fr st = (f fr st).bind fun w st1 => (l fr st1).bind fun ws st2 => .ok (w :: ws) st2 := rfl
@[simp] theorem x_bOf : bOf f fr st = (f fr st).bind fun w st1 => match w with
  | .bl b => .ok b st1
  | _ => .bad := rfl
@[simp] theorem x_bNot : bNot b fr st = (b fr st).bind fun b st1 => .ok (!b) st1 := rfl
@[simp] theorem x_bAnd : bAnd b c fr st = (b fr st).bind fun b st1 => if b = true then c fr st1 else .ok false st1 := rfl
@[simp] theorem x_bOr : bOr b c fr st = (b fr st).bind fun b st1 => if b = true then .ok true st1 else c fr st1 := rfl
@[simp] theorem x_and : eAnd f g fr st = (f fr st).bind fun w st1 => match w with
  | .bl b => if b = true then g fr st1 else .ok (.bl false) st1
  | _ => .bad := rfl
@[simp] theorem x_or : eOr f g fr st = (f fr st).bind fun w st1 => match w with
  | .bl b => if b = true then .ok (.bl true) st1 else g fr st1
  | _ => .bad := rfl
@[simp] theorem x_not : eNot f fr st = (f fr st).bind fun w st1 => match w with
  | .bl b => .ok (.bl (!b)) st1
  | _ => .bad := rfl
@[simp] theorem x_ife : eIf b f g fr st = (b fr st).bind fun b st1 => if b = true then f fr st1 else g fr st1 := rfl
@[simp] theorem x_chain {op op' : Op2} : eChain op op' f g h fr st = (f fr st).bind fun x st1 => (g fr st1).bind fun y st2 => (op x y st2).bind fun z st3 => match z with
  | .bl b => if b = true then (h fr st3).bind fun w st4 => op' y w st4 else .ok (.bl false) st3
  | _ => .bad := rfl
@[simp] theorem x_add : oAdd (.int i) (.int j) st = .ok (.int (i + j)) st := rfl
@[simp] theorem x_sub : oSub (.int i) (.int j) st = .ok (.int (i - j)) st := rfl
@[simp] theorem x_neg : oNeg (.int i) st = .ok (.int (-i)) st := rfl
theorem x_mul (h : mulOk i j = true) : oMul (.int i) (.int j) st = .ok (.int (i * j)) st := if_pos h
theorem mul_small (h : -(2 ^ 64) < j ∧ j < 2 ^ 64) : mulOk i j = true := by
  unfold mulOk
  rw [Bool.or_eq_true]
  exact .inl (dec_mk (.inr h))
theorem mul_smallL (h : -(2 ^ 64) < i ∧ i < 2 ^ 64) : mulOk i j = true := by
  unfold mulOk
  rw [Bool.or_eq_true]
  exact .inl (dec_mk (.inl h))
@[simp] theorem x_mulR (h : -(2 ^ 64) < j ∧ j < 2 ^ 64) : oMul (.int i) (.int j) st = .ok (.int (i * j)) st := x_mul (mul_small h)
@[simp] theorem x_mulL (h : -(2 ^ 64) < i ∧ i < 2 ^ 64) : oMul (.int i) (.int j) st = .ok (.int (i * j)) st := x_mul (mul_smallL h)
@[simp] theorem x_div (h : 0 < j) (h2 : j.natAbs.log2 < 9000) : oDiv (.int i) (.int j) st = .ok (.int (i / j)) st := if_pos (dec_mk ⟨h, h2⟩)
theorem log_small {j : Int} (h : 0 < j) (h2 : j < 2 ^ 64) : j.natAbs.log2 < 9000 := by
  have : j.natAbs < 2 ^ 64 := by omega
  have := (Nat.log2_lt (n := j.natAbs) (k := 64) (by omega)).mpr this
  omega
@[simp] theorem x_divS (h : 0 < j) (h2 : j < 2 ^ 64) : oDiv (.int i) (.int j) st = .ok (.int (i / j)) st := x_div h (log_small h h2)
@[simp] theorem x_mod (h : 0 < j) : oMod (.int i) (.int j) st = .ok (.int (i % j)) st := if_pos h
@[simp] theorem x_pow (h : 0 ≤ j ∧ j ≤ 1000000 ∧ i.natAbs < 2 ^ 64) : oPow (.int i) (.int j) st = .ok (.int (i ^ j.toNat)) st := if_pos (dec_mk h)
@[simp] theorem x_le : oLe (.int i) (.int j) st = .ok (.bl (decide (i ≤ j))) st := rfl
@[simp] theorem x_lt : oLt (.int i) (.int j) st = .ok (.bl (decide (i < j))) st := rfl
@[simp] theorem x_gt : oGt (.int i) (.int j) st = .ok (.bl (decide (j < i))) st := rfl
@[simp] theorem x_ge : oGe (.int i) (.int j) st = .ok (.bl (decide (j ≤ i))) st := rfl
@[simp] theorem x_int : oInt [.int i] st = .ok (.int i) st := rfl
@[simp] theorem x_intB {b : Bool} : oInt [.bl b] st = .ok (.int (if b then 1 else 0)) st := rfl
@[simp] theorem x_eqI : oEq (.int i) (.int j) st = .ok (.bl (decide (i = j))) st := by
  show (match eqW st (.int i) (.int j) with | some b => Out.ok (W.bl b) st | none => .bad) = _
  have : eqW st (.int i) (.int j) = some (decide (i = j)) := by
    show (if SeqAt.shaped (.int i) && SeqAt.shaped (.int j) then some (PyData.eqv (.int i) (.int j)) else none) = _
    have z : ∀ i : Int, SeqAt.shaped (.int i) = true := fun i => by rfl
    rw [z, z]
    show some (i == j) = _
    congr 1
  rw [this]
@[simp] theorem x_neI : oNe (.int i) (.int j) st = .ok (.bl (!decide (i = j))) st := by
  show (match eqW st (.int i) (.int j) with | some b => Out.ok (W.bl (!b)) st | none => .bad) = _
  have : eqW st (.int i) (.int j) = some (decide (i = j)) := by
    show (if SeqAt.shaped (.int i) && SeqAt.shaped (.int j) then some (PyData.eqv (.int i) (.int j)) else none) = _
    have z : ∀ i : Int, SeqAt.shaped (.int i) = true := fun i => by rfl
    rw [z, z]
    show some (i == j) = _
    congr 1
  rw [this]
@[simp] theorem x_isN : oIs w .non st = .ok (.bl (isNon w)) st := rfl
@[simp] theorem x_isNN : oIsN w .non st = .ok (.bl (!isNon w)) st := rfl
theorem x_tup {ws : List W} (h : ws.length ≤ 1000) : oTup ws st = .ok (.tup ws) st := if_pos (decide_eq_true h)
theorem x_lst {ws : List W} (h : ws.length ≤ 1000) : oLst ws st = .ok (.lst ws) st := if_pos (decide_eq_true h)
theorem x_cell {ws : List W} (h : ws.length ≤ 1000) : oCell ws st = .ok (.cell st.length) (st ++ [.lst ws]) := if_pos (decide_eq_true h)
@[simp] theorem x_pNo : pNo fr st = .ok none st := rfl
@[simp] theorem x_pYes : pYes f fr st = (f fr st).bind fun w st1 => match w with
  | .int i => .ok (some i) st1
  | _ => .bad := rfl
@[simp] theorem x_sl {l h : SemO} : eSl f l h fr st = (f fr st).bind fun x st1 => (l fr st1).bind fun lo st2 => (h fr st2).bind fun hi st3 => oSl x lo hi st3 := rfl
@[simp] theorem x_iSeq : iSeq f fr st = (f fr st).bind fun x st1 => match itW st1 x with
  | some ws => .ok (x, ws) st1
  | none => .bad := rfl
@[simp] theorem x_eM {ty : Sto → W → Bool} {op : OpM} : eM ty op f l fr st = (f fr st).bind fun w st1 => if ty st1 w = true then (l fr st1).bind fun ws st2 => op w ws st2 else .bad := rfl
@[simp] theorem x_lst_lst {ws : List W} : lstW st (.lst ws) = some ws := rfl
@[simp] theorem x_lst_ro {ws : List W} : lstW st (.ro ws) = some ws := rfl
@[simp] theorem x_lst_tup {ws : List W} : lstW st (.tup ws) = none := rfl
@[simp] theorem x_tup_tup {ws : List W} : tupW st (.tup ws) = some ws := rfl
@[simp] theorem x_seq_lst {ws : List W} : seqW st (.lst ws) = some ws := rfl
@[simp] theorem x_seq_ro {ws : List W} : seqW st (.ro ws) = some ws := rfl
@[simp] theorem x_seq_tup {ws : List W} : seqW st (.tup ws) = some ws := rfl
@[simp] theorem x_it_lst {ws : List W} : itW st (.lst ws) = some ws := rfl
@[simp] theorem x_it_ro {ws : List W} : itW st (.ro ws) = some ws := rfl
@[simp] theorem x_it_tup {ws : List W} : itW st (.tup ws) = some ws := rfl
theorem x_len {ws : List W} (h : seqW st w = some ws) (hn : ∀ x, w ≠ .str x) : oLen [w] st = .ok (.int ws.length) st := by
  cases w <;> first | exact absurd rfl (hn _) | simp [oLen, h]
@[simp] theorem x_len_tup {ws : List W} : oLen [.tup ws] st = .ok (.int ws.length) st := rfl
@[simp] theorem x_len_lst {ws : List W} : oLen [.lst ws] st = .ok (.int ws.length) st := rfl
@[simp] theorem x_len_ro {ws : List W} : oLen [.ro ws] st = .ok (.int ws.length) st := rfl
@[simp] theorem x_list_tup {ws : List W} : oList [.tup ws] st = .ok (.lst ws) st := rfl
@[simp] theorem x_list_lst {ws : List W} : oList [.lst ws] st = .ok (.lst ws) st := rfl
@[simp] theorem x_tuple_lst {ws : List W} : oTuple [.lst ws] st = .ok (.tup ws) st := rfl
@[simp] theorem x_tuple_tup {ws : List W} : oTuple [.tup ws] st = .ok (.tup ws) st := rfl
@[simp] theorem x_rev_lst {ws : List W} : oTupRev (.lst ws) st = .ok (.tup ws.reverse) st := rfl
theorem x_ix {ws : List W} (h : seqW st w = some ws) (hn : ∀ x, w ≠ .str x) {m : Nat} (hm : ixN ws.length i = some m) (hu : ws[m]? = some u) : oIx w (.int i) st = .ok u st := by
  have e : (seqW st w).bind (fun ws => atI ws i) = some u := by
    rw [h]; show (ixN ws.length i).bind (fun j => ws[j]?) = _; rw [hm]; exact hu
  cases w <;> first | exact absurd rfl (hn _) | simp only [oIx, e]
theorem ixN_ok {n : Nat} {i : Int} (h : 0 ≤ i) (h2 : i < n) : ixN n i = some i.toNat := by
  unfold ixN; rw [if_pos h, if_pos h2]
theorem ixN_nat {n k : Nat} (h : k < n) : ixN n (k : Int) = some k := by
  rw [ixN_ok (by omega) (by omega)]; simp
theorem x_ixT {ws : List W} (h : 0 ≤ i) (hu : ws[i.toNat]? = some u) : oIx (.tup ws) (.int i) st = .ok u st := by
  have hl : i.toNat < ws.length := by
    rcases Nat.lt_or_ge i.toNat ws.length with q | q
    · exact q
    · rw [List.getElem?_eq_none q] at hu; cases hu
  exact x_ix rfl (fun _ z => by cases z) (ixN_ok h (by omega)) hu
theorem x_ixL {ws : List W} (h : 0 ≤ i) (hu : ws[i.toNat]? = some u) : oIx (.lst ws) (.int i) st = .ok u st := by
  have hl : i.toNat < ws.length := by
    rcases Nat.lt_or_ge i.toNat ws.length with q | q
    · exact q
    · rw [List.getElem?_eq_none q] at hu; cases hu
  exact x_ix rfl (fun _ z => by cases z) (ixN_ok h (by omega)) hu
theorem x_ixC {ws : List W} (hc : st[k]? = some (.lst ws)) (h : 0 ≤ i) (hu : ws[i.toNat]? = some u) : oIx (.cell k) (.int i) st = .ok u st := by
  have hl : i.toNat < ws.length := by
    rcases Nat.lt_or_ge i.toNat ws.length with q | q
    · exact q
    · rw [List.getElem?_eq_none q] at hu; cases hu
  exact x_ix (by simp [seqW, lstW, hc]) (fun _ z => by cases z) (ixN_ok h (by omega)) hu
end
theorem leave_same {n : Nat} {w : W} {st : Sto} (h : st.length = n) : leave n w st = .ok w st := if_pos h
theorem leaveX_same {n : Nat} {x : Exc} {st : Sto} (h : st.length = n) : leaveX n x st = .err x st := if_pos h
theorem mk_rt {m : Nat} {b : SSem} {ws : List W} {st st1 : Sto} {w : W} (h : b (ws.map some ++ List.replicate (m - ws.length) none) st = .rt w st1) (hl : st1.length = st.length) : mkFn m b ws st = .ok w st1 := by
  unfold mkFn mkFnG; rw [h]; exact leave_same hl
theorem mkA_rt {m : Nat} {b : SSem} {ws : List W} {st st1 : Sto} {w : W} (h : b (ws.map some ++ List.replicate (m - ws.length) none) st = .rt w st1) : mkFnA m b ws st = .ok w st1 := by
  unfold mkFnA mkFnG; rw [h]; rfl
theorem mk_nx {m : Nat} {b : SSem} {ws : List W} {st st1 : Sto} {fr : Fr} (h : b (ws.map some ++ List.replicate (m - ws.length) none) st = .nx fr st1) (hl : st1.length = st.length) : mkFn m b ws st = .ok .non st1 := by
  unfold mkFn mkFnG; rw [h]; exact leave_same hl
theorem mk_er {m : Nat} {b : SSem} {ws : List W} {st st1 : Sto} {fr : Fr} {x : Exc} (h : b (ws.map some ++ List.replicate (m - ws.length) none) st = .er x fr st1) (hl : st1.length = st.length) : mkFn m b ws st = .err x st1 := by
  unfold mkFn mkFnG; rw [h]; exact leaveX_same hl
/-- new cells that nothing handed back speaks of -/
theorem mk_rt2 {m : Nat} {b : SSem} {ws : List W} {st ex : Sto} {w : W} (h : b (ws.map some ++ List.replicate (m - ws.length) none) st = .rt w (st ++ ex)) (hw : ∀ n f, fz0 n f w = some w) (ho : st.all (oldW st.length) = true) : mkFn m b ws st = .ok w st := by
  unfold mkFn mkFnG; rw [h]
  show leave st.length w (st ++ ex) = _
  unfold leave
  split
  · rename_i e
    have : ex = [] := by
      rw [List.length_append] at e
      exact List.eq_nil_of_length_eq_zero (by omega)
    rw [this, List.append_nil]
  · rw [hw]
    simp only [List.take_left, ho, if_true]
/-! ## comprehensions, loops -/
inductive Both {α β : Type} (R : α → β → Prop) : List α → List β → Prop
  | nil : Both R [] []
  | cons {a : α} {b : β} {l : List α} {m : List β} (h : R a b) (r : Both R l m) : Both R (a :: l) (b :: m)
theorem src_free {x : W} {all : List W} {st : Sto} (h : ∀ k, x ≠ .cell k) (h2 : ∀ i, x ≠ .int i := by intro i e; cases e) : srcOk x all st := by
  cases x <;> first | trivial | exact absurd rfl (h _) | exact absurd rfl (h2 _)
theorem lc_map {x : W} {all : List W} {g : TgF} {t : SemB} {e : Sem} {fr : Fr} {f : W → W} {st : Sto} (hs : srcOk x all st) : ∀ ws : List W, (∀ w ∈ ws, ∃ fr1, g w fr st = some fr1 ∧ t fr1 st = .ok true st ∧ e fr1 st = .ok (f w) st) → lcRun x all g t e fr ws st = .ok (ws.map f) st
  | [], _ => by unfold lcRun; rw [if_pos hs]; rfl
  | w :: r, h => by
    obtain ⟨fr1, h1, h2, h3⟩ := h w List.mem_cons_self
    have ih := lc_map hs r fun u hu => h u (List.mem_cons_of_mem _ hu)
    unfold lcRun
    rw [if_pos hs, h1]
    simp only [h2, h3, ih, List.map_cons]
theorem lc_filter {x : W} {all : List W} {g : TgF} {t : SemB} {e : Sem} {fr : Fr} {p : W → Bool} {f : W → W} {st : Sto} (hs : srcOk x all st) : ∀ ws : List W, (∀ w ∈ ws, ∃ fr1, g w fr st = some fr1 ∧ t fr1 st = .ok (p w) st ∧ (p w = true → e fr1 st = .ok (f w) st)) → lcRun x all g t e fr ws st = .ok ((ws.filter p).map f) st
  | [], _ => by unfold lcRun; rw [if_pos hs]; rfl
  | w :: r, h => by
    obtain ⟨fr1, h1, h2, h3⟩ := h w List.mem_cons_self
    have ih := lc_filter hs r fun u hu => h u (List.mem_cons_of_mem _ hu)
    unfold lcRun
    rw [if_pos hs, h1]
    cases e : p w with
    | true => simp only [h2, e, h3 e, ih, List.filter_cons, if_true, List.map_cons]
    | false => simp only [h2, e, ih, List.filter_cons]; rfl
/-- the store goes on, by an invariant; what comes out is told of each item -/
theorem lc_inv {x : W} {all : List W} {g : TgF} {t : SemB} {e : Sem} {fr : Fr} (I : Sto → Prop) (R : W → W → Prop) (hs : ∀ st, I st → srcOk x all st) : ∀ (ws : List W) (st : Sto), I st → (∀ w ∈ ws, ∀ st, I st → ∃ fr1 y st2, g w fr st = some fr1 ∧ t fr1 st = .ok true st ∧ e fr1 st = .ok y st2 ∧ I st2 ∧ R w y) →
    ∃ ys st', lcRun x all g t e fr ws st = .ok ys st' ∧ I st' ∧ Both R ws ys
  | [], st, hi, _ => ⟨[], st, by unfold lcRun; rw [if_pos (hs st hi)], hi, .nil⟩
  | w :: r, st, hi, h => by
    obtain ⟨fr1, y, st2, h1, h2, h3, h4, h5⟩ := h w List.mem_cons_self st hi
    obtain ⟨ys, st3, e1, e2, e3⟩ := lc_inv I R hs r st2 h4 fun u hu => h u (List.mem_cons_of_mem _ hu)
    refine ⟨y :: ys, st3, ?_, e2, .cons h5 e3⟩
    unfold lcRun
    rw [if_pos (hs st hi), h1]
    simp only [h2, h3, e1]
theorem x_lc {f : SemI} {g : TgF} {own : List Nat} {t : SemB} {e : Sem} {fr : Fr} {st st1 st2 : Sto} {x : W} {all ys : List W} (h : f fr st = .ok (x, all) st1) (h2 : lcRun x all g t e (wipeF fr own) all st1 = .ok ys st2) : eLc f g own t e fr st = .ok (.lst ys) st2 := by
  unfold eLc eLcG; rw [h, Out.bind_ok]; simp only [h2, finL]
theorem x_lcC {f : SemI} {g : TgF} {own : List Nat} {t : SemB} {e : Sem} {fr : Fr} {st st1 st2 : Sto} {x : W} {all ys : List W} (h : f fr st = .ok (x, all) st1) (h2 : lcRun x all g t e (wipeF fr own) all st1 = .ok ys st2) : eLcC f g own t e fr st = .ok (.cell st2.length) (st2 ++ [.lst ys]) := by
  unfold eLcC eLcG; rw [h, Out.bind_ok]; simp only [h2, finC]
/-- a loop by an invariant over the turns -/
theorem for_inv {x : W} {all : List W} {g : TgF} {b : SSem} (P : Nat → Fr → Sto → Prop) (hs : ∀ k fr st, P k fr st → srcOk x all st) (step : ∀ k fr st w, P k fr st → all[k]? = some w → ∃ fr1 fr2 st2, g w fr st = some fr1 ∧ (b fr1 st = .nx fr2 st2 ∨ b fr1 st = .ct fr2 st2) ∧ P (k + 1) fr2 st2) :
    ∀ (m k : Nat) (fr : Fr) (st : Sto), all.length = k + m → P k fr st → ∃ fr' st', forRun x all g b (all.drop k) fr st = .nx fr' st' ∧ P all.length fr' st'
  | 0, k, fr, st, hm, h => ⟨fr, st, by rw [List.drop_eq_nil_of_le (by omega)]; unfold forRun; rw [if_pos (hs k fr st h)], by rw [hm]; exact h⟩
  | m + 1, k, fr, st, hm, h => by
    have hk : k < all.length := by omega
    obtain ⟨fr1, fr2, st2, h1, h2, h3⟩ := step k fr st all[k] h (by simp)
    obtain ⟨fr', st', e1, e2⟩ := for_inv P hs step m (k + 1) fr2 st2 (by omega) h3
    refine ⟨fr', st', ?_, e2⟩
    rw [List.drop_eq_getElem_cons hk]
    unfold forRun
    rw [if_pos (hs k fr st h), h1]
    rcases h2 with h2 | h2 <;> simp only [h2, e1]
theorem x_for {f : SemI} {g : TgF} {b : SSem} {fr : Fr} {st st1 : Sto} {x : W} {all : List W} (h : f fr st = .ok (x, all) st1) (P : Nat → Fr → Sto → Prop) (h0 : P 0 fr st1) (hs : ∀ k fr st, P k fr st → srcOk x all st) (step : ∀ k fr st w, P k fr st → all[k]? = some w → ∃ fr1 fr2 st2, g w fr st = some fr1 ∧ (b fr1 st = .nx fr2 st2 ∨ b fr1 st = .ct fr2 st2) ∧ P (k + 1) fr2 st2) :
    ∃ fr' st', sFor f g b fr st = .nx fr' st' ∧ P all.length fr' st' := by
  obtain ⟨fr', st', e1, e2⟩ := for_inv P hs step all.length 0 fr st1 (by omega) h0
  refine ⟨fr', st', ?_, e2⟩
  unfold sFor; rw [h, Out.stm_ok]
  exact e1
theorem rngW_at {lo c : Int} {n k : Nat} {w : W} (h : (rngW lo c n)[k]? = some w) : k < n ∧ w = .int (lo + (k : Int) * c) := by
  unfold rngW at h
  rw [List.getElem?_map] at h
  by_cases q : k < n
  · rw [List.getElem?_range q] at h
    exact ⟨q, (Option.some.inj h).symm⟩
  · rw [List.getElem?_eq_none (by simpa using q)] at h; cases h
theorem rng_mem {lo c : Int} {n : Nat} {w : W} (h : w ∈ rngW lo c n) : ∃ k, k < n ∧ w = .int (lo + (k : Int) * c) := by
  unfold rngW at h
  obtain ⟨k, h1, h2⟩ := List.mem_map.mp h
  exact ⟨k, by simpa using h1, h2.symm⟩
theorem x_rng1 {l : SemL} {fr : Fr} {st st1 : Sto} {j : Int} (h : l fr st = .ok [.int j] st1) (h2 : j ≤ 1000000) (h3 : -1000000 ≤ j) : iRng rg1 l fr st = .ok (.non, rngW 0 1 j.toNat) st1 := by
  unfold iRng rg1
  rw [h, Out.bind_ok]
  have hb : big j = true := dec_mk (by omega)
  have hl : j.toNat ≤ LINE := by unfold LINE; omega
  simp only [hb, if_true, if_pos hl]
/-! ## a row of statements -/
theorem seq_to {s t : SSem} {fr fr1 : Fr} {st st1 : Sto} {o : SOut} (h : s fr st = .nx fr1 st1) (h2 : t fr1 st1 = o) : sSeq s t fr st = o := by
  unfold sSeq; rw [h]; exact h2
theorem asg_to {f : Sem} {i : Nat} {t : SSem} {fr : Fr} {st st1 : Sto} {w : W} {o : SOut} (h : f fr st = .ok w st1) (h2 : t (fr.set i (some w)) st1 = o) : sSeq (sAsg f (gNm i)) t fr st = o := by
  unfold sSeq sAsg; rw [h]; exact h2
/-- if not ..: is passed by -/
theorem if_no {b : SemB} {s u t : SSem} {fr fr1 : Fr} {st st1 st2 : Sto} {o : SOut} (h : b fr st = .ok false st1) (h3 : u fr st1 = .nx fr1 st2) (h2 : t fr1 st2 = o) : sSeq (sIf b s u) t fr st = o := by
  unfold sSeq sIf; rw [h]; simp [h3]; exact h2
theorem exp_to {f : Sem} {t : SSem} {fr : Fr} {st st1 : Sto} {w : W} {o : SOut} (h : f fr st = .ok w st1) (h2 : t fr st1 = o) : sSeq (sExp f) t fr st = o := by
  unfold sSeq sExp; rw [h]; exact h2
@[simp] theorem ty_non_ {st : Sto} : tyW st .non = some "NoneType" := rfl
@[simp] theorem isi_non {st : Sto} {n : String} : oIsi [.non, .ty n] st = if tyN "NoneType" && tyN n then .ok (.bl (subT "NoneType" n)) st else .bad := rfl
@[simp] theorem isi2_non {st : Sto} {n m : String} : oIsi [.non, .tup [.ty n, .ty m]] st = if tyN "NoneType" && (tyN n && tyN m) then .ok (.bl (subT "NoneType" n || subT "NoneType" m)) st else .bad := by
  show (if tyN "NoneType" && [n, m].all tyN then Out.ok (W.bl ([n, m].any (subT "NoneType"))) st else .bad) = _
  simp
@[simp] theorem ty_bl_ {st : Sto} {b : Bool} : tyW st (.bl b) = some "bool" := rfl
@[simp] theorem isi_bl {st : Sto} {b : Bool} {n : String} : oIsi [(.bl b), .ty n] st = if tyN "bool" && tyN n then .ok (.bl (subT "bool" n)) st else .bad := rfl
@[simp] theorem isi2_bl {st : Sto} {b : Bool} {n m : String} : oIsi [(.bl b), .tup [.ty n, .ty m]] st = if tyN "bool" && (tyN n && tyN m) then .ok (.bl (subT "bool" n || subT "bool" m)) st else .bad := by
  show (if tyN "bool" && [n, m].all tyN then Out.ok (W.bl ([n, m].any (subT "bool"))) st else .bad) = _
  simp
@[simp] theorem ty_int_ {st : Sto} {i : Int} : tyW st (.int i) = some "int" := rfl
@[simp] theorem isi_int {st : Sto} {i : Int} {n : String} : oIsi [(.int i), .ty n] st = if tyN "int" && tyN n then .ok (.bl (subT "int" n)) st else .bad := rfl
@[simp] theorem isi2_int {st : Sto} {i : Int} {n m : String} : oIsi [(.int i), .tup [.ty n, .ty m]] st = if tyN "int" && (tyN n && tyN m) then .ok (.bl (subT "int" n || subT "int" m)) st else .bad := by
  show (if tyN "int" && [n, m].all tyN then Out.ok (W.bl ([n, m].any (subT "int"))) st else .bad) = _
  simp
@[simp] theorem ty_str_ {st : Sto} {z : Str} : tyW st (.str z) = some "str" := rfl
@[simp] theorem isi_str {st : Sto} {z : Str} {n : String} : oIsi [(.str z), .ty n] st = if tyN "str" && tyN n then .ok (.bl (subT "str" n)) st else .bad := rfl
@[simp] theorem isi2_str {st : Sto} {z : Str} {n m : String} : oIsi [(.str z), .tup [.ty n, .ty m]] st = if tyN "str" && (tyN n && tyN m) then .ok (.bl (subT "str" n || subT "str" m)) st else .bad := by
  show (if tyN "str" && [n, m].all tyN then Out.ok (W.bl ([n, m].any (subT "str"))) st else .bad) = _
  simp
@[simp] theorem ty_tup_ {st : Sto} {ws : List W} : tyW st (.tup ws) = some "tuple" := rfl
@[simp] theorem isi_tup {st : Sto} {ws : List W} {n : String} : oIsi [(.tup ws), .ty n] st = if tyN "tuple" && tyN n then .ok (.bl (subT "tuple" n)) st else .bad := rfl
@[simp] theorem isi2_tup {st : Sto} {ws : List W} {n m : String} : oIsi [(.tup ws), .tup [.ty n, .ty m]] st = if tyN "tuple" && (tyN n && tyN m) then .ok (.bl (subT "tuple" n || subT "tuple" m)) st else .bad := by
  show (if tyN "tuple" && [n, m].all tyN then Out.ok (W.bl ([n, m].any (subT "tuple"))) st else .bad) = _
  simp
@[simp] theorem ty_lst_ {st : Sto} {ws : List W} : tyW st (.lst ws) = some "list" := rfl
@[simp] theorem isi_lst {st : Sto} {ws : List W} {n : String} : oIsi [(.lst ws), .ty n] st = if tyN "list" && tyN n then .ok (.bl (subT "list" n)) st else .bad := rfl
@[simp] theorem isi2_lst {st : Sto} {ws : List W} {n m : String} : oIsi [(.lst ws), .tup [.ty n, .ty m]] st = if tyN "list" && (tyN n && tyN m) then .ok (.bl (subT "list" n || subT "list" m)) st else .bad := by
  show (if tyN "list" && [n, m].all tyN then Out.ok (W.bl ([n, m].any (subT "list"))) st else .bad) = _
  simp
@[simp] theorem ty_dct_ {st : Sto} {ws : List W} : tyW st (.dct [] ws) = some "dict" := rfl
@[simp] theorem ty_dct_S {st : Sto} {x : Str} {ks ws : List W} : tyW st (.dct (.str x :: ks) ws) = some "dict" := rfl
@[simp] theorem isi_dct {st : Sto} {ws : List W} {n : String} : oIsi [(.dct [] ws), .ty n] st = if tyN "dict" && tyN n then .ok (.bl (subT "dict" n)) st else .bad := rfl
@[simp] theorem isi_dctS {st : Sto} {x : Str} {ks ws : List W} {n : String} : oIsi [(.dct (.str x :: ks) ws), .ty n] st = if tyN "dict" && tyN n then .ok (.bl (subT "dict" n)) st else .bad := rfl
@[simp] theorem isi2_dct {st : Sto} {ws : List W} {n m : String} : oIsi [(.dct [] ws), .tup [.ty n, .ty m]] st = if tyN "dict" && (tyN n && tyN m) then .ok (.bl (subT "dict" n || subT "dict" m)) st else .bad := by
  show (if tyN "dict" && [n, m].all tyN then Out.ok (W.bl ([n, m].any (subT "dict"))) st else .bad) = _
  simp
@[simp] theorem isi2_dctS {st : Sto} {x : Str} {ks ws : List W} {n m : String} : oIsi [(.dct (.str x :: ks) ws), .tup [.ty n, .ty m]] st = if tyN "dict" && (tyN n && tyN m) then .ok (.bl (subT "dict" n || subT "dict" m)) st else .bad := by
  show (if tyN "dict" && [n, m].all tyN then Out.ok (W.bl ([n, m].any (subT "dict"))) st else .bad) = _
  simp
@[simp] theorem tyN_NoneType : tyN "NoneType" = true := by decide +kernel
@[simp] theorem subT_NoneType_bool : subT "NoneType" "bool" = false := by decide +kernel
@[simp] theorem subT_NoneType_int : subT "NoneType" "int" = false := by decide +kernel
@[simp] theorem subT_NoneType_str : subT "NoneType" "str" = false := by decide +kernel
@[simp] theorem subT_NoneType_tuple : subT "NoneType" "tuple" = false := by decide +kernel
@[simp] theorem subT_NoneType_list : subT "NoneType" "list" = false := by decide +kernel
@[simp] theorem subT_NoneType_dict : subT "NoneType" "dict" = false := by decide +kernel
@[simp] theorem tyN_bool : tyN "bool" = true := by decide +kernel
@[simp] theorem subT_bool_bool : subT "bool" "bool" = true := by decide +kernel
@[simp] theorem subT_bool_int : subT "bool" "int" = true := by decide +kernel
@[simp] theorem subT_bool_str : subT "bool" "str" = false := by decide +kernel
@[simp] theorem subT_bool_tuple : subT "bool" "tuple" = false := by decide +kernel
@[simp] theorem subT_bool_list : subT "bool" "list" = false := by decide +kernel
@[simp] theorem subT_bool_dict : subT "bool" "dict" = false := by decide +kernel
@[simp] theorem tyN_int : tyN "int" = true := by decide +kernel
@[simp] theorem subT_int_bool : subT "int" "bool" = false := by decide +kernel
@[simp] theorem subT_int_int : subT "int" "int" = true := by decide +kernel
@[simp] theorem subT_int_str : subT "int" "str" = false := by decide +kernel
@[simp] theorem subT_int_tuple : subT "int" "tuple" = false := by decide +kernel
@[simp] theorem subT_int_list : subT "int" "list" = false := by decide +kernel
@[simp] theorem subT_int_dict : subT "int" "dict" = false := by decide +kernel
@[simp] theorem tyN_str : tyN "str" = true := by decide +kernel
@[simp] theorem subT_str_bool : subT "str" "bool" = false := by decide +kernel
@[simp] theorem subT_str_int : subT "str" "int" = false := by decide +kernel
@[simp] theorem subT_str_str : subT "str" "str" = true := by decide +kernel
@[simp] theorem subT_str_tuple : subT "str" "tuple" = false := by decide +kernel
@[simp] theorem subT_str_list : subT "str" "list" = false := by decide +kernel
@[simp] theorem subT_str_dict : subT "str" "dict" = false := by decide +kernel
@[simp] theorem tyN_tuple : tyN "tuple" = true := by decide +kernel
@[simp] theorem subT_tuple_bool : subT "tuple" "bool" = false := by decide +kernel
@[simp] theorem subT_tuple_int : subT "tuple" "int" = false := by decide +kernel
@[simp] theorem subT_tuple_str : subT "tuple" "str" = false := by decide +kernel
@[simp] theorem subT_tuple_tuple : subT "tuple" "tuple" = true := by decide +kernel
@[simp] theorem subT_tuple_list : subT "tuple" "list" = false := by decide +kernel
@[simp] theorem subT_tuple_dict : subT "tuple" "dict" = false := by decide +kernel
@[simp] theorem tyN_list : tyN "list" = true := by decide +kernel
@[simp] theorem subT_list_bool : subT "list" "bool" = false := by decide +kernel
@[simp] theorem subT_list_int : subT "list" "int" = false := by decide +kernel
@[simp] theorem subT_list_str : subT "list" "str" = false := by decide +kernel
@[simp] theorem subT_list_tuple : subT "list" "tuple" = false := by decide +kernel
@[simp] theorem subT_list_list : subT "list" "list" = true := by decide +kernel
@[simp] theorem subT_list_dict : subT "list" "dict" = false := by decide +kernel
@[simp] theorem tyN_dict : tyN "dict" = true := by decide +kernel
@[simp] theorem subT_dict_bool : subT "dict" "bool" = false := by decide +kernel
@[simp] theorem subT_dict_int : subT "dict" "int" = false := by decide +kernel
@[simp] theorem subT_dict_str : subT "dict" "str" = false := by decide +kernel
@[simp] theorem subT_dict_tuple : subT "dict" "tuple" = false := by decide +kernel
@[simp] theorem subT_dict_list : subT "dict" "list" = false := by decide +kernel
@[simp] theorem subT_dict_dict : subT "dict" "dict" = true := by decide +kernel

@[simp] theorem eq_bl {a b : Bool} {st : Sto} : oEq (.bl a) (.bl b) st = .ok (.bl (decide (a = b))) st := by cases a <;> cases b <;> rfl
@[simp] theorem ne_bl {a b : Bool} {st : Sto} : oNe (.bl a) (.bl b) st = .ok (.bl (!decide (a = b))) st := by cases a <;> cases b <;> rfl
theorem eq_refl_ {st : Sto} {w : W} {d : PyData} (h : pdT st w = some d) (hs : SeqAt.shaped d = true) (he : PyData.eqv d d = true) : oEq w w st = .ok (.bl true) st := by
  unfold oEq eqW; rw [h]; simp [hs, he]
theorem eq_str {z : Str} {st : Sto} (h : PyData.strOk z = true) : oEq (.str z) (.str z) st = .ok (.bl true) st := by
  refine eq_refl_ (d := .str z) rfl ?_ (by show (z == z) = true; simp)
  unfold SeqAt.shaped
  have : PyData.canLay0 (.str z) = PyData.strOk z := by simp only [PyData.canLay0]
  rw [this, h]; rfl
theorem oIsi_eq {x : W} {n t : String} {st : Sto} (h : tyW st x = some t) (h1 : tyN t = true) (h2 : tyN n = true) : oIsi [x, .ty n] st = .ok (.bl (subT t n)) st := by
  show (match tyW st x with
    | some t => if tyN t && tyN n then Out.ok (W.bl (subT t n)) st else .bad
    | none => .bad) = _
  rw [h]; simp [h1, h2]
end SL

namespace SL
open PySem PySem.Spec PyProof.Rows L2
def top (i : Nat) : Stmt := PySem.Challenge.pw_surelabels_k06_patterns_apart.main.body.getD i (.Pass ⟨0, 0, 0, 0⟩)
def inCls (st : Stmt) (i : Nat) : Stmt := match st with
  | .ClassDef _ _ _ b _ _ _ _ _ _ _ => b.getD i (.Pass ⟨0, 0, 0, 0⟩)
  | _ => .Pass ⟨0, 0, 0, 0⟩
abbrev s_is_integer : Stmt := top 8
abbrev s_is_between : Stmt := top 9
abbrev s_is_row : Stmt := top 10
abbrev s_is_sign : Stmt := top 12
abbrev s_are_patterns : Stmt := top 19
abbrev s_is_row_of : Stmt := top 11
abbrev s_Book___init__ : Stmt := inCls (top 20) 0
abbrev s_law_book : Stmt := top 33
abbrev s_law_count : Stmt := top 35
abbrev s_law_deep : Stmt := top 34
abbrev s_law_draw : Stmt := top 25
abbrev s_law_power : Stmt := top 29
abbrev s_law_row_of : Stmt := top 30
abbrev s_law_signs : Stmt := top 27
abbrev s_law_book_model : Stmt := top 31
abbrev s_law_drawn_book : Stmt := top 32
abbrev s_law_pool : Stmt := top 24
abbrev s_Book_all_marks : Stmt := inCls (top 20) 4
abbrev s_Book_pattern : Stmt := inCls (top 20) 3
abbrev s_check_row : Stmt := top 13
abbrev s_apart : Stmt := top 14
abbrev s_nearest : Stmt := top 22
abbrev s_law_refused : Stmt := top 36
abbrev s_law_row : Stmt := top 28
abbrev s_law_same : Stmt := top 26
abbrev s_least_apart : Stmt := top 21
abbrev s_law : Stmt := top 37
abbrev s_init_BadBook : Stmt := inCls (top 3) 0
abbrev s_init_BadRow : Stmt := inCls (top 2) 0
abbrev s_init_NoSign : Stmt := inCls (top 4) 0
def exT : ExT := fun a b => if a = "BadBook" then (if b = "BadRow" then some false else if b = "LabelError" then some true else none) else if a = "BadRow" then (if b = "BadRow" then some true else if b = "LabelError" then some true else none) else if a = "NoSign" then (if b = "BadRow" then some false else if b = "LabelError" then some true else none) else none
/-! ### what the defs say -/
noncomputable def B_is_integer : SSem := sRet (eAnd (eN (oIsiI "Book") (aCons (eVar 0) (aCons (eC (.ty "int")) (aNil)))) (eNot (eN (oIsiI "Book") (aCons (eVar 0) (aCons (eC (.ty "bool")) (aNil))))))
noncomputable def F_is_integer : Fn := mkFn 1 B_is_integer
noncomputable def B_is_between : SSem := sRet (eAnd (eCall F_is_integer (aCons (eVar 0) (aNil))) (eChain oLe oLe (eVar 1) (eVar 0) (eVar 2)))
noncomputable def F_is_between : Fn := mkFn 3 B_is_between
noncomputable def B_is_row : SSem := sRet (eAnd (eN (oIsiI "Book") (aCons (eVar 0) (aCons (eC (.ty "tuple")) (aNil)))) (eN oAll (aCons (eLc (iSeq (eVar 0)) (gNm 1) [1] (tTrue) (eCall F_is_between (aCons (eVar 1) (aCons (eC (.int 0)) (aCons (eC (.int 1)) (aNil)))))) (aNil))))
noncomputable def F_is_row : Fn := mkFn 2 B_is_row
noncomputable def B_is_sign : SSem := sRet (eAnd (eN oIsi (aCons (eVar 0) (aCons (eC (.ty "str")) (aNil)))) (eAnd (e2 oEq (eN oLen (aCons (eVar 0) (aNil))) (eC (.int 1))) (e2 oIn (eVar 0) (eC (.str "0123456789abcdefghijklmnopqrstuvwxyz")))))
noncomputable def F_is_sign : Fn := mkFn 1 B_is_sign
noncomputable def B_are_patterns : SSem := sSeq (sIf (bOr (bNot (bOf (eN oIsi (aCons (eVar 0) (aCons (eC (.ty "dict")) (aNil)))))) (bNot (bOf (eChain oLe oLe (eC (.int 1)) (eN oDLen (aCons (eVar 0) (aNil))) (eC (.int 10)))))) (sRet (eC (.bl false))) (sNil)) (sSeq (sAsg (eN oCell (aNil)) (gNm 1)) (sSeq (sLockX (eVar 0) (sFor (iItemsX (eVar 0)) (gTl 2 (gsCons (gNm 2) (gsCons (gNm 3) (gsNil)))) (sSeq (sIf (bOr (bNot (bOf (eCall F_is_sign (aCons (eVar 2) (aNil))))) (bOr (bNot (bOf (eCall F_is_row (aCons (eVar 3) (aNil))))) (bNot (bOf (eChain oLe oLe (eC (.int 1)) (eN oLen (aCons (eVar 3) (aNil))) (eC (.int 6))))))) (sRet (eC (.bl false))) (sNil)) (sExp (eM isLst mAppend (eVar 1) (aCons (eN oLen (aCons (eVar 3) (aNil))) (aNil))))))) (sRet (e2 oEq (eN (oBestX IsMin) (aCons (eVar 1) (aNil))) (eN (oBestX IsMax) (aCons (eVar 1) (aNil)))))))
noncomputable def F_are_patterns : Fn := mkFn 4 B_are_patterns
noncomputable def B_is_row_of : SSem := sRet (eAnd (eCall F_is_row (aCons (eVar 0) (aNil))) (e2 oEq (eN oLen (aCons (eVar 0) (aNil))) (eVar 1)))
noncomputable def F_is_row_of : Fn := mkFn 2 B_is_row_of
noncomputable def B_Book___init__ : SSem := sSeq (sIf (bNot (bOf (eCall F_are_patterns (aCons (eVar 1) (aNil))))) (sRaise "BadBook" ["part"] (aCons (eC (.str "patterns")) (aNil))) (sNil)) (sSeq (sFldS ["Book"] "signs" (eN oTuple (aCons (eN oSortD (aCons (eVar 1) (aNil))) (aNil))) (eVar 0)) (sSeq (sFldS ["Book"] "width" (eN oLen (aCons (e2 oDGet (eVar 1) (e2 oIx (eFld ["Book"] "signs" (eVar 0)) (eC (.int 0)))) (aNil))) (eVar 0)) (sSeq (sIf (bNot (bOf (eCall F_is_row_of (aCons (eVar 2) (aCons (eFld ["Book"] "width" (eVar 0)) (aNil)))))) (sRaise "BadBook" ["part"] (aCons (eC (.str "start")) (aNil))) (sNil)) (sSeq (sIf (bNot (bOf (eCall F_is_row_of (aCons (eVar 3) (aCons (eFld ["Book"] "width" (eVar 0)) (aNil)))))) (sRaise "BadBook" ["part"] (aCons (eC (.str "stop")) (aNil))) (sNil)) (sSeq (sFldS ["Book"] "start" (eVar 2) (eVar 0)) (sSeq (sFldS ["Book"] "stop" (eVar 3) (eVar 0)) (sSeq (sFldS ["Book"] "_rows" (eDct0) (eVar 0)) (sSeq (sFor (iSeq (eFld ["Book"] "signs" (eVar 0))) (gNm 4) (sSub uDct (e2 oDGet (eVar 1) (eVar 4)) (eFld ["Book"] "_rows" (eVar 0)) (eVar 4))) (sSeq (sAsg (e2 oAdd (eListV (eFld ["Book"] "_rows" (eVar 0))) (eN oLst (aCons (eVar 2) (aCons (eVar 3) (aNil))))) (gNm 5)) (sIf (bOf (e2 oLt (eLenSet (eVar 5)) (eN oLen (aCons (eVar 5) (aNil))))) (sRaise "BadBook" ["part"] (aCons (eC (.str "same")) (aNil))) (sNil)))))))))))
noncomputable def F_Book___init__ : Fn := mkFnI 6 B_Book___init__
noncomputable def B_law_book : SSem := sRet (eMake "Book" F_Book___init__ (aCons (eN oDictC (aCons (e2 oIx (eVar 0) (eC (.int 0))) (aNil))) (aCons (e2 oIx (eVar 0) (eC (.int 1))) (aCons (e2 oIx (eVar 0) (eC (.int 2))) (aNil)))))
noncomputable def F_law_book : Fn := mkFn 1 B_law_book
noncomputable def B_law_count : SSem := sRet (eN oLen (aCons (eLc (iRng rg1 (aCons (eN oLen (aCons (eVar 0) (aNil))) (aNil))) (gNm 2) [2] (bOf (e2 oNe (e2 oIx (eVar 0) (eVar 2)) (e2 oIx (eVar 1) (eVar 2)))) (eVar 2)) (aNil)))
noncomputable def F_law_count : Fn := mkFn 3 B_law_count
noncomputable def B_law_deep : SSem := sSeq (sAsg (eN oLst (aCons (eC (.int 0)) (aNil))) (gNm 0)) (sSeq (sFor (iRng rg1 (aCons (eC (.int 27)) (aNil))) (gNm 1) (sAsg (eN oLst (aCons (eVar 0) (aNil))) (gNm 0))) (sRet (eVar 0)))
noncomputable def F_law_deep : Fn := mkFn 2 B_law_deep
noncomputable def B_law_draw : SSem := sSeq (sSub uLst (e2 oAdd (e2 oIx (eVar 0) (eC (.int 3))) (eC (.int 1))) (eVar 0) (eC (.int 3))) (sSeq (sIf (bAnd (bOf (e2 oEq (e2 oIx (eVar 0) (eC (.int 2))) (eC (.int 0)))) (bOf (e2 oLt (e2 oIx (eVar 0) (eC (.int 1))) (eN oLen (aCons (e2 oIx (eVar 0) (eC (.int 0))) (aNil)))))) (sSeq (sAsg (e2 oIx (e2 oIx (eVar 0) (eC (.int 0))) (e2 oIx (eVar 0) (eC (.int 1)))) (gNm 3)) (sSeq (sSub uLst (e2 oAdd (e2 oIx (eVar 0) (eC (.int 1))) (eC (.int 1))) (eVar 0) (eC (.int 1))) (sIf (bOf (e2 oGe (eVar 3) (e2 oPow (eC (.int 10)) (eC (.int 18))))) (sSub uLst (eVar 3) (eVar 0) (eC (.int 2))) (sSub uLst (e2 oMod (eN oInt (aCons (e2 oAdd (e2 oAdd (e2 oMul (e2 oIx (eVar 0) (eC (.int 4))) (eC (.int 37))) (eVar 3)) (eC (.int 4217))) (aNil))) (eC (.int 2147483629))) (eVar 0) (eC (.int 4)))))) (sNil)) (sSeq (sIf (bOf (e2 oGt (e2 oIx (eVar 0) (eC (.int 2))) (eC (.int 0)))) (sSeq (sAsg (e2 oMod (eN oInt (aCons (e2 oIx (eVar 0) (eC (.int 2))) (aNil))) (eVar 1)) (gNm 4)) (sSeq (sSub uLst (e2 oDiv (e2 oIx (eVar 0) (eC (.int 2))) (eVar 1)) (eVar 0) (eC (.int 2))) (sRet (eVar 4)))) (sNil)) (sSeq (sAsg (e2 oMod (eN oInt (aCons (e2 oAdd (e2 oAdd (e2 oMul (e2 oIx (eVar 0) (eC (.int 4))) (eC (.int 48271))) (e2 oMul (e2 oIx (eVar 0) (eC (.int 3))) (eC (.int 110503)))) (eC (.int 6133))) (aNil))) (eC (.int 2147483647))) (gNm 2)) (sSeq (sAsg (e2 oMod (eN oInt (aCons (e2 oMul (eVar 2) (e2 oAdd (e2 oDiv (eVar 2) (eC (.int 1031))) (eC (.int 40014)))) (aNil))) (eC (.int 2147483647))) (gNm 2)) (sSeq (sAsg (e2 oMod (eN oInt (aCons (e2 oMul (eVar 2) (e2 oAdd (e2 oDiv (eVar 2) (eC (.int 2039))) (eC (.int 69621)))) (aNil))) (eC (.int 2147483399))) (gNm 2)) (sRet (e2 oMod (eN oInt (aCons (e2 oDiv (eVar 2) (eC (.int 32))) (aNil))) (eVar 1))))))))
noncomputable def F_law_draw : Fn := mkFn 5 B_law_draw
noncomputable def B_law_power : SSem := sSeq (sAsg (eC (.int 1)) (gNm 1)) (sSeq (sFor (iRng rg1 (aCons (eVar 0) (aNil))) (gNm 2) (sAsg (e2 oAdd (eVar 1) (eVar 1)) (gNm 1))) (sRet (eVar 1)))
noncomputable def F_law_power : Fn := mkFn 3 B_law_power
noncomputable def B_law_row_of : SSem := sSeq (sAsg (eN oCell (aNil)) (gNm 2)) (sSeq (sFor (iRng rg1 (aCons (eVar 1) (aNil))) (gNm 3) (sSeq (sExp (eM isLst mInsert (eVar 2) (aCons (eC (.int 0)) (aCons (e2 oSub (eVar 0) (e2 oMul (e2 oDiv (eVar 0) (eC (.int 2))) (eC (.int 2)))) (aNil))))) (sAsg (e2 oDiv (eVar 0) (eC (.int 2))) (gNm 0)))) (sRet (eN oTuple (aCons (eVar 2) (aNil)))))
noncomputable def F_law_row_of : Fn := mkFn 4 B_law_row_of
noncomputable def B_law_signs : SSem := sSeq (sAsg (eN oListSC (aCons (eC (.str "0123456789abcdefghijklmnopqrstuvwxyz")) (aNil))) (gNm 2)) (sSeq (sIf (bOf (e2 oGt (eCall F_law_draw (aCons (eVar 0) (aCons (eC (.int 3)) (aNil)))) (eC (.int 0)))) (sAsg (eN oListSC (aCons (eC (.str "abcdefghijkl")) (aNil))) (gNm 2)) (sNil)) (sSeq (sAsg (eN oCell (aNil)) (gNm 3)) (sSeq (sFor (iRng rg1 (aCons (eVar 1) (aNil))) (gNm 4) (sExp (eM isLst mAppend (eVar 3) (aCons (eM isLst mPopAt (eVar 2) (aCons (eCall F_law_draw (aCons (eVar 0) (aCons (eN oLen (aCons (eVar 2) (aNil))) (aNil)))) (aNil))) (aNil))))) (sRet (eN oSortS (aCons (eVar 3) (aNil)))))))
noncomputable def F_law_signs : Fn := mkFn 5 B_law_signs
noncomputable def B_law_book_model : SSem := sSeq (sAsg (eLcC (iRng rg1 (aCons (eCall F_law_power (aCons (eVar 1) (aNil))) (aNil))) (gNm 7) [7] (tTrue) (eCall F_law_row_of (aCons (eVar 7) (aCons (eVar 1) (aNil))))) (gNm 3)) (sSeq (sAsg (eDct0) (gNm 4)) (sSeq (sFor (iSeq (eCall F_law_signs (aCons (eVar 0) (aCons (eN oMin2 (aCons (eVar 2) (aCons (e2 oSub (eCall F_law_power (aCons (eVar 1) (aNil))) (eC (.int 2))) (aNil)))) (aNil))))) (gNm 5) (sSub uDct (eM isLst mPopAt (eVar 3) (aCons (eCall F_law_draw (aCons (eVar 0) (aCons (eN oLen (aCons (eVar 3) (aNil))) (aNil)))) (aNil))) (eVar 4) (eVar 5))) (sSeq (sAsg (eM isLst mPopAt (eVar 3) (aCons (eCall F_law_draw (aCons (eVar 0) (aCons (eN oLen (aCons (eVar 3) (aNil))) (aNil)))) (aNil))) (gNm 6)) (sRet (eN oLst (aCons (eVar 4) (aCons (eVar 6) (aCons (eM isLst mPopAt (eVar 3) (aCons (eCall F_law_draw (aCons (eVar 0) (aCons (eN oLen (aCons (eVar 3) (aNil))) (aNil)))) (aNil))) (aNil)))))))))
noncomputable def F_law_book_model : Fn := mkFnA 8 B_law_book_model
noncomputable def B_law_drawn_book : SSem := sSeq (sAsg (e2 oIx (eN oLst (aCons (eC (.int 2)) (aCons (eC (.int 2)) (aCons (eC (.int 3)) (aCons (eC (.int 3)) (aCons (eC (.int 4)) (aCons (eC (.int 6)) (aNil)))))))) (eCall F_law_draw (aCons (eVar 0) (aCons (eC (.int 6)) (aNil))))) (gNm 1)) (sSeq (sAsg (e2 oIx (eN oLst (aCons (eC (.int 1)) (aCons (eC (.int 2)) (aCons (eC (.int 2)) (aCons (eC (.int 3)) (aCons (eC (.int 6)) (aCons (eC (.int 10)) (aNil)))))))) (eCall F_law_draw (aCons (eVar 0) (aCons (eC (.int 6)) (aNil))))) (gNm 2)) (sRet (eCall F_law_book_model (aCons (eVar 0) (aCons (eVar 1) (aCons (eVar 2) (aNil)))))))
noncomputable def F_law_drawn_book : Fn := mkFnA 3 B_law_drawn_book
noncomputable def B_law_pool : SSem := sSeq (sAsg (eC (.int 31)) (gNm 1)) (sSeq (sFor (iSeq (eSl (eVar 0) (pNo) (pYes (eC (.int 63))))) (gNm 2) (sAsg (e2 oMod (eN oInt (aCons (e2 oAdd (e2 oAdd (e2 oMul (eVar 1) (eC (.int 53))) (eVar 2)) (eC (.int 17))) (aNil))) (eC (.int 2147483629))) (gNm 1))) (sRet (eN oCell (aCons (eN oList (aCons (eSl (eVar 0) (pNo) (pYes (eC (.int 63)))) (aNil))) (aCons (eC (.int 0)) (aCons (eC (.int 0)) (aCons (eC (.int 0)) (aCons (eVar 1) (aNil)))))))))
noncomputable def F_law_pool : Fn := mkFnC 3 B_law_pool
noncomputable def B_Book_all_marks : SSem := sRet (e2 oAdd (eFld ["Book"] "signs" (eVar 0)) (eN oTup (aCons (eC (.str "start")) (aCons (eC (.str "stop")) (aNil)))))
noncomputable def F_Book_all_marks : Fn := mkFn 1 B_Book_all_marks
noncomputable def B_Book_pattern : SSem := sSeq (sIf (bAnd (bOf (eN oIsi (aCons (eVar 1) (aCons (eC (.ty "str")) (aNil))))) (bOf (e2 (oDIn (fun b => b)) (eVar 1) (eFld ["Book"] "_rows" (eVar 0))))) (sRet (e2 oDGet (eFld ["Book"] "_rows" (eVar 0)) (eVar 1))) (sNil)) (sSeq (sIf (bAnd (bOf (eN oIsi (aCons (eVar 1) (aCons (eC (.ty "str")) (aNil))))) (bOf (e2 oEq (eVar 1) (eC (.str "start"))))) (sRet (eFld ["Book"] "start" (eVar 0))) (sNil)) (sSeq (sIf (bAnd (bOf (eN oIsi (aCons (eVar 1) (aCons (eC (.ty "str")) (aNil))))) (bOf (e2 oEq (eVar 1) (eC (.str "stop"))))) (sRet (eFld ["Book"] "stop" (eVar 0))) (sNil)) (sRaise "NoSign" ["sign"] (aCons (eVar 1) (aNil)))))
noncomputable def F_Book_pattern : Fn := mkFn 2 B_Book_pattern
noncomputable def B_check_row : SSem := sIf (bNot (bOf (eCall F_is_row (aCons (eVar 0) (aNil))))) (sRaise "BadRow" ["part"] (aCons (eVar 1) (aNil))) (sNil)
noncomputable def F_check_row : Fn := mkFn 2 B_check_row
noncomputable def B_apart : SSem := sSeq (sExp (eCall F_check_row (aCons (eVar 0) (aCons (eC (.str "one")) (aNil))))) (sSeq (sExp (eCall F_check_row (aCons (eVar 1) (aCons (eC (.str "other")) (aNil))))) (sSeq (sIf (bOf (e2 oNe (eN oLen (aCons (eVar 0) (aNil))) (eN oLen (aCons (eVar 1) (aNil))))) (sRaise "BadRow" ["part"] (aCons (eC (.str "length")) (aNil))) (sNil)) (sRet (eN oLen (aCons (eLc (iRng rg1 (aCons (eN oLen (aCons (eVar 0) (aNil))) (aNil))) (gNm 2) [2] (bOf (e2 oNe (e2 oIx (eVar 0) (eVar 2)) (e2 oIx (eVar 1) (eVar 2)))) (eVar 2)) (aNil))))))
noncomputable def F_apart : Fn := mkFn 3 B_apart
noncomputable def B_nearest : SSem := sSeq (sIf (bNot (bOf (eCall F_is_row_of (aCons (eVar 1) (aCons (eFld ["Book"] "width" (eVar 0)) (aNil)))))) (sRaise "BadRow" ["part"] (aCons (eC (.str "row")) (aNil))) (sNil)) (sSeq (sAsg (eLc (iSeq (eMeth "Book" "all_marks" F_Book_all_marks (eVar 0) aNil)) (gNm 3) [3] (tTrue) (eCall F_apart (aCons (eMeth "Book" "pattern" F_Book_pattern (eVar 0) (aCons (eVar 3) (aNil))) (aCons (eVar 1) (aNil))))) (gNm 2)) (sRet (eLcC (iZipM (aCons (eMeth "Book" "all_marks" F_Book_all_marks (eVar 0) aNil) (aCons (eVar 2) (aNil)))) (gTl 2 (gsCons (gNm 3) (gsCons (gNm 4) (gsNil)))) [3, 4] (bOf (e2 oEq (eVar 4) (eN (oBestX IsMin) (aCons (eVar 2) (aNil))))) (eVar 3))))
noncomputable def F_nearest : Fn := mkFnC 5 B_nearest
noncomputable def B_law_refused : SSem := sSeq (sAsg (eC (.str "told")) (gNm 2)) (sSeq (sTry exT (sExp (eCall F_nearest (aCons (eVar 0) (aCons (eVar 1) (aNil))))) [⟨"BadRow", some 3, fun x => sAsg (eXf x "BadRow" "part") (gNm 2)⟩, ⟨"LabelError", none, fun x => sAsg (eC (.str "other")) (gNm 2)⟩]) (sRet (eVar 2)))
noncomputable def F_law_refused : Fn := mkFn 4 B_law_refused
noncomputable def B_law_row : SSem := sRet (eN oTuple (aCons (eLc (iRng rg1 (aCons (eVar 1) (aNil))) (gNm 2) [2] (tTrue) (eCall F_law_draw (aCons (eVar 0) (aCons (eC (.int 2)) (aNil))))) (aNil)))
noncomputable def F_law_row : Fn := mkFn 3 B_law_row
noncomputable def B_law_same (R : Fn) : SSem := sSeq (sIf (bOf (e2 oIs (eVar 1) (eC .non))) (sRet (e2 oIs (eVar 0) (eC .non))) (sNil)) (sSeq (sIf (bOr (bOf (eN oIsi (aCons (eVar 1) (aCons (eC (.ty "bool")) (aNil))))) (bOf (eN oIsi (aCons (eVar 0) (aCons (eC (.ty "bool")) (aNil)))))) (sRet (eAnd (eN oIsi (aCons (eVar 1) (aCons (eC (.ty "bool")) (aNil)))) (eAnd (eN oIsi (aCons (eVar 0) (aCons (eC (.ty "bool")) (aNil)))) (e2 oEq (eVar 0) (eVar 1))))) (sNil)) (sSeq (sIf (bOf (eN oIsi (aCons (eVar 1) (aCons (eC (.ty "int")) (aNil))))) (sRet (eAnd (eN oIsi (aCons (eVar 0) (aCons (eC (.ty "int")) (aNil)))) (e2 oEq (eVar 0) (eVar 1)))) (sNil)) (sSeq (sIf (bOf (eN oIsi (aCons (eVar 1) (aCons (eC (.ty "str")) (aNil))))) (sRet (eAnd (eN oIsi (aCons (eVar 0) (aCons (eC (.ty "str")) (aNil)))) (e2 oEq (eVar 0) (eVar 1)))) (sNil)) (sSeq (sIf (bOr (bOf (e2 oNe (eN oIsi (aCons (eVar 1) (aCons (eC (.ty "list")) (aNil)))) (eN oIsi (aCons (eVar 0) (aCons (eC (.ty "list")) (aNil)))))) (bNot (bOf (eN oIsi (aCons (eVar 0) (aCons (eN oTup (aCons (eC (.ty "list")) (aCons (eC (.ty "tuple")) (aNil)))) (aNil))))))) (sRet (eC (.bl false))) (sNil)) (sSeq (sIf (bOf (e2 oNe (eN oLen (aCons (eVar 0) (aNil))) (eN oLen (aCons (eVar 1) (aNil))))) (sRet (eC (.bl false))) (sNil)) (sRet (e2 oEq (eN oLen (aCons (eLc (iRng rg1 (aCons (eN oLen (aCons (eVar 1) (aNil))) (aNil))) (gNm 2) [2] (bNot (bOf (eCall (R) (aCons (e2 oIx (eVar 0) (eVar 2)) (aCons (e2 oIx (eVar 1) (eVar 2)) (aNil)))))) (eVar 2)) (aNil))) (eC (.int 0)))))))))
noncomputable def F_law_same : Nat → Fn
  | 0 => mkFn 3 (fun _ _ => .bad)
  | d + 1 => mkFn 3 (B_law_same (F_law_same d))
noncomputable def B_least_apart : SSem := sSeq (sAsg (eMeth "Book" "all_marks" F_Book_all_marks (eVar 0) aNil) (gNm 1)) (sSeq (sAsg (eC .non) (gNm 2)) (sSeq (sFor (iEn (aCons (eVar 1) (aNil))) (gTl 2 (gsCons (gNm 3) (gsCons (gNm 4) (gsNil)))) (sFor (iSeq (eSl (eVar 1) (pYes (e2 oAdd (eVar 3) (eC (.int 1)))) (pNo))) (gNm 5) (sSeq (sAsg (eCall F_apart (aCons (eMeth "Book" "pattern" F_Book_pattern (eVar 0) (aCons (eVar 4) (aNil))) (aCons (eMeth "Book" "pattern" F_Book_pattern (eVar 0) (aCons (eVar 5) (aNil))) (aNil)))) (gNm 6)) (sIf (bOr (bOf (e2 oIs (eVar 2) (eC .non))) (bOf (e2 oLt (eVar 6) (e2 oIx (eVar 2) (eC (.int 0)))))) (sAsg (eN oTup (aCons (eVar 6) (aCons (eVar 4) (aCons (eVar 5) (aNil))))) (gNm 2)) (sNil))))) (sRet (eVar 2))))
noncomputable def F_least_apart : Fn := mkFn 7 B_least_apart
noncomputable def B_law : SSem := sSeq (sAsg (eCall F_law_pool (aCons (eVar 0) (aNil))) (gNm 1)) (sSeq (sAsg (eCall F_law_drawn_book (aCons (eVar 1) (aNil))) (gNm 2)) (sSeq (sAsg (eCall F_law_book (aCons (eVar 2) (aNil))) (gNm 3)) (sSeq (sAsg (eN oLen (aCons (e2 oIx (eVar 2) (eC (.int 1))) (aNil))) (gNm 4)) (sSeq (sAsg (e2 oAdd (eN oSortS (aCons (eN oListD (aCons (e2 oIx (eVar 2) (eC (.int 0))) (aNil))) (aNil))) (eN oLst (aCons (eC (.str "start")) (aCons (eC (.str "stop")) (aNil))))) (gNm 5)) (sSeq (sAsg (e2 oAdd (eLc (iSeq (eSl (eVar 5) (pNo) (pYes (e2 oSub (eN oLen (aCons (eVar 5) (aNil))) (eC (.int 2)))))) (gNm 19) [19] (tTrue) (e2 oDGet (e2 oIx (eVar 2) (eC (.int 0))) (eVar 19))) (eN oLst (aCons (e2 oIx (eVar 2) (eC (.int 1))) (aCons (e2 oIx (eVar 2) (eC (.int 2))) (aNil))))) (gNm 6)) (sSeq (sAsg (eC .non) (gNm 7)) (sSeq (sFor (iRng rg1 (aCons (eN oLen (aCons (eVar 6) (aNil))) (aNil))) (gNm 8) (sFor (iRng rg2 (aCons (e2 oAdd (eVar 8) (eC (.int 1))) (aCons (eN oLen (aCons (eVar 6) (aNil))) (aNil)))) (gNm 13) (sSeq (sAsg (eCall F_law_count (aCons (e2 oIx (eVar 6) (eVar 8)) (aCons (e2 oIx (eVar 6) (eVar 13)) (aNil)))) (gNm 17)) (sIf (bOr (bOf (e2 oIs (eVar 7) (eC .non))) (bOf (e2 oLt (eVar 17) (e2 oIx (eVar 7) (eC (.int 0)))))) (sAsg (eN oTup (aCons (eVar 17) (aCons (e2 oIx (eVar 5) (eVar 8)) (aCons (e2 oIx (eVar 5) (eVar 13)) (aNil))))) (gNm 7)) (sNil))))) (sSeq (sIf (bNot (bOf (eCall (F_law_same 6) (aCons (eCall F_least_apart (aCons (eVar 3) (aNil))) (aCons (eVar 7) (aNil)))))) (sRet (eC (.bl false))) (sNil)) (sSeq (sAsg (eLc (iRng rg1 (aCons (eC (.int 20)) (aNil))) (gNm 18) [18] (tTrue) (eCall F_law_row (aCons (eVar 1) (aCons (eVar 4) (aNil))))) (gNm 9)) (sSeq (sIf (bOf (e2 oLe (eVar 4) (eC (.int 4)))) (sAsg (eLc (iRng rg1 (aCons (e2 oIx (eN oLst (aCons (eC (.int 4)) (aCons (eC (.int 8)) (aCons (eC (.int 16)) (aNil))))) (e2 oSub (eVar 4) (eC (.int 2)))) (aNil))) (gNm 20) [20] (tTrue) (eCall F_law_row_of (aCons (eVar 20) (aCons (eVar 4) (aNil))))) (gNm 9)) (sNil)) (sSeq (sFor (iSeq (eVar 9)) (gNm 10) (sSeq (sAsg (eLc (iSeq (eVar 6)) (gNm 13) [13] (tTrue) (eCall F_law_count (aCons (eVar 10) (aCons (eVar 13) (aNil))))) (gNm 14)) (sSeq (sAsg (eLc (iRng rg1 (aCons (eN oLen (aCons (eVar 5) (aNil))) (aNil))) (gNm 11) [11] (bOf (e2 oEq (e2 oIx (eVar 14) (eVar 11)) (eN (oBestX IsMin) (aCons (eVar 14) (aNil))))) (e2 oIx (eVar 5) (eVar 11))) (gNm 15)) (sSeq (sAsg (eCall F_nearest (aCons (eVar 3) (aCons (eVar 10) (aNil)))) (gNm 16)) (sSeq (sIf (bNot (bOf (eCall (F_law_same 6) (aCons (eVar 16) (aCons (eVar 15) (aNil)))))) (sRet (eC (.bl false))) (sNil)) (sSeq (sExp (eM isLst mAppend (eVar 16) (aCons (eC (.str "")) (aNil)))) (sIf (bNot (bOf (eCall (F_law_same 6) (aCons (eCall F_nearest (aCons (eVar 3) (aCons (eVar 10) (aNil)))) (aCons (eVar 15) (aNil)))))) (sRet (eC (.bl false))) (sNil)))))))) (sSeq (sFor (iRng rg1 (aCons (eN oLen (aCons (eVar 5) (aNil))) (aNil))) (gNm 11) (sIf (bOf (e2 oNe (eCall F_nearest (aCons (eVar 3) (aCons (e2 oIx (eVar 6) (eVar 11)) (aNil)))) (eN oLst (aCons (e2 oIx (eVar 5) (eVar 11)) (aNil))))) (sRet (eC (.bl false))) (sNil))) (sSeq (sAsg (eN oLst (aCons (eC .non) (aCons (eN oTup (aNil)) (aCons (eC (.int 0)) (aCons (eC (.str "01")) (aCons (eN oList (aCons (e2 oIx (eVar 2) (eC (.int 1))) (aNil))) (aCons (e2 oAdd (e2 oIx (eVar 2) (eC (.int 1))) (eN oTup (aCons (eC (.int 0)) (aNil)))) (aCons (eSl (e2 oIx (eVar 2) (eC (.int 1))) (pYes (eC (.int 1))) (pNo)) (aCons (e2 oAdd (eSl (e2 oIx (eVar 2) (eC (.int 1))) (pYes (eC (.int 1))) (pNo)) (eN oTup (aCons (eC (.int 2)) (aNil)))) (aCons (e2 oAdd (eSl (e2 oIx (eVar 2) (eC (.int 1))) (pYes (eC (.int 1))) (pNo)) (eN oTup (aCons (eC (.bl true)) (aNil)))) (aNil))))))))))) (gNm 12)) (sSeq (sAsg (e2 oAdd (eVar 12) (eN oLst (aCons (e2 oAdd (eSl (e2 oIx (eVar 2) (eC (.int 1))) (pYes (eC (.int 1))) (pNo)) (eN oTup (aCons (eN oLst (aNil)) (aNil)))) (aCons (e2 oAdd (eSl (e2 oIx (eVar 2) (eC (.int 1))) (pYes (eC (.int 1))) (pNo)) (eN oTup (aCons (eCall F_law_deep aNil) (aNil)))) (aCons (eCall F_law_deep aNil) (aCons (eVar 3) (aNil))))))) (gNm 12)) (sRet (e2 oEq (eCall F_law_refused (aCons (eVar 3) (aCons (e2 oIx (eVar 12) (eCall F_law_draw (aCons (eVar 1) (aCons (eC (.int 13)) (aNil))))) (aNil)))) (eC (.str "row"))))))))))))))))))
noncomputable def F_law : Fn := mkFn 21 B_law
structure Txt (P : Program) (w : World) (K : PySem.W.Frag) (mg : Str → Option Value) (base : Heap) (C_BadBook : Addr) (C_LabelError : Addr) (C_BadRow : Addr) (C_NoSign : Addr) (C_Book : Addr) : Prop where
  n_all : mg "all" = none
  n_bool : mg "bool" = none
  n_dict : mg "dict" = none
  n_enumerate : mg "enumerate" = none
  n_int : mg "int" = none
  n_isinstance : mg "isinstance" = none
  n_len : mg "len" = none
  n_list : mg "list" = none
  n_max : mg "max" = none
  n_min : mg "min" = none
  n_range : mg "range" = none
  n_set : mg "set" = none
  n_sorted : mg "sorted" = none
  n_str : mg "str" = none
  n_tuple : mg "tuple" = none
  n_zip : mg "zip" = none
  c_MOST_SIGNS : ∃ t, mg "MOST_SIGNS" = some (.int 10 t)
  c_SIGNS : ∃ t, mg "SIGNS" = some (.str "0123456789abcdefghijklmnopqrstuvwxyz" t)
  c_START : ∃ t, mg "START" = some (.str "start" t)
  c_STOP : ∃ t, mg "STOP" = some (.str "stop" t)
  c_WIDEST_BLOCK : ∃ t, mg "WIDEST_BLOCK" = some (.int 6 t)
  g_BadBook : mg "BadBook" = some (.ref C_BadBook)
  g_LabelError : mg "LabelError" = some (.ref C_LabelError)
  g_BadRow : mg "BadRow" = some (.ref C_BadRow)
  g_NoSign : mg "NoSign" = some (.ref C_NoSign)
  g_Book : mg "Book" = some (.ref C_Book)
  k_Book : ClsC K C_Book
  nt_Book : NoTy K C_Book
  nf_Book__rows : PySem.W.findIn K (.ref C_Book) "_rows" = some none
  nf_Book_signs : PySem.W.findIn K (.ref C_Book) "signs" = some none
  nf_Book_start : PySem.W.findIn K (.ref C_Book) "start" = some none
  nf_Book_stop : PySem.W.findIn K (.ref C_Book) "stop" = some none
  nf_Book_width : PySem.W.findIn K (.ref C_Book) "width" = some none
  E_BadBook : Exc1 P w K mg base "BadBook" "part"
  E_BadRow : Exc1 P w K mg base "BadRow" "part"
  E_NoSign : Exc1 P w K mg base "NoSign" "sign"
  xf_BadRow : XfC K C_BadRow
  xn_BadRow_part : PySem.W.findIn K (.ref C_BadRow) "part" = some none
  ext : ExTOk K mg exT
section
variable {P : Program} {w : World} {K : PySem.W.Frag} {mg : Str → Option Value} {base : Heap} {C_BadBook C_LabelError C_BadRow C_NoSign C_Book : Addr}
theorem sc_is_integer : FnScope ["value"] ["value"] (defScope s_is_integer) := ⟨rfl, rfl, rfl, by decide +kernel, rfl, by decide +kernel, by decide +kernel⟩
theorem hb_is_integer (T : Txt P w K mg base C_BadBook C_LabelError C_BadRow C_NoSign C_Book) {qual : Str} {f : Addr} {cdv : Value} {A : Around} {outer : List Env} {s : Shared} {H : Hp} {E : XK} (C : Ctx (cxOf (L2.CX P w) P w K mg base ["value"] qual (defScope s_is_integer) f cdv A outer s H E) (Wish.of fun c d _ H => E c d H) 0) :
    BV (cxOf (L2.CX P w) P w K mg base ["value"] qual (defScope s_is_integer) f cdv A outer s H E) (Wish.of fun c d _ H => E c d H) (defBody s_is_integer) B_is_integer :=
  bv_one (sv_ret (ev_and (ev_callB cr_isi (os_isiI T.g_Book T.k_Book T.nt_Book) T.n_isinstance (av_cons (ev_var (i := 0)) (av_cons (ev_ty T.n_int) (av_nil)))) (ev_one (ev_not (ev_callB cr_isi (os_isiI T.g_Book T.k_Book T.nt_Book) T.n_isinstance (av_cons (ev_var (i := 0)) (av_cons (ev_ty T.n_bool) (av_nil))))))))
theorem I_is_integer (T : Txt P w K mg base C_BadBook C_LabelError C_BadRow C_NoSign C_Book) {qual : Str} {f : Addr} {fd : FuncData} (F : Fun K "is_integer" qual s_is_integer f fd) (hx : mg "is_integer" = some (.ref f)) (hB : Binds K fd ["value"] []) : FnIs P w K mg base "is_integer" 1 1 F_is_integer := fn_is lv_leave F hx hB sc_is_integer fun _ _ _ _ _ _ C => hb_is_integer T C
theorem sc_is_between : FnScope ["value", "low", "high"] ["value", "low", "high"] (defScope s_is_between) := ⟨rfl, rfl, rfl, by decide +kernel, rfl, by decide +kernel, by decide +kernel⟩
theorem hb_is_between (T : Txt P w K mg base C_BadBook C_LabelError C_BadRow C_NoSign C_Book) (I_is_integer : FnIs P w K mg base "is_integer" 1 1 F_is_integer) {qual : Str} {f : Addr} {cdv : Value} {A : Around} {outer : List Env} {s : Shared} {H : Hp} {E : XK} (C : Ctx (cxOf (L2.CX P w) P w K mg base ["value", "low", "high"] qual (defScope s_is_between) f cdv A outer s H E) (Wish.of fun c d _ H => E c d H) 1) :
    BV (cxOf (L2.CX P w) P w K mg base ["value", "low", "high"] qual (defScope s_is_between) f cdv A outer s H E) (Wish.of fun c d _ H => E c d H) (defBody s_is_between) B_is_between :=
  bv_one (sv_ret (ev_and (ev_callI I_is_integer C (by decide) (av_cons (ev_var (i := 0)) (av_nil)) (arN_cons (arN_nil))) (ev_one (ev_chain op_le op_le os_le os_le (ev_var (i := 1)) (ev_var (i := 0)) (ev_var (i := 2))))))
theorem I_is_between (T : Txt P w K mg base C_BadBook C_LabelError C_BadRow C_NoSign C_Book) (I_is_integer : FnIs P w K mg base "is_integer" 1 1 F_is_integer) {qual : Str} {f : Addr} {fd : FuncData} (F : Fun K "is_between" qual s_is_between f fd) (hx : mg "is_between" = some (.ref f)) (hB : Binds K fd ["value", "low", "high"] []) : FnIs P w K mg base "is_between" 2 3 F_is_between := fn_is lv_leave F hx hB sc_is_between fun _ _ _ _ _ _ C => hb_is_between T I_is_integer C
theorem sc_is_row : FnScope ["thing", "cell"] ["thing"] (defScope s_is_row) := ⟨rfl, rfl, rfl, by decide +kernel, rfl, by decide +kernel, by decide +kernel⟩
theorem hb_is_row (T : Txt P w K mg base C_BadBook C_LabelError C_BadRow C_NoSign C_Book) (I_is_between : FnIs P w K mg base "is_between" 2 3 F_is_between) {qual : Str} {f : Addr} {cdv : Value} {A : Around} {outer : List Env} {s : Shared} {H : Hp} {E : XK} (C : Ctx (cxOf (L2.CX P w) P w K mg base ["thing", "cell"] qual (defScope s_is_row) f cdv A outer s H E) (Wish.of fun c d _ H => E c d H) 2) :
    BV (cxOf (L2.CX P w) P w K mg base ["thing", "cell"] qual (defScope s_is_row) f cdv A outer s H E) (Wish.of fun c d _ H => E c d H) (defBody s_is_row) B_is_row :=
  bv_one (sv_ret (ev_and (ev_callB cr_isi (os_isiI T.g_Book T.k_Book T.nt_Book) T.n_isinstance (av_cons (ev_var (i := 0)) (av_cons (ev_ty T.n_tuple) (av_nil)))) (ev_one (ev_callB (cr_all C.calm) os_all T.n_all (av_cons (ev_lcG fin_lst (own := [("cell", 1)]) C.calm C.nd (iv_seq (ev_var (i := 0))) (by show blkC ["thing", "cell"] (defScope s_is_row) _ _ = true; decide +kernel) (by decide) (fun _ h => nomatch h) (fun _ _ _ _ _ => gv_nm (i := 1) C.nd) (fun _ _ _ _ _ => tv_ifs0) (fun s H C1 cl fp => ev_blk C (fun C => ev_callI I_is_between C (by decide) (av_cons (ev_var (i := 1)) (av_cons (ev_int) (av_cons (ev_int) (av_nil)))) (arN_cons (arN_cons (arN_cons (arN_nil))))))) (av_nil))))))
theorem I_is_row (T : Txt P w K mg base C_BadBook C_LabelError C_BadRow C_NoSign C_Book) (I_is_between : FnIs P w K mg base "is_between" 2 3 F_is_between) {qual : Str} {f : Addr} {fd : FuncData} (F : Fun K "is_row" qual s_is_row f fd) (hx : mg "is_row" = some (.ref f)) (hB : Binds K fd ["thing"] []) : FnIs P w K mg base "is_row" 3 1 F_is_row := fn_is lv_leave F hx hB sc_is_row fun _ _ _ _ _ _ C => hb_is_row T I_is_between C
theorem sc_is_sign : FnScope ["value"] ["value"] (defScope s_is_sign) := ⟨rfl, rfl, rfl, by decide +kernel, rfl, by decide +kernel, by decide +kernel⟩
theorem hb_is_sign (T : Txt P w K mg base C_BadBook C_LabelError C_BadRow C_NoSign C_Book) {qual : Str} {f : Addr} {cdv : Value} {A : Around} {outer : List Env} {s : Shared} {H : Hp} {E : XK} (C : Ctx (cxOf (L2.CX P w) P w K mg base ["value"] qual (defScope s_is_sign) f cdv A outer s H E) (Wish.of fun c d _ H => E c d H) 0) :
    BV (cxOf (L2.CX P w) P w K mg base ["value"] qual (defScope s_is_sign) f cdv A outer s H E) (Wish.of fun c d _ H => E c d H) (defBody s_is_sign) B_is_sign :=
  bv_one (sv_ret (ev_and (ev_callB cr_isi os_isi T.n_isinstance (av_cons (ev_var (i := 0)) (av_cons (ev_ty T.n_str) (av_nil)))) (ev_and (ev_cmp (op_eqD C.room.units) os_eq (ev_callB cr_len os_len T.n_len (av_cons (ev_var (i := 0)) (av_nil))) (ev_int) (nomark _)) (ev_one (ev_cmp (or_in (rm65 C.room)) os_in (ev_var (i := 0)) (ev_gS T.c_SIGNS) (by rfl))))))
theorem I_is_sign (T : Txt P w K mg base C_BadBook C_LabelError C_BadRow C_NoSign C_Book) {qual : Str} {f : Addr} {fd : FuncData} (F : Fun K "is_sign" qual s_is_sign f fd) (hx : mg "is_sign" = some (.ref f)) (hB : Binds K fd ["value"] []) : FnIs P w K mg base "is_sign" 1 1 F_is_sign := fn_is lv_leave F hx hB sc_is_sign fun _ _ _ _ _ _ C => hb_is_sign T C
theorem sc_are_patterns : FnScope ["value", "widths", "sign", "row"] ["value"] (defScope s_are_patterns) := ⟨rfl, rfl, rfl, by decide +kernel, rfl, by decide +kernel, by decide +kernel⟩
theorem hb_are_patterns (T : Txt P w K mg base C_BadBook C_LabelError C_BadRow C_NoSign C_Book) (I_is_row : FnIs P w K mg base "is_row" 3 1 F_is_row) (I_is_sign : FnIs P w K mg base "is_sign" 1 1 F_is_sign) {qual : Str} {f : Addr} {cdv : Value} {A : Around} {outer : List Env} {s : Shared} {H : Hp} {E : XK} (C : Ctx (cxOf (L2.CX P w) P w K mg base ["value", "widths", "sign", "row"] qual (defScope s_are_patterns) f cdv A outer s H E) (Wish.of fun c d _ H => E c d H) 3) :
    BV (cxOf (L2.CX P w) P w K mg base ["value", "widths", "sign", "row"] qual (defScope s_are_patterns) f cdv A outer s H E) (Wish.of fun c d _ H => E c d H) (defBody s_are_patterns) B_are_patterns :=
  bv_cons (sv_if (tv_w (wv_or (tv_not (tv_val (ev_callB cr_isi os_isi T.n_isinstance (av_cons (ev_var (i := 0)) (av_cons (ev_ty T.n_dict) (av_nil)))))) (wv_or1 (tv_not (tv_chain op_le op_le os_le os_le (ev_int) (ev_callB cr_dlen os_dlen T.n_len (av_cons (ev_var (i := 0)) (av_nil))) (ev_gI T.c_MOST_SIGNS)))))) (bv_one (sv_ret (ev_bl))) (bv_nil)) (bv_cons (sv_set (i := 1) C.nd (ev_lstC (av_nil))) (bv_cons (sv_lockX (sv_for C (iv_items (ev_var (i := 0))) (gv_tl C.calm (gvs_cons (gv_nm (i := 2) C.nd) (gvs_cons (gv_nm (i := 3) C.nd) (gvs_nil)))) (bv_cons (sv_if (tv_w (wv_or (tv_not (tv_val (ev_callI I_is_sign C (by decide) (av_cons (ev_var (i := 2)) (av_nil)) (arN_cons (arN_nil))))) (wv_or (tv_not (tv_val (ev_callI I_is_row C (by decide) (av_cons (ev_var (i := 3)) (av_nil)) (arN_cons (arN_nil))))) (wv_or1 (tv_not (tv_chain op_le op_le os_le os_le (ev_int) (ev_callB cr_len os_len T.n_len (av_cons (ev_var (i := 3)) (av_nil))) (ev_gI T.c_WIDEST_BLOCK))))))) (bv_one (sv_ret (ev_bl))) (bv_nil)) (bv_one (sv_expr (ev_m PySem.F.plainAttrs_list PySem.F.slot_list_append PySem.F.type_list_append ty_lst mt_append os_append (ev_var (i := 1)) (av_cons (ev_callB cr_len os_len T.n_len (av_cons (ev_var (i := 3)) (av_nil))) (av_nil)))))))) (bv_one (sv_ret (ev_cmp (op_eqD C.room.units) os_eq (ev_callB (cr_minX C.calm) os_minX T.n_min (av_cons (ev_var (i := 1)) (av_nil))) (ev_callB (cr_maxX C.calm) os_maxX T.n_max (av_cons (ev_var (i := 1)) (av_nil))) (nomark _))))))
theorem I_are_patterns (T : Txt P w K mg base C_BadBook C_LabelError C_BadRow C_NoSign C_Book) (I_is_row : FnIs P w K mg base "is_row" 3 1 F_is_row) (I_is_sign : FnIs P w K mg base "is_sign" 1 1 F_is_sign) {qual : Str} {f : Addr} {fd : FuncData} (F : Fun K "are_patterns" qual s_are_patterns f fd) (hx : mg "are_patterns" = some (.ref f)) (hB : Binds K fd ["value"] []) : FnIs P w K mg base "are_patterns" 4 1 F_are_patterns := fn_is lv_leave F hx hB sc_are_patterns fun _ _ _ _ _ _ C => hb_are_patterns T I_is_row I_is_sign C
theorem sc_is_row_of : FnScope ["thing", "width"] ["thing", "width"] (defScope s_is_row_of) := ⟨rfl, rfl, rfl, by decide +kernel, rfl, by decide +kernel, by decide +kernel⟩
theorem hb_is_row_of (T : Txt P w K mg base C_BadBook C_LabelError C_BadRow C_NoSign C_Book) (I_is_row : FnIs P w K mg base "is_row" 3 1 F_is_row) {qual : Str} {f : Addr} {cdv : Value} {A : Around} {outer : List Env} {s : Shared} {H : Hp} {E : XK} (C : Ctx (cxOf (L2.CX P w) P w K mg base ["thing", "width"] qual (defScope s_is_row_of) f cdv A outer s H E) (Wish.of fun c d _ H => E c d H) 3) :
    BV (cxOf (L2.CX P w) P w K mg base ["thing", "width"] qual (defScope s_is_row_of) f cdv A outer s H E) (Wish.of fun c d _ H => E c d H) (defBody s_is_row_of) B_is_row_of :=
  bv_one (sv_ret (ev_and (ev_callI I_is_row C (by decide) (av_cons (ev_var (i := 0)) (av_nil)) (arN_cons (arN_nil))) (ev_one (ev_cmp (op_eqD C.room.units) os_eq (ev_callB cr_len os_len T.n_len (av_cons (ev_var (i := 0)) (av_nil))) (ev_var (i := 1)) (nomark _)))))
theorem I_is_row_of (T : Txt P w K mg base C_BadBook C_LabelError C_BadRow C_NoSign C_Book) (I_is_row : FnIs P w K mg base "is_row" 3 1 F_is_row) {qual : Str} {f : Addr} {fd : FuncData} (F : Fun K "is_row_of" qual s_is_row_of f fd) (hx : mg "is_row_of" = some (.ref f)) (hB : Binds K fd ["thing", "width"] []) : FnIs P w K mg base "is_row_of" 4 2 F_is_row_of := fn_is lv_leave F hx hB sc_is_row_of fun _ _ _ _ _ _ C => hb_is_row_of T I_is_row C
theorem sc_Book___init__ : FnScope ["self", "patterns", "start", "stop", "sign", "rows"] ["self", "patterns", "start", "stop"] (defScope s_Book___init__) := ⟨rfl, rfl, rfl, by decide +kernel, rfl, by decide +kernel, by decide +kernel⟩
theorem hb_Book___init__ (T : Txt P w K mg base C_BadBook C_LabelError C_BadRow C_NoSign C_Book) (I_are_patterns : FnIs P w K mg base "are_patterns" 4 1 F_are_patterns) (I_is_row_of : FnIs P w K mg base "is_row_of" 4 2 F_is_row_of) {qual : Str} {f : Addr} {cdv : Value} {A : Around} {outer : List Env} {s : Shared} {H : Hp} {E : XK} (C : Ctx (cxOf (L2.CX P w) P w K mg base ["self", "patterns", "start", "stop", "sign", "rows"] qual (defScope s_Book___init__) f cdv A outer s H E) (Wish.of fun c d _ H => E c d H) 4) :
    BV (cxOf (L2.CX P w) P w K mg base ["self", "patterns", "start", "stop", "sign", "rows"] qual (defScope s_Book___init__) f cdv A outer s H E) (Wish.of fun c d _ H => E c d H) (defBody s_Book___init__) B_Book___init__ :=
  bv_cons (sv_if (tv_not (tv_val (ev_callI I_are_patterns C (by decide) (av_cons (ev_var (i := 1)) (av_nil)) (arN_cons (arN_nil))))) (bv_one (sv_raise1 C (by decide) T.E_BadBook (av_cons (ev_str) (av_nil)))) (bv_nil)) (bv_cons (sv_fld (fldCons T.g_Book T.k_Book.cl T.nf_Book_signs fldNil) (ev_callTy call_tuple_of os_tuple T.n_tuple (av_cons (ev_callB (call_sortedD C.calm) os_sortD T.n_sorted (av_cons (ev_var (i := 1)) (av_nil))) (av_nil))) (ev_var (i := 0))) (bv_cons (sv_fld (fldCons T.g_Book T.k_Book.cl T.nf_Book_width fldNil) (ev_callB cr_len os_len T.n_len (av_cons (ev_dget C (ev_var (i := 1)) (ev_ix ix_seq os_ix (ev_fld (fldCons T.g_Book T.k_Book.cl T.nf_Book_signs fldNil) (ev_var (i := 0))) (ev_int) (fun _ _ => rfl))) (av_nil))) (ev_var (i := 0))) (bv_cons (sv_if (tv_not (tv_val (ev_callI I_is_row_of C (by decide) (av_cons (ev_var (i := 2)) (av_cons (ev_fld (fldCons T.g_Book T.k_Book.cl T.nf_Book_width fldNil) (ev_var (i := 0))) (av_nil))) (arN_cons (arN_cons (arN_nil)))))) (bv_one (sv_raise1 C (by decide) T.E_BadBook (av_cons (ev_str) (av_nil)))) (bv_nil)) (bv_cons (sv_if (tv_not (tv_val (ev_callI I_is_row_of C (by decide) (av_cons (ev_var (i := 3)) (av_cons (ev_fld (fldCons T.g_Book T.k_Book.cl T.nf_Book_width fldNil) (ev_var (i := 0))) (av_nil))) (arN_cons (arN_cons (arN_nil)))))) (bv_one (sv_raise1 C (by decide) T.E_BadBook (av_cons (ev_str) (av_nil)))) (bv_nil)) (bv_cons (sv_fld (fldCons T.g_Book T.k_Book.cl T.nf_Book_start fldNil) (ev_var (i := 2)) (ev_var (i := 0))) (bv_cons (sv_fld (fldCons T.g_Book T.k_Book.cl T.nf_Book_stop fldNil) (ev_var (i := 3)) (ev_var (i := 0))) (bv_cons (sv_fld (fldCons T.g_Book T.k_Book.cl T.nf_Book__rows fldNil) (ev_dct0) (ev_var (i := 0))) (bv_cons (sv_for C (iv_seq (ev_fld (fldCons T.g_Book T.k_Book.cl T.nf_Book_signs fldNil) (ev_var (i := 0)))) (gv_nm (i := 4) C.nd) (bv_one (sv_subD C (ev_dget C (ev_var (i := 1)) (ev_var (i := 4))) (ev_fld (fldCons T.g_Book T.k_Book.cl T.nf_Book__rows fldNil) (ev_var (i := 0))) (ev_var (i := 4))))) (bv_cons (sv_set (i := 5) C.nd (ev_op or_add os_add (ev_listV C.calm T.n_list (ev_fld (fldCons T.g_Book T.k_Book.cl T.nf_Book__rows fldNil) (ev_var (i := 0)))) (ev_lst (av_cons (ev_var (i := 2)) (av_cons (ev_var (i := 3)) (av_nil)))))) (bv_one (sv_if (tv_cmp or_lt os_lt (ev_lenSet C T.n_len T.n_set (ev_var (i := 5))) (ev_callB cr_len os_len T.n_len (av_cons (ev_var (i := 5)) (av_nil))) (nomark _)) (bv_one (sv_raise1 C (by decide) T.E_BadBook (av_cons (ev_str) (av_nil)))) (bv_nil))))))))))))
theorem MK_Book (T : Txt P w K mg base C_BadBook C_LabelError C_BadRow C_NoSign C_Book) (I_are_patterns : FnIs P w K mg base "are_patterns" 4 1 F_are_patterns) (I_is_row_of : FnIs P w K mg base "is_row_of" 4 2 F_is_row_of) {f : Addr} {fd : FuncData} (F : Fun K "__init__" "Book.__init__" s_Book___init__ f fd) (M : Mk K C_Book f) (hB : Binds K fd ["self", "patterns", "start", "stop"] []) : MkIs P w K mg base "Book" 5 3 F_Book___init__ := ⟨C_Book, f, fd, _, M, fn_okI F sc_Book___init__ rfl rfl fun _ _ _ _ _ _ C => hb_Book___init__ T I_are_patterns I_is_row_of C, T.g_Book, hB⟩
theorem sc_law_book : FnScope ["_law_model"] ["_law_model"] (defScope s_law_book) := ⟨rfl, rfl, rfl, by decide +kernel, rfl, by decide +kernel, by decide +kernel⟩
theorem hb_law_book (T : Txt P w K mg base C_BadBook C_LabelError C_BadRow C_NoSign C_Book) (MK_Book : MkIs P w K mg base "Book" 5 3 F_Book___init__) {qual : Str} {f : Addr} {cdv : Value} {A : Around} {outer : List Env} {s : Shared} {H : Hp} {E : XK} (C : Ctx (cxOf (L2.CX P w) P w K mg base ["_law_model"] qual (defScope s_law_book) f cdv A outer s H E) (Wish.of fun c d _ H => E c d H) 6) :
    BV (cxOf (L2.CX P w) P w K mg base ["_law_model"] qual (defScope s_law_book) f cdv A outer s H E) (Wish.of fun c d _ H => E c d H) (defBody s_law_book) B_law_book :=
  bv_one (sv_ret (ev_makeG lv_leave MK_Book C (by decide) (av_cons (ev_callTy call_dictD os_dictC T.n_dict (av_cons (ev_ix ix_seq os_ix (ev_var (i := 0)) (ev_int) (fun _ _ => rfl)) (av_nil))) (av_cons (ev_ix ix_seq os_ix (ev_var (i := 0)) (ev_int) (fun _ _ => rfl)) (av_cons (ev_ix ix_seq os_ix (ev_var (i := 0)) (ev_int) (fun _ _ => rfl)) (av_nil)))) (arN_cons (arN_cons (arN_cons (arN_nil))))))
theorem I_law_book (T : Txt P w K mg base C_BadBook C_LabelError C_BadRow C_NoSign C_Book) (MK_Book : MkIs P w K mg base "Book" 5 3 F_Book___init__) {qual : Str} {f : Addr} {fd : FuncData} (F : Fun K "_law_book" qual s_law_book f fd) (hx : mg "_law_book" = some (.ref f)) (hB : Binds K fd ["_law_model"] []) : FnIs P w K mg base "_law_book" 7 1 F_law_book := fn_is lv_leave F hx hB sc_law_book fun _ _ _ _ _ _ C => hb_law_book T MK_Book C
theorem sc_law_count : FnScope ["_law_one", "_law_other", "_law_at"] ["_law_one", "_law_other"] (defScope s_law_count) := ⟨rfl, rfl, rfl, by decide +kernel, rfl, by decide +kernel, by decide +kernel⟩
theorem hb_law_count (T : Txt P w K mg base C_BadBook C_LabelError C_BadRow C_NoSign C_Book) {qual : Str} {f : Addr} {cdv : Value} {A : Around} {outer : List Env} {s : Shared} {H : Hp} {E : XK} (C : Ctx (cxOf (L2.CX P w) P w K mg base ["_law_one", "_law_other", "_law_at"] qual (defScope s_law_count) f cdv A outer s H E) (Wish.of fun c d _ H => E c d H) 0) :
    BV (cxOf (L2.CX P w) P w K mg base ["_law_one", "_law_other", "_law_at"] qual (defScope s_law_count) f cdv A outer s H E) (Wish.of fun c d _ H => E c d H) (defBody s_law_count) B_law_count :=
  bv_one (sv_ret (ev_callB cr_len os_len T.n_len (av_cons (ev_lcG fin_lst (own := [("_law_at", 2)]) C.calm C.nd (iv_rng1 T.n_range (av_cons (ev_callB cr_len os_len T.n_len (av_cons (ev_var (i := 0)) (av_nil))) (av_nil))) (by show blkC ["_law_one", "_law_other", "_law_at"] (defScope s_law_count) _ _ = true; decide +kernel) (by decide) (fun _ h => nomatch h) (fun _ _ _ _ _ => gv_nm (i := 2) C.nd) (fun _ _ _ _ _ => pt_blk C (fun C => tv_ifs1 (tv_cmp (op_neD C.room.units) os_ne (ev_ix ix_seq os_ix (ev_var (i := 0)) (ev_var (i := 2)) (fun _ _ => rfl)) (ev_ix ix_seq os_ix (ev_var (i := 1)) (ev_var (i := 2)) (fun _ _ => rfl)) (nomark _)))) (fun s H C1 cl fp => ev_blk C (fun C => ev_var (i := 2)))) (av_nil))))
theorem I_law_count (T : Txt P w K mg base C_BadBook C_LabelError C_BadRow C_NoSign C_Book) {qual : Str} {f : Addr} {fd : FuncData} (F : Fun K "_law_count" qual s_law_count f fd) (hx : mg "_law_count" = some (.ref f)) (hB : Binds K fd ["_law_one", "_law_other"] []) : FnIs P w K mg base "_law_count" 1 2 F_law_count := fn_is lv_leave F hx hB sc_law_count fun _ _ _ _ _ _ C => hb_law_count T C
theorem sc_law_deep : FnScope ["_law_found", "_law_k"] [] (defScope s_law_deep) := ⟨rfl, rfl, rfl, by decide +kernel, rfl, by decide +kernel, by decide +kernel⟩
theorem hb_law_deep (T : Txt P w K mg base C_BadBook C_LabelError C_BadRow C_NoSign C_Book) {qual : Str} {f : Addr} {cdv : Value} {A : Around} {outer : List Env} {s : Shared} {H : Hp} {E : XK} (C : Ctx (cxOf (L2.CX P w) P w K mg base ["_law_found", "_law_k"] qual (defScope s_law_deep) f cdv A outer s H E) (Wish.of fun c d _ H => E c d H) 0) :
    BV (cxOf (L2.CX P w) P w K mg base ["_law_found", "_law_k"] qual (defScope s_law_deep) f cdv A outer s H E) (Wish.of fun c d _ H => E c d H) (defBody s_law_deep) B_law_deep :=
  bv_cons (sv_set (i := 0) C.nd (ev_lst (av_cons (ev_int) (av_nil)))) (bv_cons (sv_for C (iv_rng1 T.n_range (av_cons (ev_int) (av_nil))) (gv_nm (i := 1) C.nd) (bv_one (sv_set (i := 0) C.nd (ev_lst (av_cons (ev_var (i := 0)) (av_nil)))))) (bv_one (sv_ret (ev_var (i := 0)))))
theorem I_law_deep (T : Txt P w K mg base C_BadBook C_LabelError C_BadRow C_NoSign C_Book) {qual : Str} {f : Addr} {fd : FuncData} (F : Fun K "_law_deep" qual s_law_deep f fd) (hx : mg "_law_deep" = some (.ref f)) (hB : Binds K fd [] []) : FnIs P w K mg base "_law_deep" 1 0 F_law_deep := fn_is lv_leave F hx hB sc_law_deep fun _ _ _ _ _ _ C => hb_law_deep T C
theorem sc_law_draw : FnScope ["_law_pool_here", "_law_many", "_law_mixed", "_law_value", "_law_digit"] ["_law_pool_here", "_law_many"] (defScope s_law_draw) := ⟨rfl, rfl, rfl, by decide +kernel, rfl, by decide +kernel, by decide +kernel⟩
theorem hb_law_draw (T : Txt P w K mg base C_BadBook C_LabelError C_BadRow C_NoSign C_Book) {qual : Str} {f : Addr} {cdv : Value} {A : Around} {outer : List Env} {s : Shared} {H : Hp} {E : XK} (C : Ctx (cxOf (L2.CX P w) P w K mg base ["_law_pool_here", "_law_many", "_law_mixed", "_law_value", "_law_digit"] qual (defScope s_law_draw) f cdv A outer s H E) (Wish.of fun c d _ H => E c d H) 0) :
    BV (cxOf (L2.CX P w) P w K mg base ["_law_pool_here", "_law_many", "_law_mixed", "_law_value", "_law_digit"] qual (defScope s_law_draw) f cdv A outer s H E) (Wish.of fun c d _ H => E c d H) (defBody s_law_draw) B_law_draw :=
  bv_cons (sv_sub set_list os_setL (ev_op or_add os_add (ev_ix ix_seq os_ix (ev_var (i := 0)) (ev_int) (fun _ _ => rfl)) (ev_int)) (ev_var (i := 0)) (ev_int)) (bv_cons (sv_if (tv_w (wv_and (tv_cmp (op_eqD C.room.units) os_eq (ev_ix ix_seq os_ix (ev_var (i := 0)) (ev_int) (fun _ _ => rfl)) (ev_int) (nomark _)) (wv_and1 (tv_cmp or_lt os_lt (ev_ix ix_seq os_ix (ev_var (i := 0)) (ev_int) (fun _ _ => rfl)) (ev_callB cr_len os_len T.n_len (av_cons (ev_ix ix_seq os_ix (ev_var (i := 0)) (ev_int) (fun _ _ => rfl)) (av_nil))) (nomark _))))) (bv_cons (sv_set (i := 3) C.nd (ev_ix ix_seq os_ix (ev_ix ix_seq os_ix (ev_var (i := 0)) (ev_int) (fun _ _ => rfl)) (ev_ix ix_seq os_ix (ev_var (i := 0)) (ev_int) (fun _ _ => rfl)) (fun _ _ => rfl))) (bv_cons (sv_sub set_list os_setL (ev_op or_add os_add (ev_ix ix_seq os_ix (ev_var (i := 0)) (ev_int) (fun _ _ => rfl)) (ev_int)) (ev_var (i := 0)) (ev_int)) (bv_one (sv_if (tv_cmp op_ge os_ge (ev_var (i := 3)) (ev_op op_pow os_pow (ev_int) (ev_int)) (nomark _)) (bv_one (sv_sub set_list os_setL (ev_var (i := 3)) (ev_var (i := 0)) (ev_int))) (bv_one (sv_sub set_list os_setL (ev_op op_mod os_mod (ev_callTy call_int1 os_int T.n_int (av_cons (ev_op or_add os_add (ev_op or_add os_add (ev_op or_mul os_mul (ev_ix ix_seq os_ix (ev_var (i := 0)) (ev_int) (fun _ _ => rfl)) (ev_int)) (ev_var (i := 3))) (ev_int)) (av_nil))) (ev_int)) (ev_var (i := 0)) (ev_int))))))) (bv_nil)) (bv_cons (sv_if (tv_cmp op_gt os_gt (ev_ix ix_seq os_ix (ev_var (i := 0)) (ev_int) (fun _ _ => rfl)) (ev_int) (nomark _)) (bv_cons (sv_set (i := 4) C.nd (ev_op op_mod os_mod (ev_callTy call_int1 os_int T.n_int (av_cons (ev_ix ix_seq os_ix (ev_var (i := 0)) (ev_int) (fun _ _ => rfl)) (av_nil))) (ev_var (i := 1)))) (bv_cons (sv_sub set_list os_setL (ev_op op_fdivW os_div (ev_ix ix_seq os_ix (ev_var (i := 0)) (ev_int) (fun _ _ => rfl)) (ev_var (i := 1))) (ev_var (i := 0)) (ev_int)) (bv_one (sv_ret (ev_var (i := 4)))))) (bv_nil)) (bv_cons (sv_set (i := 2) C.nd (ev_op op_mod os_mod (ev_callTy call_int1 os_int T.n_int (av_cons (ev_op or_add os_add (ev_op or_add os_add (ev_op or_mul os_mul (ev_ix ix_seq os_ix (ev_var (i := 0)) (ev_int) (fun _ _ => rfl)) (ev_int)) (ev_op or_mul os_mul (ev_ix ix_seq os_ix (ev_var (i := 0)) (ev_int) (fun _ _ => rfl)) (ev_int))) (ev_int)) (av_nil))) (ev_int))) (bv_cons (sv_set (i := 2) C.nd (ev_op op_mod os_mod (ev_callTy call_int1 os_int T.n_int (av_cons (ev_op or_mul os_mul (ev_var (i := 2)) (ev_op or_add os_add (ev_op op_fdivW os_div (ev_var (i := 2)) (ev_int)) (ev_int))) (av_nil))) (ev_int))) (bv_cons (sv_set (i := 2) C.nd (ev_op op_mod os_mod (ev_callTy call_int1 os_int T.n_int (av_cons (ev_op or_mul os_mul (ev_var (i := 2)) (ev_op or_add os_add (ev_op op_fdivW os_div (ev_var (i := 2)) (ev_int)) (ev_int))) (av_nil))) (ev_int))) (bv_one (sv_ret (ev_op op_mod os_mod (ev_callTy call_int1 os_int T.n_int (av_cons (ev_op op_fdivW os_div (ev_var (i := 2)) (ev_int)) (av_nil))) (ev_var (i := 1))))))))))
theorem I_law_draw (T : Txt P w K mg base C_BadBook C_LabelError C_BadRow C_NoSign C_Book) {qual : Str} {f : Addr} {fd : FuncData} (F : Fun K "_law_draw" qual s_law_draw f fd) (hx : mg "_law_draw" = some (.ref f)) (hB : Binds K fd ["_law_pool_here", "_law_many"] []) : FnIs P w K mg base "_law_draw" 1 2 F_law_draw := fn_is lv_leave F hx hB sc_law_draw fun _ _ _ _ _ _ C => hb_law_draw T C
theorem sc_law_power : FnScope ["_law_many", "_law_found", "_law_k"] ["_law_many"] (defScope s_law_power) := ⟨rfl, rfl, rfl, by decide +kernel, rfl, by decide +kernel, by decide +kernel⟩
theorem hb_law_power (T : Txt P w K mg base C_BadBook C_LabelError C_BadRow C_NoSign C_Book) {qual : Str} {f : Addr} {cdv : Value} {A : Around} {outer : List Env} {s : Shared} {H : Hp} {E : XK} (C : Ctx (cxOf (L2.CX P w) P w K mg base ["_law_many", "_law_found", "_law_k"] qual (defScope s_law_power) f cdv A outer s H E) (Wish.of fun c d _ H => E c d H) 0) :
    BV (cxOf (L2.CX P w) P w K mg base ["_law_many", "_law_found", "_law_k"] qual (defScope s_law_power) f cdv A outer s H E) (Wish.of fun c d _ H => E c d H) (defBody s_law_power) B_law_power :=
  bv_cons (sv_set (i := 1) C.nd (ev_int)) (bv_cons (sv_for C (iv_rng1 T.n_range (av_cons (ev_var (i := 0)) (av_nil))) (gv_nm (i := 2) C.nd) (bv_one (sv_set (i := 1) C.nd (ev_op or_add os_add (ev_var (i := 1)) (ev_var (i := 1)))))) (bv_one (sv_ret (ev_var (i := 1)))))
theorem I_law_power (T : Txt P w K mg base C_BadBook C_LabelError C_BadRow C_NoSign C_Book) {qual : Str} {f : Addr} {fd : FuncData} (F : Fun K "_law_power" qual s_law_power f fd) (hx : mg "_law_power" = some (.ref f)) (hB : Binds K fd ["_law_many"] []) : FnIs P w K mg base "_law_power" 1 1 F_law_power := fn_is lv_leave F hx hB sc_law_power fun _ _ _ _ _ _ C => hb_law_power T C
theorem sc_law_row_of : FnScope ["_law_number", "_law_width", "_law_cells", "_law_k"] ["_law_number", "_law_width"] (defScope s_law_row_of) := ⟨rfl, rfl, rfl, by decide +kernel, rfl, by decide +kernel, by decide +kernel⟩
theorem hb_law_row_of (T : Txt P w K mg base C_BadBook C_LabelError C_BadRow C_NoSign C_Book) {qual : Str} {f : Addr} {cdv : Value} {A : Around} {outer : List Env} {s : Shared} {H : Hp} {E : XK} (C : Ctx (cxOf (L2.CX P w) P w K mg base ["_law_number", "_law_width", "_law_cells", "_law_k"] qual (defScope s_law_row_of) f cdv A outer s H E) (Wish.of fun c d _ H => E c d H) 0) :
    BV (cxOf (L2.CX P w) P w K mg base ["_law_number", "_law_width", "_law_cells", "_law_k"] qual (defScope s_law_row_of) f cdv A outer s H E) (Wish.of fun c d _ H => E c d H) (defBody s_law_row_of) B_law_row_of :=
  bv_cons (sv_set (i := 2) C.nd (ev_lstC (av_nil))) (bv_cons (sv_for C (iv_rng1 T.n_range (av_cons (ev_var (i := 1)) (av_nil))) (gv_nm (i := 3) C.nd) (bv_cons (sv_expr (ev_m PySem.F.plainAttrs_list PySem.F.slot_list_insert PySem.F.type_list_insert ty_lst mt_insert os_insert (ev_var (i := 2)) (av_cons (ev_int) (av_cons (ev_op op_sub os_sub (ev_var (i := 0)) (ev_op or_mul os_mul (ev_op op_fdivW os_div (ev_var (i := 0)) (ev_int)) (ev_int))) (av_nil))))) (bv_one (sv_set (i := 0) C.nd (ev_op op_fdivW os_div (ev_var (i := 0)) (ev_int)))))) (bv_one (sv_ret (ev_callTy call_tuple_of os_tuple T.n_tuple (av_cons (ev_var (i := 2)) (av_nil))))))
theorem I_law_row_of (T : Txt P w K mg base C_BadBook C_LabelError C_BadRow C_NoSign C_Book) {qual : Str} {f : Addr} {fd : FuncData} (F : Fun K "_law_row_of" qual s_law_row_of f fd) (hx : mg "_law_row_of" = some (.ref f)) (hB : Binds K fd ["_law_number", "_law_width"] []) : FnIs P w K mg base "_law_row_of" 1 2 F_law_row_of := fn_is lv_leave F hx hB sc_law_row_of fun _ _ _ _ _ _ C => hb_law_row_of T C
theorem sc_law_signs : FnScope ["_law_pool_here", "_law_many", "_law_left", "_law_found", "_law_k"] ["_law_pool_here", "_law_many"] (defScope s_law_signs) := ⟨rfl, rfl, rfl, by decide +kernel, rfl, by decide +kernel, by decide +kernel⟩
theorem hb_law_signs (T : Txt P w K mg base C_BadBook C_LabelError C_BadRow C_NoSign C_Book) (I_law_draw : FnIs P w K mg base "_law_draw" 1 2 F_law_draw) {qual : Str} {f : Addr} {cdv : Value} {A : Around} {outer : List Env} {s : Shared} {H : Hp} {E : XK} (C : Ctx (cxOf (L2.CX P w) P w K mg base ["_law_pool_here", "_law_many", "_law_left", "_law_found", "_law_k"] qual (defScope s_law_signs) f cdv A outer s H E) (Wish.of fun c d _ H => E c d H) 1) :
    BV (cxOf (L2.CX P w) P w K mg base ["_law_pool_here", "_law_many", "_law_left", "_law_found", "_law_k"] qual (defScope s_law_signs) f cdv A outer s H E) (Wish.of fun c d _ H => E c d H) (defBody s_law_signs) B_law_signs :=
  bv_cons (sv_set (i := 2) C.nd (ev_callTy (call_listS C.calm) os_listSC T.n_list (av_cons (ev_str) (av_nil)))) (bv_cons (sv_if (tv_cmp op_gt os_gt (ev_callI I_law_draw C (by decide) (av_cons (ev_var (i := 0)) (av_cons (ev_int) (av_nil))) (arN_cons (arN_cons (arN_nil)))) (ev_int) (nomark _)) (bv_one (sv_set (i := 2) C.nd (ev_callTy (call_listS C.calm) os_listSC T.n_list (av_cons (ev_str) (av_nil))))) (bv_nil)) (bv_cons (sv_set (i := 3) C.nd (ev_lstC (av_nil))) (bv_cons (sv_for C (iv_rng1 T.n_range (av_cons (ev_var (i := 1)) (av_nil))) (gv_nm (i := 4) C.nd) (bv_one (sv_expr (ev_m PySem.F.plainAttrs_list PySem.F.slot_list_append PySem.F.type_list_append ty_lst mt_append os_append (ev_var (i := 3)) (av_cons (ev_m PySem.F.plainAttrs_list PySem.F.slot_list_pop PySem.F.type_list_pop ty_lst mt_popAt os_popAt (ev_var (i := 2)) (av_cons (ev_callI I_law_draw C (by decide) (av_cons (ev_var (i := 0)) (av_cons (ev_callB cr_len os_len T.n_len (av_cons (ev_var (i := 2)) (av_nil))) (av_nil))) (arN_cons (arN_cons (arN_nil)))) (av_nil))) (av_nil)))))) (bv_one (sv_ret (ev_callB cr_sortedS os_sortS T.n_sorted (av_cons (ev_var (i := 3)) (av_nil))))))))
theorem I_law_signs (T : Txt P w K mg base C_BadBook C_LabelError C_BadRow C_NoSign C_Book) (I_law_draw : FnIs P w K mg base "_law_draw" 1 2 F_law_draw) {qual : Str} {f : Addr} {fd : FuncData} (F : Fun K "_law_signs" qual s_law_signs f fd) (hx : mg "_law_signs" = some (.ref f)) (hB : Binds K fd ["_law_pool_here", "_law_many"] []) : FnIs P w K mg base "_law_signs" 2 2 F_law_signs := fn_is lv_leave F hx hB sc_law_signs fun _ _ _ _ _ _ C => hb_law_signs T I_law_draw C
theorem sc_law_book_model : FnScope ["_law_pool_here", "_law_width", "_law_many", "_law_left", "_law_patterns", "_law_sign", "_law_start", "_law_number"] ["_law_pool_here", "_law_width", "_law_many"] (defScope s_law_book_model) := ⟨rfl, rfl, rfl, by decide +kernel, rfl, by decide +kernel, by decide +kernel⟩
theorem hb_law_book_model (T : Txt P w K mg base C_BadBook C_LabelError C_BadRow C_NoSign C_Book) (I_law_draw : FnIs P w K mg base "_law_draw" 1 2 F_law_draw) (I_law_power : FnIs P w K mg base "_law_power" 1 1 F_law_power) (I_law_row_of : FnIs P w K mg base "_law_row_of" 1 2 F_law_row_of) (I_law_signs : FnIs P w K mg base "_law_signs" 2 2 F_law_signs) {qual : Str} {f : Addr} {cdv : Value} {A : Around} {outer : List Env} {s : Shared} {H : Hp} {E : XK} (C : Ctx (cxOf (L2.CX P w) P w K mg base ["_law_pool_here", "_law_width", "_law_many", "_law_left", "_law_patterns", "_law_sign", "_law_start", "_law_number"] qual (defScope s_law_book_model) f cdv A outer s H E) (Wish.of fun c d _ H => E c d H) 2) :
    BV (cxOf (L2.CX P w) P w K mg base ["_law_pool_here", "_law_width", "_law_many", "_law_left", "_law_patterns", "_law_sign", "_law_start", "_law_number"] qual (defScope s_law_book_model) f cdv A outer s H E) (Wish.of fun c d _ H => E c d H) (defBody s_law_book_model) B_law_book_model :=
  bv_cons (sv_setLcG fin_cel (own := [("_law_number", 7)]) C.calm C.nd (iv_rng1 T.n_range (av_cons (ev_callI I_law_power C (by decide) (av_cons (ev_var (i := 1)) (av_nil)) (arN_cons (arN_nil))) (av_nil))) (by show blkC ["_law_pool_here", "_law_width", "_law_many", "_law_left", "_law_patterns", "_law_sign", "_law_start", "_law_number"] (defScope s_law_book_model) _ _ = true; decide +kernel) (by decide) (fun _ h => nomatch h) (fun _ _ _ _ _ => gv_nm (i := 7) C.nd) (fun _ _ _ _ _ => tv_ifs0) (fun s H C1 cl fp => ev_blk C (fun C => ev_callI I_law_row_of C (by decide) (av_cons (ev_var (i := 7)) (av_cons (ev_var (i := 1)) (av_nil))) (arN_cons (arN_cons (arN_nil))))) (sw_true rfl rfl rfl (by decide +kernel))) (bv_cons (sv_set (i := 4) C.nd (ev_dct0)) (bv_cons (sv_for C (iv_seq (ev_callI I_law_signs C (by decide) (av_cons (ev_var (i := 0)) (av_cons (ev_callB (call_min2 C.calm) os_min2 T.n_min (av_cons (ev_var (i := 2)) (av_cons (ev_op op_sub os_sub (ev_callI I_law_power C (by decide) (av_cons (ev_var (i := 1)) (av_nil)) (arN_cons (arN_nil))) (ev_int)) (av_nil)))) (av_nil))) (arN_cons (arN_cons (arN_nil))))) (gv_nm (i := 5) C.nd) (bv_one (sv_subD C (ev_m PySem.F.plainAttrs_list PySem.F.slot_list_pop PySem.F.type_list_pop ty_lst mt_popAt os_popAt (ev_var (i := 3)) (av_cons (ev_callI I_law_draw C (by decide) (av_cons (ev_var (i := 0)) (av_cons (ev_callB cr_len os_len T.n_len (av_cons (ev_var (i := 3)) (av_nil))) (av_nil))) (arN_cons (arN_cons (arN_nil)))) (av_nil))) (ev_var (i := 4)) (ev_var (i := 5))))) (bv_cons (sv_set (i := 6) C.nd (ev_m PySem.F.plainAttrs_list PySem.F.slot_list_pop PySem.F.type_list_pop ty_lst mt_popAt os_popAt (ev_var (i := 3)) (av_cons (ev_callI I_law_draw C (by decide) (av_cons (ev_var (i := 0)) (av_cons (ev_callB cr_len os_len T.n_len (av_cons (ev_var (i := 3)) (av_nil))) (av_nil))) (arN_cons (arN_cons (arN_nil)))) (av_nil)))) (bv_one (sv_ret (ev_lst (av_cons (ev_var (i := 4)) (av_cons (ev_var (i := 6)) (av_cons (ev_m PySem.F.plainAttrs_list PySem.F.slot_list_pop PySem.F.type_list_pop ty_lst mt_popAt os_popAt (ev_var (i := 3)) (av_cons (ev_callI I_law_draw C (by decide) (av_cons (ev_var (i := 0)) (av_cons (ev_callB cr_len os_len T.n_len (av_cons (ev_var (i := 3)) (av_nil))) (av_nil))) (arN_cons (arN_cons (arN_nil)))) (av_nil))) (av_nil))))))))))
theorem I_law_book_model (T : Txt P w K mg base C_BadBook C_LabelError C_BadRow C_NoSign C_Book) (I_law_draw : FnIs P w K mg base "_law_draw" 1 2 F_law_draw) (I_law_power : FnIs P w K mg base "_law_power" 1 1 F_law_power) (I_law_row_of : FnIs P w K mg base "_law_row_of" 1 2 F_law_row_of) (I_law_signs : FnIs P w K mg base "_law_signs" 2 2 F_law_signs) {qual : Str} {f : Addr} {fd : FuncData} (F : Fun K "_law_book_model" qual s_law_book_model f fd) (hx : mg "_law_book_model" = some (.ref f)) (hB : Binds K fd ["_law_pool_here", "_law_width", "_law_many"] []) : FnIs P w K mg base "_law_book_model" 3 3 F_law_book_model := fn_is lv_leaveA F hx hB sc_law_book_model fun _ _ _ _ _ _ C => hb_law_book_model T I_law_draw I_law_power I_law_row_of I_law_signs C
theorem sc_law_drawn_book : FnScope ["_law_pool_here", "_law_width", "_law_many"] ["_law_pool_here"] (defScope s_law_drawn_book) := ⟨rfl, rfl, rfl, by decide +kernel, rfl, by decide +kernel, by decide +kernel⟩
theorem hb_law_drawn_book (T : Txt P w K mg base C_BadBook C_LabelError C_BadRow C_NoSign C_Book) (I_law_book_model : FnIs P w K mg base "_law_book_model" 3 3 F_law_book_model) (I_law_draw : FnIs P w K mg base "_law_draw" 1 2 F_law_draw) {qual : Str} {f : Addr} {cdv : Value} {A : Around} {outer : List Env} {s : Shared} {H : Hp} {E : XK} (C : Ctx (cxOf (L2.CX P w) P w K mg base ["_law_pool_here", "_law_width", "_law_many"] qual (defScope s_law_drawn_book) f cdv A outer s H E) (Wish.of fun c d _ H => E c d H) 3) :
    BV (cxOf (L2.CX P w) P w K mg base ["_law_pool_here", "_law_width", "_law_many"] qual (defScope s_law_drawn_book) f cdv A outer s H E) (Wish.of fun c d _ H => E c d H) (defBody s_law_drawn_book) B_law_drawn_book :=
  bv_cons (sv_set (i := 1) C.nd (ev_ix ix_seq os_ix (ev_lst (av_cons (ev_int) (av_cons (ev_int) (av_cons (ev_int) (av_cons (ev_int) (av_cons (ev_int) (av_cons (ev_int) (av_nil)))))))) (ev_callI I_law_draw C (by decide) (av_cons (ev_var (i := 0)) (av_cons (ev_int) (av_nil))) (arN_cons (arN_cons (arN_nil)))) (fun _ _ => rfl))) (bv_cons (sv_set (i := 2) C.nd (ev_ix ix_seq os_ix (ev_lst (av_cons (ev_int) (av_cons (ev_int) (av_cons (ev_int) (av_cons (ev_int) (av_cons (ev_int) (av_cons (ev_int) (av_nil)))))))) (ev_callI I_law_draw C (by decide) (av_cons (ev_var (i := 0)) (av_cons (ev_int) (av_nil))) (arN_cons (arN_cons (arN_nil)))) (fun _ _ => rfl))) (bv_one (sv_ret (ev_callI I_law_book_model C (by decide) (av_cons (ev_var (i := 0)) (av_cons (ev_var (i := 1)) (av_cons (ev_var (i := 2)) (av_nil)))) (arN_cons (arN_cons (arN_cons (arN_nil))))))))
theorem I_law_drawn_book (T : Txt P w K mg base C_BadBook C_LabelError C_BadRow C_NoSign C_Book) (I_law_book_model : FnIs P w K mg base "_law_book_model" 3 3 F_law_book_model) (I_law_draw : FnIs P w K mg base "_law_draw" 1 2 F_law_draw) {qual : Str} {f : Addr} {fd : FuncData} (F : Fun K "_law_drawn_book" qual s_law_drawn_book f fd) (hx : mg "_law_drawn_book" = some (.ref f)) (hB : Binds K fd ["_law_pool_here"] []) : FnIs P w K mg base "_law_drawn_book" 4 1 F_law_drawn_book := fn_is lv_leaveA F hx hB sc_law_drawn_book fun _ _ _ _ _ _ C => hb_law_drawn_book T I_law_book_model I_law_draw C
theorem sc_law_pool : FnScope ["_law_script", "_law_seed", "_law_value"] ["_law_script"] (defScope s_law_pool) := ⟨rfl, rfl, rfl, by decide +kernel, rfl, by decide +kernel, by decide +kernel⟩
theorem hb_law_pool (T : Txt P w K mg base C_BadBook C_LabelError C_BadRow C_NoSign C_Book) {qual : Str} {f : Addr} {cdv : Value} {A : Around} {outer : List Env} {s : Shared} {H : Hp} {E : XK} (C : Ctx (cxOf (L2.CX P w) P w K mg base ["_law_script", "_law_seed", "_law_value"] qual (defScope s_law_pool) f cdv A outer s H E) (Wish.of fun c d _ H => E c d H) 0) :
    BV (cxOf (L2.CX P w) P w K mg base ["_law_script", "_law_seed", "_law_value"] qual (defScope s_law_pool) f cdv A outer s H E) (Wish.of fun c d _ H => E c d H) (defBody s_law_pool) B_law_pool :=
  bv_cons (sv_set (i := 1) C.nd (ev_int)) (bv_cons (sv_for C (iv_seq (ev_sl (ev_var (i := 0)) (ov_no) (ov_yes (ev_int)))) (gv_nm (i := 2) C.nd) (bv_one (sv_set (i := 1) C.nd (ev_op op_mod os_mod (ev_callTy call_int1 os_int T.n_int (av_cons (ev_op or_add os_add (ev_op or_add os_add (ev_op or_mul os_mul (ev_var (i := 1)) (ev_int)) (ev_var (i := 2))) (ev_int)) (av_nil))) (ev_int))))) (bv_one (sv_ret (ev_lstC (av_cons (ev_callTy call_list_of os_list T.n_list (av_cons (ev_sl (ev_var (i := 0)) (ov_no) (ov_yes (ev_int))) (av_nil))) (av_cons (ev_int) (av_cons (ev_int) (av_cons (ev_int) (av_cons (ev_var (i := 1)) (av_nil))))))))))
theorem I_law_pool (T : Txt P w K mg base C_BadBook C_LabelError C_BadRow C_NoSign C_Book) {qual : Str} {f : Addr} {fd : FuncData} (F : Fun K "_law_pool" qual s_law_pool f fd) (hx : mg "_law_pool" = some (.ref f)) (hB : Binds K fd ["_law_script"] []) : FnIs P w K mg base "_law_pool" 1 1 F_law_pool := fn_is lv_leaveC F hx hB sc_law_pool fun _ _ _ _ _ _ C => hb_law_pool T C
theorem sc_Book_all_marks : FnScope ["self"] ["self"] (defScope s_Book_all_marks) := ⟨rfl, rfl, rfl, by decide +kernel, rfl, by decide +kernel, by decide +kernel⟩
theorem hb_Book_all_marks (T : Txt P w K mg base C_BadBook C_LabelError C_BadRow C_NoSign C_Book) {qual : Str} {f : Addr} {cdv : Value} {A : Around} {outer : List Env} {s : Shared} {H : Hp} {E : XK} (C : Ctx (cxOf (L2.CX P w) P w K mg base ["self"] qual (defScope s_Book_all_marks) f cdv A outer s H E) (Wish.of fun c d _ H => E c d H) 0) :
    BV (cxOf (L2.CX P w) P w K mg base ["self"] qual (defScope s_Book_all_marks) f cdv A outer s H E) (Wish.of fun c d _ H => E c d H) (defBody s_Book_all_marks) B_Book_all_marks :=
  bv_one (sv_ret (ev_op or_add os_add (ev_fld (fldCons T.g_Book T.k_Book.cl T.nf_Book_signs fldNil) (ev_var (i := 0))) (ev_tup (av_cons (ev_gS T.c_START) (av_cons (ev_gS T.c_STOP) (av_nil))))))
theorem ME_Book_all_marks (T : Txt P w K mg base C_BadBook C_LabelError C_BadRow C_NoSign C_Book) {f : Addr} {fd : FuncData} (F : Fun K "all_marks" "Book.all_marks" s_Book_all_marks f fd) (h1 : PySem.W.findIn K (.ref C_Book) "all_marks" = some (some (.ref f))) (h2 : PySem.W.isFn K (.ref f) = true) (hB : Binds K fd ["self"] []) : MethIs P w K mg base "Book" "all_marks" 1 0 F_Book_all_marks := meth_is lv_leave F T.g_Book T.k_Book.cl h1 h2 hB sc_Book_all_marks fun _ _ _ _ _ _ C => hb_Book_all_marks T C
theorem sc_Book_pattern : FnScope ["self", "mark"] ["self", "mark"] (defScope s_Book_pattern) := ⟨rfl, rfl, rfl, by decide +kernel, rfl, by decide +kernel, by decide +kernel⟩
theorem hb_Book_pattern (T : Txt P w K mg base C_BadBook C_LabelError C_BadRow C_NoSign C_Book) {qual : Str} {f : Addr} {cdv : Value} {A : Around} {outer : List Env} {s : Shared} {H : Hp} {E : XK} (C : Ctx (cxOf (L2.CX P w) P w K mg base ["self", "mark"] qual (defScope s_Book_pattern) f cdv A outer s H E) (Wish.of fun c d _ H => E c d H) 2) :
    BV (cxOf (L2.CX P w) P w K mg base ["self", "mark"] qual (defScope s_Book_pattern) f cdv A outer s H E) (Wish.of fun c d _ H => E c d H) (defBody s_Book_pattern) B_Book_pattern :=
  bv_cons (sv_if (tv_w (wv_and (tv_val (ev_callB cr_isi os_isi T.n_isinstance (av_cons (ev_var (i := 1)) (av_cons (ev_ty T.n_str) (av_nil))))) (wv_and1 (tv_din C (ev_var (i := 1)) (ev_fld (fldCons T.g_Book T.k_Book.cl T.nf_Book__rows fldNil) (ev_var (i := 0))))))) (bv_one (sv_ret (ev_dget C (ev_fld (fldCons T.g_Book T.k_Book.cl T.nf_Book__rows fldNil) (ev_var (i := 0))) (ev_var (i := 1))))) (bv_nil)) (bv_cons (sv_if (tv_w (wv_and (tv_val (ev_callB cr_isi os_isi T.n_isinstance (av_cons (ev_var (i := 1)) (av_cons (ev_ty T.n_str) (av_nil))))) (wv_and1 (tv_cmp (op_eqD C.room.units) os_eq (ev_var (i := 1)) (ev_gS T.c_START) (nomark _))))) (bv_one (sv_ret (ev_fld (fldCons T.g_Book T.k_Book.cl T.nf_Book_start fldNil) (ev_var (i := 0))))) (bv_nil)) (bv_cons (sv_if (tv_w (wv_and (tv_val (ev_callB cr_isi os_isi T.n_isinstance (av_cons (ev_var (i := 1)) (av_cons (ev_ty T.n_str) (av_nil))))) (wv_and1 (tv_cmp (op_eqD C.room.units) os_eq (ev_var (i := 1)) (ev_gS T.c_STOP) (nomark _))))) (bv_one (sv_ret (ev_fld (fldCons T.g_Book T.k_Book.cl T.nf_Book_stop fldNil) (ev_var (i := 0))))) (bv_nil)) (bv_one (sv_raise1 C (by decide) T.E_NoSign (av_cons (ev_var (i := 1)) (av_nil))))))
theorem ME_Book_pattern (T : Txt P w K mg base C_BadBook C_LabelError C_BadRow C_NoSign C_Book) {f : Addr} {fd : FuncData} (F : Fun K "pattern" "Book.pattern" s_Book_pattern f fd) (h1 : PySem.W.findIn K (.ref C_Book) "pattern" = some (some (.ref f))) (h2 : PySem.W.isFn K (.ref f) = true) (hB : Binds K fd ["self", "mark"] []) : MethIs P w K mg base "Book" "pattern" 3 1 F_Book_pattern := meth_is lv_leave F T.g_Book T.k_Book.cl h1 h2 hB sc_Book_pattern fun _ _ _ _ _ _ C => hb_Book_pattern T C
theorem sc_check_row : FnScope ["row", "part"] ["row", "part"] (defScope s_check_row) := ⟨rfl, rfl, rfl, by decide +kernel, rfl, by decide +kernel, by decide +kernel⟩
theorem hb_check_row (T : Txt P w K mg base C_BadBook C_LabelError C_BadRow C_NoSign C_Book) (I_is_row : FnIs P w K mg base "is_row" 3 1 F_is_row) {qual : Str} {f : Addr} {cdv : Value} {A : Around} {outer : List Env} {s : Shared} {H : Hp} {E : XK} (C : Ctx (cxOf (L2.CX P w) P w K mg base ["row", "part"] qual (defScope s_check_row) f cdv A outer s H E) (Wish.of fun c d _ H => E c d H) 3) :
    BV (cxOf (L2.CX P w) P w K mg base ["row", "part"] qual (defScope s_check_row) f cdv A outer s H E) (Wish.of fun c d _ H => E c d H) (defBody s_check_row) B_check_row :=
  bv_one (sv_if (tv_not (tv_val (ev_callI I_is_row C (by decide) (av_cons (ev_var (i := 0)) (av_nil)) (arN_cons (arN_nil))))) (bv_one (sv_raise1 C (by decide) T.E_BadRow (av_cons (ev_var (i := 1)) (av_nil)))) (bv_nil))
theorem I_check_row (T : Txt P w K mg base C_BadBook C_LabelError C_BadRow C_NoSign C_Book) (I_is_row : FnIs P w K mg base "is_row" 3 1 F_is_row) {qual : Str} {f : Addr} {fd : FuncData} (F : Fun K "check_row" qual s_check_row f fd) (hx : mg "check_row" = some (.ref f)) (hB : Binds K fd ["row", "part"] []) : FnIs P w K mg base "check_row" 4 2 F_check_row := fn_is lv_leave F hx hB sc_check_row fun _ _ _ _ _ _ C => hb_check_row T I_is_row C
theorem sc_apart : FnScope ["one", "other", "at"] ["one", "other"] (defScope s_apart) := ⟨rfl, rfl, rfl, by decide +kernel, rfl, by decide +kernel, by decide +kernel⟩
theorem hb_apart (T : Txt P w K mg base C_BadBook C_LabelError C_BadRow C_NoSign C_Book) (I_check_row : FnIs P w K mg base "check_row" 4 2 F_check_row) {qual : Str} {f : Addr} {cdv : Value} {A : Around} {outer : List Env} {s : Shared} {H : Hp} {E : XK} (C : Ctx (cxOf (L2.CX P w) P w K mg base ["one", "other", "at"] qual (defScope s_apart) f cdv A outer s H E) (Wish.of fun c d _ H => E c d H) 4) :
    BV (cxOf (L2.CX P w) P w K mg base ["one", "other", "at"] qual (defScope s_apart) f cdv A outer s H E) (Wish.of fun c d _ H => E c d H) (defBody s_apart) B_apart :=
  bv_cons (sv_expr (ev_callI I_check_row C (by decide) (av_cons (ev_var (i := 0)) (av_cons (ev_str) (av_nil))) (arN_cons (arN_cons (arN_nil))))) (bv_cons (sv_expr (ev_callI I_check_row C (by decide) (av_cons (ev_var (i := 1)) (av_cons (ev_str) (av_nil))) (arN_cons (arN_cons (arN_nil))))) (bv_cons (sv_if (tv_cmp (op_neD C.room.units) os_ne (ev_callB cr_len os_len T.n_len (av_cons (ev_var (i := 0)) (av_nil))) (ev_callB cr_len os_len T.n_len (av_cons (ev_var (i := 1)) (av_nil))) (nomark _)) (bv_one (sv_raise1 C (by decide) T.E_BadRow (av_cons (ev_str) (av_nil)))) (bv_nil)) (bv_one (sv_ret (ev_callB cr_len os_len T.n_len (av_cons (ev_lcG fin_lst (own := [("at", 2)]) C.calm C.nd (iv_rng1 T.n_range (av_cons (ev_callB cr_len os_len T.n_len (av_cons (ev_var (i := 0)) (av_nil))) (av_nil))) (by show blkC ["one", "other", "at"] (defScope s_apart) _ _ = true; decide +kernel) (by decide) (fun _ h => nomatch h) (fun _ _ _ _ _ => gv_nm (i := 2) C.nd) (fun _ _ _ _ _ => pt_blk C (fun C => tv_ifs1 (tv_cmp (op_neD C.room.units) os_ne (ev_ix ix_seq os_ix (ev_var (i := 0)) (ev_var (i := 2)) (fun _ _ => rfl)) (ev_ix ix_seq os_ix (ev_var (i := 1)) (ev_var (i := 2)) (fun _ _ => rfl)) (nomark _)))) (fun s H C1 cl fp => ev_blk C (fun C => ev_var (i := 2)))) (av_nil)))))))
theorem I_apart (T : Txt P w K mg base C_BadBook C_LabelError C_BadRow C_NoSign C_Book) (I_check_row : FnIs P w K mg base "check_row" 4 2 F_check_row) {qual : Str} {f : Addr} {fd : FuncData} (F : Fun K "apart" qual s_apart f fd) (hx : mg "apart" = some (.ref f)) (hB : Binds K fd ["one", "other"] []) : FnIs P w K mg base "apart" 5 2 F_apart := fn_is lv_leave F hx hB sc_apart fun _ _ _ _ _ _ C => hb_apart T I_check_row C
theorem sc_nearest : FnScope ["book", "row", "counts", "mark", "many"] ["book", "row"] (defScope s_nearest) := ⟨rfl, rfl, rfl, by decide +kernel, rfl, by decide +kernel, by decide +kernel⟩
theorem hb_nearest (T : Txt P w K mg base C_BadBook C_LabelError C_BadRow C_NoSign C_Book) (ME_Book_all_marks : MethIs P w K mg base "Book" "all_marks" 1 0 F_Book_all_marks) (ME_Book_pattern : MethIs P w K mg base "Book" "pattern" 3 1 F_Book_pattern) (I_apart : FnIs P w K mg base "apart" 5 2 F_apart) (I_is_row_of : FnIs P w K mg base "is_row_of" 4 2 F_is_row_of) {qual : Str} {f : Addr} {cdv : Value} {A : Around} {outer : List Env} {s : Shared} {H : Hp} {E : XK} (C : Ctx (cxOf (L2.CX P w) P w K mg base ["book", "row", "counts", "mark", "many"] qual (defScope s_nearest) f cdv A outer s H E) (Wish.of fun c d _ H => E c d H) 5) :
    BV (cxOf (L2.CX P w) P w K mg base ["book", "row", "counts", "mark", "many"] qual (defScope s_nearest) f cdv A outer s H E) (Wish.of fun c d _ H => E c d H) (defBody s_nearest) B_nearest :=
  bv_cons (sv_if (tv_not (tv_val (ev_callI I_is_row_of C (by decide) (av_cons (ev_var (i := 1)) (av_cons (ev_fld (fldCons T.g_Book T.k_Book.cl T.nf_Book_width fldNil) (ev_var (i := 0))) (av_nil))) (arN_cons (arN_cons (arN_nil)))))) (bv_one (sv_raise1 C (by decide) T.E_BadRow (av_cons (ev_str) (av_nil)))) (bv_nil)) (bv_cons (sv_set (i := 2) C.nd (ev_lcG fin_lst (own := [("mark", 3)]) C.calm C.nd (iv_seq (ev_meth0 ME_Book_all_marks C (by decide) (ev_var (i := 0)))) (by show blkC ["book", "row", "counts", "mark", "many"] (defScope s_nearest) _ _ = true; decide +kernel) (by decide) (fun _ h => nomatch h) (fun _ _ _ _ _ => gv_nm (i := 3) C.nd) (fun _ _ _ _ _ => tv_ifs0) (fun s H C1 cl fp => ev_blk C (fun C => ev_callI I_apart C (by decide) (av_cons (ev_meth ME_Book_pattern C (by decide) (ev_var (i := 0)) (av_cons (ev_var (i := 3)) (av_nil)) (arN_cons (arN_nil))) (av_cons (ev_var (i := 1)) (av_nil))) (arN_cons (arN_cons (arN_nil))))))) (bv_one (sv_ret (ev_lcG fin_cel (own := [("mark", 3), ("many", 4)]) C.calm C.nd (iv_zipM T.n_zip (av_cons (ev_meth0 ME_Book_all_marks C (by decide) (ev_var (i := 0))) (av_cons (ev_var (i := 2)) (av_nil)))) (by show blkC ["book", "row", "counts", "mark", "many"] (defScope s_nearest) _ _ = true; decide +kernel) (by decide) (fun _ h => nomatch h) (fun _ _ _ _ _ => gv_tl C.calm (gvs_cons (gv_nm (i := 3) C.nd) (gvs_cons (gv_nm (i := 4) C.nd) (gvs_nil)))) (fun _ _ _ _ _ => pt_blk C (fun C => tv_ifs1 (tv_cmp (op_eqD C.room.units) os_eq (ev_var (i := 4)) (ev_callB (cr_minX C.calm) os_minX T.n_min (av_cons (ev_var (i := 2)) (av_nil))) (nomark _)))) (fun s H C1 cl fp => ev_blk C (fun C => ev_var (i := 3)))))))
theorem I_nearest (T : Txt P w K mg base C_BadBook C_LabelError C_BadRow C_NoSign C_Book) (ME_Book_all_marks : MethIs P w K mg base "Book" "all_marks" 1 0 F_Book_all_marks) (ME_Book_pattern : MethIs P w K mg base "Book" "pattern" 3 1 F_Book_pattern) (I_apart : FnIs P w K mg base "apart" 5 2 F_apart) (I_is_row_of : FnIs P w K mg base "is_row_of" 4 2 F_is_row_of) {qual : Str} {f : Addr} {fd : FuncData} (F : Fun K "nearest" qual s_nearest f fd) (hx : mg "nearest" = some (.ref f)) (hB : Binds K fd ["book", "row"] []) : FnIs P w K mg base "nearest" 6 2 F_nearest := fn_is lv_leaveC F hx hB sc_nearest fun _ _ _ _ _ _ C => hb_nearest T ME_Book_all_marks ME_Book_pattern I_apart I_is_row_of C
theorem sc_law_refused : FnScope ["_law_book_here", "_law_row_here", "_law_told", "e"] ["_law_book_here", "_law_row_here"] (defScope s_law_refused) := ⟨rfl, rfl, rfl, by decide +kernel, rfl, by decide +kernel, by decide +kernel⟩
theorem hb_law_refused (T : Txt P w K mg base C_BadBook C_LabelError C_BadRow C_NoSign C_Book) (I_nearest : FnIs P w K mg base "nearest" 6 2 F_nearest) {qual : Str} {f : Addr} {cdv : Value} {A : Around} {outer : List Env} {s : Shared} {H : Hp} {E : XK} (C : Ctx (cxOf (L2.CX P w) P w K mg base ["_law_book_here", "_law_row_here", "_law_told", "e"] qual (defScope s_law_refused) f cdv A outer s H E) (Wish.of fun c d _ H => E c d H) 6) :
    BV (cxOf (L2.CX P w) P w K mg base ["_law_book_here", "_law_row_here", "_law_told", "e"] qual (defScope s_law_refused) f cdv A outer s H E) (Wish.of fun c d _ H => E c d H) (defBody s_law_refused) B_law_refused :=
  bv_cons (sv_set (i := 2) C.nd (ev_str)) (bv_cons (sv_try C T.ext rfl rfl (fun W pl xe C => bv_one (sv_expr (ev_callI I_nearest C (by decide) (av_cons (ev_var (i := 0)) (av_cons (ev_var (i := 1)) (av_nil))) (arN_cons (arN_cons (arN_nil)))))) (.as (i := 3) rfl (by decide) T.g_BadRow rfl rfl List.not_mem_nil (fun a ob cls d pl x hz hf => bv_one (sv_set (i := 2) C.nd (ev_xf (i := 3) T.xf_BadRow T.g_BadRow T.xn_BadRow_part hz hf rfl (Or.inl rfl)) (hk := lkS (by decide) List.not_mem_nil))) (.one rfl (by decide) T.g_LabelError (fun a ob cls d pl x hz hf => bv_one (sv_set (i := 2) C.nd (ev_str) (hk := lkN List.not_mem_nil))) (.nil)))) (bv_one (sv_ret (ev_var (i := 2)))))
theorem I_law_refused (T : Txt P w K mg base C_BadBook C_LabelError C_BadRow C_NoSign C_Book) (I_nearest : FnIs P w K mg base "nearest" 6 2 F_nearest) {qual : Str} {f : Addr} {fd : FuncData} (F : Fun K "_law_refused" qual s_law_refused f fd) (hx : mg "_law_refused" = some (.ref f)) (hB : Binds K fd ["_law_book_here", "_law_row_here"] []) : FnIs P w K mg base "_law_refused" 7 2 F_law_refused := fn_is lv_leave F hx hB sc_law_refused fun _ _ _ _ _ _ C => hb_law_refused T I_nearest C
theorem sc_law_row : FnScope ["_law_pool_here", "_law_length", "_law_k"] ["_law_pool_here", "_law_length"] (defScope s_law_row) := ⟨rfl, rfl, rfl, by decide +kernel, rfl, by decide +kernel, by decide +kernel⟩
theorem hb_law_row (T : Txt P w K mg base C_BadBook C_LabelError C_BadRow C_NoSign C_Book) (I_law_draw : FnIs P w K mg base "_law_draw" 1 2 F_law_draw) {qual : Str} {f : Addr} {cdv : Value} {A : Around} {outer : List Env} {s : Shared} {H : Hp} {E : XK} (C : Ctx (cxOf (L2.CX P w) P w K mg base ["_law_pool_here", "_law_length", "_law_k"] qual (defScope s_law_row) f cdv A outer s H E) (Wish.of fun c d _ H => E c d H) 1) :
    BV (cxOf (L2.CX P w) P w K mg base ["_law_pool_here", "_law_length", "_law_k"] qual (defScope s_law_row) f cdv A outer s H E) (Wish.of fun c d _ H => E c d H) (defBody s_law_row) B_law_row :=
  bv_one (sv_ret (ev_callTy call_tuple_of os_tuple T.n_tuple (av_cons (ev_lcG fin_lst (own := [("_law_k", 2)]) C.calm C.nd (iv_rng1 T.n_range (av_cons (ev_var (i := 1)) (av_nil))) (by show blkC ["_law_pool_here", "_law_length", "_law_k"] (defScope s_law_row) _ _ = true; decide +kernel) (by decide) (fun _ h => nomatch h) (fun _ _ _ _ _ => gv_nm (i := 2) C.nd) (fun _ _ _ _ _ => tv_ifs0) (fun s H C1 cl fp => ev_blk C (fun C => ev_callI I_law_draw C (by decide) (av_cons (ev_var (i := 0)) (av_cons (ev_int) (av_nil))) (arN_cons (arN_cons (arN_nil)))))) (av_nil))))
theorem I_law_row (T : Txt P w K mg base C_BadBook C_LabelError C_BadRow C_NoSign C_Book) (I_law_draw : FnIs P w K mg base "_law_draw" 1 2 F_law_draw) {qual : Str} {f : Addr} {fd : FuncData} (F : Fun K "_law_row" qual s_law_row f fd) (hx : mg "_law_row" = some (.ref f)) (hB : Binds K fd ["_law_pool_here", "_law_length"] []) : FnIs P w K mg base "_law_row" 2 2 F_law_row := fn_is lv_leave F hx hB sc_law_row fun _ _ _ _ _ _ C => hb_law_row T I_law_draw C
theorem sc_law_same : FnScope ["_law_actual", "_law_due", "_law_k"] ["_law_actual", "_law_due"] (defScope s_law_same) := ⟨rfl, rfl, rfl, by decide +kernel, rfl, by decide +kernel, by decide +kernel⟩
theorem hb_law_same (T : Txt P w K mg base C_BadBook C_LabelError C_BadRow C_NoSign C_Book) {R : Fn} {kr : Nat} (I_law_same : FnIs P w K mg base "_law_same" kr 2 R) {qual : Str} {f : Addr} {cdv : Value} {A : Around} {outer : List Env} {s : Shared} {H : Hp} {E : XK} (C : Ctx (cxOf (L2.CX P w) P w K mg base ["_law_actual", "_law_due", "_law_k"] qual (defScope s_law_same) f cdv A outer s H E) (Wish.of fun c d _ H => E c d H) kr) :
    BV (cxOf (L2.CX P w) P w K mg base ["_law_actual", "_law_due", "_law_k"] qual (defScope s_law_same) f cdv A outer s H E) (Wish.of fun c d _ H => E c d H) (defBody s_law_same) (B_law_same R) :=
  bv_cons (sv_if (tv_cmp or_is os_is (ev_var (i := 1)) (ev_non) (nomark _)) (bv_one (sv_ret (ev_cmp or_is os_is (ev_var (i := 0)) (ev_non) (nomark _)))) (bv_nil)) (bv_cons (sv_if (tv_w (wv_or (tv_val (ev_callB cr_isi os_isi T.n_isinstance (av_cons (ev_var (i := 1)) (av_cons (ev_ty T.n_bool) (av_nil))))) (wv_or1 (tv_val (ev_callB cr_isi os_isi T.n_isinstance (av_cons (ev_var (i := 0)) (av_cons (ev_ty T.n_bool) (av_nil)))))))) (bv_one (sv_ret (ev_and (ev_callB cr_isi os_isi T.n_isinstance (av_cons (ev_var (i := 1)) (av_cons (ev_ty T.n_bool) (av_nil)))) (ev_and (ev_callB cr_isi os_isi T.n_isinstance (av_cons (ev_var (i := 0)) (av_cons (ev_ty T.n_bool) (av_nil)))) (ev_one (ev_cmp (op_eqD C.room.units) os_eq (ev_var (i := 0)) (ev_var (i := 1)) (nomark _))))))) (bv_nil)) (bv_cons (sv_if (tv_val (ev_callB cr_isi os_isi T.n_isinstance (av_cons (ev_var (i := 1)) (av_cons (ev_ty T.n_int) (av_nil))))) (bv_one (sv_ret (ev_and (ev_callB cr_isi os_isi T.n_isinstance (av_cons (ev_var (i := 0)) (av_cons (ev_ty T.n_int) (av_nil)))) (ev_one (ev_cmp (op_eqD C.room.units) os_eq (ev_var (i := 0)) (ev_var (i := 1)) (nomark _)))))) (bv_nil)) (bv_cons (sv_if (tv_val (ev_callB cr_isi os_isi T.n_isinstance (av_cons (ev_var (i := 1)) (av_cons (ev_ty T.n_str) (av_nil))))) (bv_one (sv_ret (ev_and (ev_callB cr_isi os_isi T.n_isinstance (av_cons (ev_var (i := 0)) (av_cons (ev_ty T.n_str) (av_nil)))) (ev_one (ev_cmp (op_eqD C.room.units) os_eq (ev_var (i := 0)) (ev_var (i := 1)) (nomark _)))))) (bv_nil)) (bv_cons (sv_if (tv_w (wv_or (tv_cmp (op_neD C.room.units) os_ne (ev_callB cr_isi os_isi T.n_isinstance (av_cons (ev_var (i := 1)) (av_cons (ev_ty T.n_list) (av_nil)))) (ev_callB cr_isi os_isi T.n_isinstance (av_cons (ev_var (i := 0)) (av_cons (ev_ty T.n_list) (av_nil)))) (nomark _)) (wv_or1 (tv_not (tv_val (ev_callB cr_isi os_isi T.n_isinstance (av_cons (ev_var (i := 0)) (av_cons (ev_tup (av_cons (ev_ty T.n_list) (av_cons (ev_ty T.n_tuple) (av_nil)))) (av_nil))))))))) (bv_one (sv_ret (ev_bl))) (bv_nil)) (bv_cons (sv_if (tv_cmp (op_neD C.room.units) os_ne (ev_callB cr_len os_len T.n_len (av_cons (ev_var (i := 0)) (av_nil))) (ev_callB cr_len os_len T.n_len (av_cons (ev_var (i := 1)) (av_nil))) (nomark _)) (bv_one (sv_ret (ev_bl))) (bv_nil)) (bv_one (sv_ret (ev_cmp (op_eqD C.room.units) os_eq (ev_callB cr_len os_len T.n_len (av_cons (ev_lcG fin_lst (own := [("_law_k", 2)]) C.calm C.nd (iv_rng1 T.n_range (av_cons (ev_callB cr_len os_len T.n_len (av_cons (ev_var (i := 1)) (av_nil))) (av_nil))) (by show blkC ["_law_actual", "_law_due", "_law_k"] (defScope s_law_same) _ _ = true; decide +kernel) (by decide) (fun _ h => nomatch h) (fun _ _ _ _ _ => gv_nm (i := 2) C.nd) (fun _ _ _ _ _ => pt_blk C (fun C => tv_ifs1 (tv_not (tv_val (ev_callI I_law_same C (Nat.le_refl _) (av_cons (ev_ix ix_seq os_ix (ev_var (i := 0)) (ev_var (i := 2)) (fun _ _ => rfl)) (av_cons (ev_ix ix_seq os_ix (ev_var (i := 1)) (ev_var (i := 2)) (fun _ _ => rfl)) (av_nil))) (arN_cons (arN_cons (arN_nil)))))))) (fun s H C1 cl fp => ev_blk C (fun C => ev_var (i := 2)))) (av_nil))) (ev_int) (nomark _)))))))))
theorem I_law_same (T : Txt P w K mg base C_BadBook C_LabelError C_BadRow C_NoSign C_Book) {qual : Str} {f : Addr} {fd : FuncData} (F : Fun K "_law_same" qual s_law_same f fd) (hx : mg "_law_same" = some (.ref f)) (hB : Binds K fd ["_law_actual", "_law_due"] []) : ∀ d, FnIs P w K mg base "_law_same" (d + 1) 2 (F_law_same d)
  | 0 => fn_is lv_leave F hx hB sc_law_same fun _ _ _ _ _ _ _ => bv_bad
  | d + 1 => fn_is lv_leave F hx hB sc_law_same fun _ _ _ _ _ _ C => hb_law_same T (I_law_same T F hx hB d) C
theorem sc_least_apart : FnScope ["book", "marks", "found", "at", "one", "other", "many"] ["book"] (defScope s_least_apart) := ⟨rfl, rfl, rfl, by decide +kernel, rfl, by decide +kernel, by decide +kernel⟩
theorem hb_least_apart (T : Txt P w K mg base C_BadBook C_LabelError C_BadRow C_NoSign C_Book) (ME_Book_all_marks : MethIs P w K mg base "Book" "all_marks" 1 0 F_Book_all_marks) (ME_Book_pattern : MethIs P w K mg base "Book" "pattern" 3 1 F_Book_pattern) (I_apart : FnIs P w K mg base "apart" 5 2 F_apart) {qual : Str} {f : Addr} {cdv : Value} {A : Around} {outer : List Env} {s : Shared} {H : Hp} {E : XK} (C : Ctx (cxOf (L2.CX P w) P w K mg base ["book", "marks", "found", "at", "one", "other", "many"] qual (defScope s_least_apart) f cdv A outer s H E) (Wish.of fun c d _ H => E c d H) 5) :
    BV (cxOf (L2.CX P w) P w K mg base ["book", "marks", "found", "at", "one", "other", "many"] qual (defScope s_least_apart) f cdv A outer s H E) (Wish.of fun c d _ H => E c d H) (defBody s_least_apart) B_least_apart :=
  bv_cons (sv_set (i := 1) C.nd (ev_meth0 ME_Book_all_marks C (by decide) (ev_var (i := 0)))) (bv_cons (sv_set (i := 2) C.nd (ev_non)) (bv_cons (sv_for C (iv_enum T.n_enumerate (av_cons (ev_var (i := 1)) (av_nil))) (gv_tl C.calm (gvs_cons (gv_nm (i := 3) C.nd) (gvs_cons (gv_nm (i := 4) C.nd) (gvs_nil)))) (bv_one (sv_for C (iv_seq (ev_sl (ev_var (i := 1)) (ov_yes (ev_op or_add os_add (ev_var (i := 3)) (ev_int))) (ov_no))) (gv_nm (i := 5) C.nd) (bv_cons (sv_set (i := 6) C.nd (ev_callI I_apart C (by decide) (av_cons (ev_meth ME_Book_pattern C (by decide) (ev_var (i := 0)) (av_cons (ev_var (i := 4)) (av_nil)) (arN_cons (arN_nil))) (av_cons (ev_meth ME_Book_pattern C (by decide) (ev_var (i := 0)) (av_cons (ev_var (i := 5)) (av_nil)) (arN_cons (arN_nil))) (av_nil))) (arN_cons (arN_cons (arN_nil))))) (bv_one (sv_if (tv_w (wv_or (tv_cmp or_is os_is (ev_var (i := 2)) (ev_non) (nomark _)) (wv_or1 (tv_cmp or_lt os_lt (ev_var (i := 6)) (ev_ix ix_seq os_ix (ev_var (i := 2)) (ev_int) (fun _ _ => rfl)) (nomark _))))) (bv_one (sv_set (i := 2) C.nd (ev_tup (av_cons (ev_var (i := 6)) (av_cons (ev_var (i := 4)) (av_cons (ev_var (i := 5)) (av_nil))))))) (bv_nil))))))) (bv_one (sv_ret (ev_var (i := 2))))))
theorem I_least_apart (T : Txt P w K mg base C_BadBook C_LabelError C_BadRow C_NoSign C_Book) (ME_Book_all_marks : MethIs P w K mg base "Book" "all_marks" 1 0 F_Book_all_marks) (ME_Book_pattern : MethIs P w K mg base "Book" "pattern" 3 1 F_Book_pattern) (I_apart : FnIs P w K mg base "apart" 5 2 F_apart) {qual : Str} {f : Addr} {fd : FuncData} (F : Fun K "least_apart" qual s_least_apart f fd) (hx : mg "least_apart" = some (.ref f)) (hB : Binds K fd ["book"] []) : FnIs P w K mg base "least_apart" 6 1 F_least_apart := fn_is lv_leave F hx hB sc_least_apart fun _ _ _ _ _ _ C => hb_least_apart T ME_Book_all_marks ME_Book_pattern I_apart C
theorem sc_law : FnScope ["_law_script", "_law_pool_here", "_law_model", "_law_book_here", "_law_width", "_law_marks", "_law_rows", "_law_due", "_law_one", "_law_asked", "_law_row_here", "_law_at", "_law_wrong", "_law_other", "_law_counts", "_law_wanted", "_law_told", "_law_many", "_law_turn", "_law_mark", "_law_number"] ["_law_script"] (defScope s_law) := ⟨rfl, rfl, rfl, by decide +kernel, rfl, by decide +kernel, by decide +kernel⟩
theorem hb_law (T : Txt P w K mg base C_BadBook C_LabelError C_BadRow C_NoSign C_Book) (I_law_book : FnIs P w K mg base "_law_book" 7 1 F_law_book) (I_law_count : FnIs P w K mg base "_law_count" 1 2 F_law_count) (I_law_deep : FnIs P w K mg base "_law_deep" 1 0 F_law_deep) (I_law_draw : FnIs P w K mg base "_law_draw" 1 2 F_law_draw) (I_law_drawn_book : FnIs P w K mg base "_law_drawn_book" 4 1 F_law_drawn_book) (I_law_pool : FnIs P w K mg base "_law_pool" 1 1 F_law_pool) (I_law_refused : FnIs P w K mg base "_law_refused" 7 2 F_law_refused) (I_law_row : FnIs P w K mg base "_law_row" 2 2 F_law_row) (I_law_row_of : FnIs P w K mg base "_law_row_of" 1 2 F_law_row_of) (I_law_same : FnIs P w K mg base "_law_same" 7 2 (F_law_same 6)) (I_least_apart : FnIs P w K mg base "least_apart" 6 1 F_least_apart) (I_nearest : FnIs P w K mg base "nearest" 6 2 F_nearest) {qual : Str} {f : Addr} {cdv : Value} {A : Around} {outer : List Env} {s : Shared} {H : Hp} {E : XK} (C : Ctx (cxOf (L2.CX P w) P w K mg base ["_law_script", "_law_pool_here", "_law_model", "_law_book_here", "_law_width", "_law_marks", "_law_rows", "_law_due", "_law_one", "_law_asked", "_law_row_here", "_law_at", "_law_wrong", "_law_other", "_law_counts", "_law_wanted", "_law_told", "_law_many", "_law_turn", "_law_mark", "_law_number"] qual (defScope s_law) f cdv A outer s H E) (Wish.of fun c d _ H => E c d H) 7) :
    BV (cxOf (L2.CX P w) P w K mg base ["_law_script", "_law_pool_here", "_law_model", "_law_book_here", "_law_width", "_law_marks", "_law_rows", "_law_due", "_law_one", "_law_asked", "_law_row_here", "_law_at", "_law_wrong", "_law_other", "_law_counts", "_law_wanted", "_law_told", "_law_many", "_law_turn", "_law_mark", "_law_number"] qual (defScope s_law) f cdv A outer s H E) (Wish.of fun c d _ H => E c d H) (defBody s_law) B_law :=
  bv_cons (sv_set (i := 1) C.nd (ev_callI I_law_pool C (by decide) (av_cons (ev_var (i := 0)) (av_nil)) (arN_cons (arN_nil)))) (bv_cons (sv_set (i := 2) C.nd (ev_callI I_law_drawn_book C (by decide) (av_cons (ev_var (i := 1)) (av_nil)) (arN_cons (arN_nil)))) (bv_cons (sv_set (i := 3) C.nd (ev_callI I_law_book C (by decide) (av_cons (ev_var (i := 2)) (av_nil)) (arN_cons (arN_nil)))) (bv_cons (sv_set (i := 4) C.nd (ev_callB cr_len os_len T.n_len (av_cons (ev_ix ix_seq os_ix (ev_var (i := 2)) (ev_int) (fun _ _ => rfl)) (av_nil)))) (bv_cons (sv_set (i := 5) C.nd (ev_op or_add os_add (ev_callB cr_sortedS os_sortS T.n_sorted (av_cons (ev_callTy (SLd.call_list_dR C.calm) os_listD T.n_list (av_cons (ev_ix ix_seq os_ix (ev_var (i := 2)) (ev_int) (fun _ _ => rfl)) (av_nil))) (av_nil))) (ev_lst (av_cons (ev_str) (av_cons (ev_str) (av_nil)))))) (bv_cons (sv_set (i := 6) C.nd (ev_op or_add os_add (ev_lcG fin_lst (own := [("_law_mark", 19)]) C.calm C.nd (iv_seq (ev_sl (ev_var (i := 5)) (ov_no) (ov_yes (ev_op op_sub os_sub (ev_callB cr_len os_len T.n_len (av_cons (ev_var (i := 5)) (av_nil))) (ev_int))))) (by show blkC ["_law_script", "_law_pool_here", "_law_model", "_law_book_here", "_law_width", "_law_marks", "_law_rows", "_law_due", "_law_one", "_law_asked", "_law_row_here", "_law_at", "_law_wrong", "_law_other", "_law_counts", "_law_wanted", "_law_told", "_law_many", "_law_turn", "_law_mark", "_law_number"] (defScope s_law) _ _ = true; decide +kernel) (by decide) (fun _ h => nomatch h) (fun _ _ _ _ _ => gv_nm (i := 19) C.nd) (fun _ _ _ _ _ => tv_ifs0) (fun s H C1 cl fp => ev_blk C (fun C => ev_dget C (ev_ix ix_seq os_ix (ev_var (i := 2)) (ev_int) (fun _ _ => rfl)) (ev_var (i := 19))))) (ev_lst (av_cons (ev_ix ix_seq os_ix (ev_var (i := 2)) (ev_int) (fun _ _ => rfl)) (av_cons (ev_ix ix_seq os_ix (ev_var (i := 2)) (ev_int) (fun _ _ => rfl)) (av_nil)))))) (bv_cons (sv_set (i := 7) C.nd (ev_non)) (bv_cons (sv_for C (iv_rng1 T.n_range (av_cons (ev_callB cr_len os_len T.n_len (av_cons (ev_var (i := 6)) (av_nil))) (av_nil))) (gv_nm (i := 8) C.nd) (bv_one (sv_for C (iv_rng2 T.n_range (av_cons (ev_op or_add os_add (ev_var (i := 8)) (ev_int)) (av_cons (ev_callB cr_len os_len T.n_len (av_cons (ev_var (i := 6)) (av_nil))) (av_nil)))) (gv_nm (i := 13) C.nd) (bv_cons (sv_set (i := 17) C.nd (ev_callI I_law_count C (by decide) (av_cons (ev_ix ix_seq os_ix (ev_var (i := 6)) (ev_var (i := 8)) (fun _ _ => rfl)) (av_cons (ev_ix ix_seq os_ix (ev_var (i := 6)) (ev_var (i := 13)) (fun _ _ => rfl)) (av_nil))) (arN_cons (arN_cons (arN_nil))))) (bv_one (sv_if (tv_w (wv_or (tv_cmp or_is os_is (ev_var (i := 7)) (ev_non) (nomark _)) (wv_or1 (tv_cmp or_lt os_lt (ev_var (i := 17)) (ev_ix ix_seq os_ix (ev_var (i := 7)) (ev_int) (fun _ _ => rfl)) (nomark _))))) (bv_one (sv_set (i := 7) C.nd (ev_tup (av_cons (ev_var (i := 17)) (av_cons (ev_ix ix_seq os_ix (ev_var (i := 5)) (ev_var (i := 8)) (fun _ _ => rfl)) (av_cons (ev_ix ix_seq os_ix (ev_var (i := 5)) (ev_var (i := 13)) (fun _ _ => rfl)) (av_nil))))))) (bv_nil))))))) (bv_cons (sv_if (tv_not (tv_val (ev_callI I_law_same C (by decide) (av_cons (ev_callI I_least_apart C (by decide) (av_cons (ev_var (i := 3)) (av_nil)) (arN_cons (arN_nil))) (av_cons (ev_var (i := 7)) (av_nil))) (arN_cons (arN_cons (arN_nil)))))) (bv_one (sv_ret (ev_bl))) (bv_nil)) (bv_cons (sv_setLcG fin_lst (own := [("_law_turn", 18)]) C.calm C.nd (iv_rng1 T.n_range (av_cons (ev_int) (av_nil))) (by show blkC ["_law_script", "_law_pool_here", "_law_model", "_law_book_here", "_law_width", "_law_marks", "_law_rows", "_law_due", "_law_one", "_law_asked", "_law_row_here", "_law_at", "_law_wrong", "_law_other", "_law_counts", "_law_wanted", "_law_told", "_law_many", "_law_turn", "_law_mark", "_law_number"] (defScope s_law) _ _ = true; decide +kernel) (by decide) (fun _ h => nomatch h) (fun _ _ _ _ _ => gv_nm (i := 18) C.nd) (fun _ _ _ _ _ => tv_ifs0) (fun s H C1 cl fp => ev_blk C (fun C => ev_callI I_law_row C (by decide) (av_cons (ev_var (i := 1)) (av_cons (ev_var (i := 4)) (av_nil))) (arN_cons (arN_cons (arN_nil))))) (sw_true rfl rfl rfl (by decide +kernel))) (bv_cons (sv_if (tv_cmp op_le os_le (ev_var (i := 4)) (ev_int) (nomark _)) (bv_one (sv_setLcG fin_lst (own := [("_law_number", 20)]) C.calm C.nd (iv_rng1 T.n_range (av_cons (ev_ix ix_seq os_ix (ev_lst (av_cons (ev_int) (av_cons (ev_int) (av_cons (ev_int) (av_nil))))) (ev_op op_sub os_sub (ev_var (i := 4)) (ev_int)) (fun _ _ => rfl)) (av_nil))) (by show blkC ["_law_script", "_law_pool_here", "_law_model", "_law_book_here", "_law_width", "_law_marks", "_law_rows", "_law_due", "_law_one", "_law_asked", "_law_row_here", "_law_at", "_law_wrong", "_law_other", "_law_counts", "_law_wanted", "_law_told", "_law_many", "_law_turn", "_law_mark", "_law_number"] (defScope s_law) _ _ = true; decide +kernel) (by decide) (fun _ h => nomatch h) (fun _ _ _ _ _ => gv_nm (i := 20) C.nd) (fun _ _ _ _ _ => tv_ifs0) (fun s H C1 cl fp => ev_blk C (fun C => ev_callI I_law_row_of C (by decide) (av_cons (ev_var (i := 20)) (av_cons (ev_var (i := 4)) (av_nil))) (arN_cons (arN_cons (arN_nil))))) (sw_true rfl rfl rfl (by decide +kernel)))) (bv_nil)) (bv_cons (sv_for C (iv_seq (ev_var (i := 9))) (gv_nm (i := 10) C.nd) (bv_cons (sv_set (i := 14) C.nd (ev_lcG fin_lst (own := [("_law_other", 13)]) C.calm C.nd (iv_seq (ev_var (i := 6))) (by show blkC ["_law_script", "_law_pool_here", "_law_model", "_law_book_here", "_law_width", "_law_marks", "_law_rows", "_law_due", "_law_one", "_law_asked", "_law_row_here", "_law_at", "_law_wrong", "_law_other", "_law_counts", "_law_wanted", "_law_told", "_law_many", "_law_turn", "_law_mark", "_law_number"] (defScope s_law) _ _ = true; decide +kernel) (by decide) (fun _ h => nomatch h) (fun _ _ _ _ _ => gv_nm (i := 13) C.nd) (fun _ _ _ _ _ => tv_ifs0) (fun s H C1 cl fp => ev_blk C (fun C => ev_callI I_law_count C (by decide) (av_cons (ev_var (i := 10)) (av_cons (ev_var (i := 13)) (av_nil))) (arN_cons (arN_cons (arN_nil))))))) (bv_cons (sv_setLcG fin_lst (own := [("_law_at", 11)]) C.calm C.nd (iv_rng1 T.n_range (av_cons (ev_callB cr_len os_len T.n_len (av_cons (ev_var (i := 5)) (av_nil))) (av_nil))) (by show blkC ["_law_script", "_law_pool_here", "_law_model", "_law_book_here", "_law_width", "_law_marks", "_law_rows", "_law_due", "_law_one", "_law_asked", "_law_row_here", "_law_at", "_law_wrong", "_law_other", "_law_counts", "_law_wanted", "_law_told", "_law_many", "_law_turn", "_law_mark", "_law_number"] (defScope s_law) _ _ = true; decide +kernel) (by decide) (fun _ h => nomatch h) (fun _ _ _ _ _ => gv_nm (i := 11) C.nd) (fun _ _ _ _ _ => pt_blk C (fun C => tv_ifs1 (tv_cmp (op_eqD C.room.units) os_eq (ev_ix ix_seq os_ix (ev_var (i := 14)) (ev_var (i := 11)) (fun _ _ => rfl)) (ev_callB (cr_minX C.calm) os_minX T.n_min (av_cons (ev_var (i := 14)) (av_nil))) (nomark _)))) (fun s H C1 cl fp => ev_blk C (fun C => ev_ix ix_seq os_ix (ev_var (i := 5)) (ev_var (i := 11)) (fun _ _ => rfl))) (sw_true rfl rfl rfl (by decide +kernel))) (bv_cons (sv_set (i := 16) C.nd (ev_callI I_nearest C (by decide) (av_cons (ev_var (i := 3)) (av_cons (ev_var (i := 10)) (av_nil))) (arN_cons (arN_cons (arN_nil))))) (bv_cons (sv_if (tv_not (tv_val (ev_callI I_law_same C (by decide) (av_cons (ev_var (i := 16)) (av_cons (ev_var (i := 15)) (av_nil))) (arN_cons (arN_cons (arN_nil)))))) (bv_one (sv_ret (ev_bl))) (bv_nil)) (bv_cons (sv_expr (ev_m PySem.F.plainAttrs_list PySem.F.slot_list_append PySem.F.type_list_append ty_lst mt_append os_append (ev_var (i := 16)) (av_cons (ev_str) (av_nil)))) (bv_one (sv_if (tv_not (tv_val (ev_callI I_law_same C (by decide) (av_cons (ev_callI I_nearest C (by decide) (av_cons (ev_var (i := 3)) (av_cons (ev_var (i := 10)) (av_nil))) (arN_cons (arN_cons (arN_nil)))) (av_cons (ev_var (i := 15)) (av_nil))) (arN_cons (arN_cons (arN_nil)))))) (bv_one (sv_ret (ev_bl))) (bv_nil))))))))) (bv_cons (sv_for C (iv_rng1 T.n_range (av_cons (ev_callB cr_len os_len T.n_len (av_cons (ev_var (i := 5)) (av_nil))) (av_nil))) (gv_nm (i := 11) C.nd) (bv_one (sv_if (tv_cmp (op_neD C.room.units) os_ne (ev_callI I_nearest C (by decide) (av_cons (ev_var (i := 3)) (av_cons (ev_ix ix_seq os_ix (ev_var (i := 6)) (ev_var (i := 11)) (fun _ _ => rfl)) (av_nil))) (arN_cons (arN_cons (arN_nil)))) (ev_lst (av_cons (ev_ix ix_seq os_ix (ev_var (i := 5)) (ev_var (i := 11)) (fun _ _ => rfl)) (av_nil))) (nomark _)) (bv_one (sv_ret (ev_bl))) (bv_nil)))) (bv_cons (sv_set (i := 12) C.nd (ev_lst (av_cons (ev_non) (av_cons (ev_tup (av_nil)) (av_cons (ev_int) (av_cons (ev_str) (av_cons (ev_callTy call_list_of os_list T.n_list (av_cons (ev_ix ix_seq os_ix (ev_var (i := 2)) (ev_int) (fun _ _ => rfl)) (av_nil))) (av_cons (ev_op or_add os_add (ev_ix ix_seq os_ix (ev_var (i := 2)) (ev_int) (fun _ _ => rfl)) (ev_tup (av_cons (ev_int) (av_nil)))) (av_cons (ev_sl (ev_ix ix_seq os_ix (ev_var (i := 2)) (ev_int) (fun _ _ => rfl)) (ov_yes (ev_int)) (ov_no)) (av_cons (ev_op or_add os_add (ev_sl (ev_ix ix_seq os_ix (ev_var (i := 2)) (ev_int) (fun _ _ => rfl)) (ov_yes (ev_int)) (ov_no)) (ev_tup (av_cons (ev_int) (av_nil)))) (av_cons (ev_op or_add os_add (ev_sl (ev_ix ix_seq os_ix (ev_var (i := 2)) (ev_int) (fun _ _ => rfl)) (ov_yes (ev_int)) (ov_no)) (ev_tup (av_cons (ev_bl) (av_nil)))) (av_nil)))))))))))) (bv_cons (sv_set (i := 12) C.nd (ev_op or_add os_add (ev_var (i := 12)) (ev_lst (av_cons (ev_op or_add os_add (ev_sl (ev_ix ix_seq os_ix (ev_var (i := 2)) (ev_int) (fun _ _ => rfl)) (ov_yes (ev_int)) (ov_no)) (ev_tup (av_cons (ev_lst (av_nil)) (av_nil)))) (av_cons (ev_op or_add os_add (ev_sl (ev_ix ix_seq os_ix (ev_var (i := 2)) (ev_int) (fun _ _ => rfl)) (ov_yes (ev_int)) (ov_no)) (ev_tup (av_cons (ev_call0 I_law_deep C (by decide)) (av_nil)))) (av_cons (ev_call0 I_law_deep C (by decide)) (av_cons (ev_var (i := 3)) (av_nil)))))))) (bv_one (sv_ret (ev_cmp (op_eqD C.room.units) os_eq (ev_callI I_law_refused C (by decide) (av_cons (ev_var (i := 3)) (av_cons (ev_ix ix_seq os_ix (ev_var (i := 12)) (ev_callI I_law_draw C (by decide) (av_cons (ev_var (i := 1)) (av_cons (ev_int) (av_nil))) (arN_cons (arN_cons (arN_nil)))) (fun _ _ => rfl)) (av_nil))) (arN_cons (arN_cons (arN_nil)))) (ev_str) (nomark _))))))))))))))))))
theorem ok_law (T : Txt P w K mg base C_BadBook C_LabelError C_BadRow C_NoSign C_Book) (I_law_book : FnIs P w K mg base "_law_book" 7 1 F_law_book) (I_law_count : FnIs P w K mg base "_law_count" 1 2 F_law_count) (I_law_deep : FnIs P w K mg base "_law_deep" 1 0 F_law_deep) (I_law_draw : FnIs P w K mg base "_law_draw" 1 2 F_law_draw) (I_law_drawn_book : FnIs P w K mg base "_law_drawn_book" 4 1 F_law_drawn_book) (I_law_pool : FnIs P w K mg base "_law_pool" 1 1 F_law_pool) (I_law_refused : FnIs P w K mg base "_law_refused" 7 2 F_law_refused) (I_law_row : FnIs P w K mg base "_law_row" 2 2 F_law_row) (I_law_row_of : FnIs P w K mg base "_law_row_of" 1 2 F_law_row_of) (I_law_same : FnIs P w K mg base "_law_same" 7 2 (F_law_same 6)) (I_least_apart : FnIs P w K mg base "least_apart" 6 1 F_least_apart) (I_nearest : FnIs P w K mg base "nearest" 6 2 F_nearest) {f : Addr} {fd : FuncData} (F : Fun K "law" "law" s_law f fd) : FnOk P w K mg base (L2.CX P w) 8 f fd ["_law_script"] (spF K mg 1 F_law) := fn_okG lv_leave F sc_law rfl rfl fun _ _ _ _ _ _ C => hb_law T I_law_book I_law_count I_law_deep I_law_draw I_law_drawn_book I_law_pool I_law_refused I_law_row I_law_row_of I_law_same I_least_apart I_nearest C
end
end SL

namespace SL
open PySem PySem.Spec PyProof.Rows L2
/-! ## the drawn numbers -/
def plW (ns : List Int) (p b n s : Int) : Cel := .lst [.lst (ns.map W.int), .int p, .int b, .int n, .int s]
section
variable {ns : List Int} {p b n s v : Int} {r : Sto}
@[simp] theorem pl0 : oIx (.cell 0) (.int 0) (plW ns p b n s :: r) = .ok (.lst (ns.map W.int)) (plW ns p b n s :: r) := rfl
@[simp] theorem pl1 : oIx (.cell 0) (.int 1) (plW ns p b n s :: r) = .ok (.int p) (plW ns p b n s :: r) := rfl
@[simp] theorem pl2 : oIx (.cell 0) (.int 2) (plW ns p b n s :: r) = .ok (.int b) (plW ns p b n s :: r) := rfl
@[simp] theorem pl3 : oIx (.cell 0) (.int 3) (plW ns p b n s :: r) = .ok (.int n) (plW ns p b n s :: r) := rfl
@[simp] theorem pl4 : oIx (.cell 0) (.int 4) (plW ns p b n s :: r) = .ok (.int s) (plW ns p b n s :: r) := rfl
@[simp] theorem ps1 : uLst (.cell 0) (.int 1) (.int v) (plW ns p b n s :: r) = some (plW ns v b n s :: r) := rfl
@[simp] theorem ps2 : uLst (.cell 0) (.int 2) (.int v) (plW ns p b n s :: r) = some (plW ns p v n s :: r) := rfl
@[simp] theorem ps3 : uLst (.cell 0) (.int 3) (.int v) (plW ns p b n s :: r) = some (plW ns p b v s :: r) := rfl
@[simp] theorem ps4 : uLst (.cell 0) (.int 4) (.int v) (plW ns p b n s :: r) = some (plW ns p b n v :: r) := rfl
end
def Pool (c : Cel) : Prop := ∃ ns p b n s, c = plW ns p b n s ∧ 0 ≤ p
/-- what is left of it once the number is ready -/
theorem sub_to {e o i : Sem} {t : SSem} {fr : Fr} {st st1 st2 st3 st4 : Sto} {w ov iv : W} {z : SOut} (h : e fr st = .ok w st1) (h1 : o fr st1 = .ok ov st2) (h2 : i fr st2 = .ok iv st3) (h3 : uLst ov iv w st3 = some st4) (hz : t fr st4 = z) : sSeq (sSub uLst e o i) t fr st = z := by
  unfold sSeq sSub; rw [h]; simp only [Out.stm_ok, h1, h2, h3]; exact hz
theorem draw_ok {c : Cel} {m : Int} (hp : Pool c) (h : 0 < m) (h2 : m.natAbs.log2 < 9000) : ∃ r c', Pool c' ∧ 0 ≤ r ∧ r < m ∧ ∀ rest, F_law_draw [.cell 0, .int m] (c :: rest) = .ok (.int r) (c' :: rest) := by
  obtain ⟨ns, p, b, n, s, rfl, hp⟩ := hp
  have e1 := fun i (h : 0 < i) => Int.emod_nonneg i (Int.ne_of_gt h)
  -- the last part, from a pool on
  have last : ∀ (p b n s : Int) (fr3 : Option W), 0 ≤ p → ∃ q c', Pool c' ∧ 0 ≤ q ∧ q < m ∧ ∀ rest, (sSeq (sIf (bOf (e2 oGt (e2 oIx (eVar 0) (eC (.int 2))) (eC (.int 0)))) (sSeq (sAsg (e2 oMod (eN oInt (aCons (e2 oIx (eVar 0) (eC (.int 2))) (aNil))) (eVar 1)) (gNm 4)) (sSeq (sSub uLst (e2 oDiv (e2 oIx (eVar 0) (eC (.int 2))) (eVar 1)) (eVar 0) (eC (.int 2))) (sRet (eVar 4)))) (sNil)) (sSeq (sAsg (e2 oMod (eN oInt (aCons (e2 oAdd (e2 oAdd (e2 oMul (e2 oIx (eVar 0) (eC (.int 4))) (eC (.int 48271))) (e2 oMul (e2 oIx (eVar 0) (eC (.int 3))) (eC (.int 110503)))) (eC (.int 6133))) (aNil))) (eC (.int 2147483647))) (gNm 2)) (sSeq (sAsg (e2 oMod (eN oInt (aCons (e2 oMul (eVar 2) (e2 oAdd (e2 oDiv (eVar 2) (eC (.int 1031))) (eC (.int 40014)))) (aNil))) (eC (.int 2147483647))) (gNm 2)) (sSeq (sAsg (e2 oMod (eN oInt (aCons (e2 oMul (eVar 2) (e2 oAdd (e2 oDiv (eVar 2) (eC (.int 2039))) (eC (.int 69621)))) (aNil))) (eC (.int 2147483399))) (gNm 2)) (sRet (e2 oMod (eN oInt (aCons (e2 oDiv (eVar 2) (eC (.int 32))) (aNil))) (eVar 1))))))) [some (.cell 0), some (.int m), none, fr3, none] (plW ns p b n s :: rest) = .rt (.int q) (c' :: rest) := by
    intro p b n s fr3 hp
    by_cases hb : 0 < b
    · refine ⟨b % m, plW ns p (b / m) n s, ⟨_, _, _, _, _, rfl, hp⟩, Int.emod_nonneg _ (by omega), Int.emod_lt_of_pos _ h, fun rest => ?_⟩
      simp [hb, x_mod h, x_div h h2, ps2]
    · generalize hx : (s * 48271 + n * 110503 + 6133) % 2147483647 = x
      generalize hy : (x * (x / 1031 + 40014)) % 2147483647 = y
      generalize hw : (y * (y / 2039 + 69621)) % 2147483399 = z
      have x1 : -(2 ^ 64) < x ∧ x < 2 ^ 64 := by omega
      have y1 : -(2 ^ 64) < y ∧ y < 2 ^ 64 := by
        have := Int.emod_nonneg (x * (x / 1031 + 40014)) (b := 2147483647) (by omega)
        have := Int.emod_lt_of_pos (x * (x / 1031 + 40014)) (b := 2147483647) (by omega)
        omega
      refine ⟨(z / 32) % m, plW ns p b n s, ⟨_, _, _, _, _, rfl, hp⟩, Int.emod_nonneg _ (by omega), Int.emod_lt_of_pos _ h, fun rest => ?_⟩
      simp [hb, x_mod h, hx, x_mulL x1, hy, x_mulL y1, hw]
  by_cases hc : b = 0 ∧ p < ns.length
  · obtain ⟨hb, hpl⟩ := hc
    obtain ⟨v, hv⟩ : ∃ v, ns[p.toNat]? = some v := ⟨ns[p.toNat]'(by omega), by simp⟩
    have hv' : (ns.map W.int)[p.toNat]? = some (.int v) := by rw [List.getElem?_map, hv]; rfl
    by_cases hg : 1000000000000000000 ≤ v
    · obtain ⟨q, c', k1, k2, k3, k4⟩ := last (p + 1) v (n + 1) s (some (.int v)) (by omega)
      refine ⟨q, c', k1, k2, k3, fun rest => mk_rt (st1 := c' :: rest) ?_ (by simp)⟩
      rw [← k4]
      unfold B_law_draw
      refine sub_to (st4 := plW ns p b (n + 1) s :: rest) rfl rfl rfl ps3 ?_
      refine seq_to (fr1 := [some (.cell 0), some (.int m), none, some (.int v), none]) (st1 := plW ns (p + 1) v (n + 1) s :: rest) ?_ rfl
      simp [hb, hpl, x_ixL hp hv', ps1, ps2, x_pow, hg]
    · obtain ⟨q, c', k1, k2, k3, k4⟩ := last (p + 1) b (n + 1) ((s * 37 + v + 4217) % 2147483629) (some (.int v)) (by omega)
      refine ⟨q, c', k1, k2, k3, fun rest => mk_rt (st1 := c' :: rest) ?_ (by simp)⟩
      rw [← k4]
      unfold B_law_draw
      refine sub_to (st4 := plW ns p b (n + 1) s :: rest) rfl rfl rfl ps3 ?_
      refine seq_to (fr1 := [some (.cell 0), some (.int m), none, some (.int v), none]) (st1 := plW ns (p + 1) b (n + 1) ((s * 37 + v + 4217) % 2147483629) :: rest) ?_ rfl
      simp [hb, hpl, x_ixL hp hv', hg]
  · obtain ⟨q, c', k1, k2, k3, k4⟩ := last p b (n + 1) s none hp
    refine ⟨q, c', k1, k2, k3, fun rest => mk_rt (st1 := c' :: rest) ?_ (by simp)⟩
    rw [← k4]
    unfold B_law_draw
    refine sub_to (st4 := plW ns p b (n + 1) s :: rest) rfl rfl rfl ps3 ?_
    refine seq_to (fr1 := [some (.cell 0), some (.int m), none, none, none]) (st1 := plW ns p b (n + 1) s :: rest) ?_ rfl
    by_cases hb : b = 0
    · have : ¬ p < (ns.length : Int) := fun z => hc ⟨hb, z⟩
      simp [hb, this]
    · simp [hb]
theorem pool_ok (ns : List Int) : ∃ c, Pool c ∧ F_law_pool [.ro (ns.map W.int)] [] = .ok (.cell 0) [c] := by
  have hc : ∃ ms : List Int, cutW (ns.map W.int) none (some 63) = ms.map W.int := ⟨(ns.drop (HT.sIx (ns.map W.int).length 0 none)).take (HT.sIx (ns.map W.int).length (ns.map W.int).length (some 63) - HT.sIx (ns.map W.int).length 0 none), by
    unfold cutW; rw [List.map_take, List.map_drop]⟩
  obtain ⟨ms, hm⟩ := hc
  have hs : ∀ fr st, fr[0]? = some (some (.ro (ns.map W.int))) → eSl (eVar 0) pNo (pYes (eC (.int 63))) fr st = .ok (.lst (ms.map W.int)) st := fun fr st h => by
    simp [h]
    simp [oSl, hm]
  obtain ⟨fr', st', e1, w, s, rfl, rfl⟩ := x_for (f := iSeq (eSl (eVar 0) (pNo) (pYes (eC (.int 63))))) (g := gNm 2) (b := sAsg (e2 oMod (eN oInt (aCons (e2 oAdd (e2 oAdd (e2 oMul (eVar 1) (eC (.int 53))) (eVar 2)) (eC (.int 17))) (aNil))) (eC (.int 2147483629))) (gNm 1)) (fr := [some (.ro (ns.map W.int)), some (.int 31), none]) (st := []) (st1 := []) (x := .lst (ms.map W.int)) (all := ms.map W.int)
    (by unfold iSeq; rw [hs _ _ rfl]; rfl) (fun _ fr st => ∃ (w : Option W) (s : Int), fr = [some (.ro (ns.map W.int)), some (.int s), w] ∧ st = []) ⟨none, 31, rfl, rfl⟩ (fun _ _ _ _ => trivial) (by
      rintro k fr st w ⟨u, s, rfl, rfl⟩ hw
      rw [List.getElem?_map] at hw
      obtain ⟨z, _, rfl⟩ := Option.map_eq_some_iff.mp hw
      refine ⟨_, _, _, rfl, .inl ?_, some (.int z), (s * 53 + z + 17) % 2147483629, rfl, rfl⟩
      simp)
  refine ⟨plW ms 0 0 0 s, ⟨_, _, _, _, _, rfl, Int.le_refl _⟩, ?_⟩
  have hb : B_law_pool [some (.ro (ns.map W.int)), none, none] [] = .rt (.cell 0) [plW ms 0 0 0 s] := by
    unfold B_law_pool
    refine asg_to (w := .int 31) rfl (seq_to e1 ?_)
    have z := hs [some (.ro (ns.map W.int)), some (.int s), w] [] rfl
    simp only [x_ret, x_N, x_aCons, z, x_aNil, Out.bind_ok, x_list_lst, x_c, x_var]
    rfl
  unfold F_law_pool mkFnC mkFnG
  show (match B_law_pool [some (.ro (ns.map W.int)), none, none] [] with
    | .nx _ st1 => leave 0 .non st1 | .rt w st1 => leaveC 0 w st1 | .er x _ st1 => leaveX 0 x st1 | _ => .bad) = _
  rw [hb]
  show leaveC 0 (.cell 0) [plW ms 0 0 0 s] = _
  have ho : oldW 0 (plW ms 0 0 0 s) = true := by
    have z : ∀ l : List Int, fz0s 0 (fun _ => none) (l.map W.int) = some (l.map W.int) := fun l => by
      induction l with
      | nil => rfl
      | cons a l ih => rw [List.map_cons, fz0s, ih]; rfl
    unfold plW oldW
    simp only [fz0s, fz0, z]; rfl
  unfold leaveC
  simp [ho]
  rfl
/-! ## _law_same of what is the same -/
def okD : Nat → W → Bool
  | 0, _ => false
  | d + 1, w => match w with
    | .non | .bl _ | .int _ => true
    | .str x => PyData.strOk x
    | .tup ws | .lst ws => decide (ws.length ≤ 1000000) && ws.all (okD d)
    | _ => false
theorem nil_all {ys : List W} {p : W → Bool} (h : ∀ w ∈ ys, p w = false) : (ys.filter p).map id = [] := by
  rw [List.filter_eq_nil_iff.mpr fun w hw => by rw [h w hw]; simp]; rfl
theorem same_items {d : Nat} {ws : List W} {st : Sto} {c : List W → W} (hc : c = W.tup ∨ c = W.lst) (hn : ws.length ≤ 1000000) (ih : ∀ w ∈ ws, F_law_same d [w, w] st = .ok (.bl true) st) : (eLc (iRng rg1 (aCons (eN oLen (aCons (eVar 1) (aNil))) (aNil))) (gNm 2) [2] (bNot (bOf (eCall ((F_law_same d)) (aCons (e2 oIx (eVar 0) (eVar 2)) (aCons (e2 oIx (eVar 1) (eVar 2)) (aNil)))))) (eVar 2)) [some (c ws), some (c ws), none] st = .ok (.lst []) st := by
  have hl : oLen [c ws] st = .ok (.int ws.length) st := by rcases hc with rfl | rfl <;> rfl
  refine x_lc (st1 := st) (all := rngW 0 1 ws.length) (x := .non) (x_rng1 (j := ws.length) (by simp [hl]) (by omega) (by omega)) ?_
  rw [lc_filter (x := .non) (p := fun _ => false) (f := id) trivial]
  · rw [nil_all fun _ _ => rfl]
  · intro w hw
    obtain ⟨k, hk, rfl⟩ := rng_mem hw
    have e1 : ws[k]? = some (ws[k]) := by simp [hk]
    have hi : oIx (c ws) (.int ((0 : Int) + (k : Int) * 1)) st = .ok (ws[k]) st := by
      have z : ((0 : Int) + (k : Int) * 1) = k := by omega
      rw [z]
      rcases hc with rfl | rfl
      · exact x_ixT (by omega) (by simp)
      · exact x_ixL (by omega) (by simp)
    refine ⟨_, rfl, ?_, fun z => by cases z⟩
    simp [wipeF] at hi ⊢
    simp [hi, ih _ (List.getElem_mem hk)]
theorem same_refl : ∀ (d : Nat) (w : W) (st : Sto), okD d w = true → F_law_same d [w, w] st = .ok (.bl true) st
  | 0, _, _, h => by cases h
  | d + 1, w, st, h => by
    cases w with
    | non => exact mk_rt (st1 := st) (by simp [B_law_same, isNon]) rfl
    | bl b => exact mk_rt (st1 := st) (by simp [B_law_same, isNon]) rfl
    | int i => exact mk_rt (st1 := st) (by simp [B_law_same, isNon]) rfl
    | str z => exact mk_rt (st1 := st) (by simp [B_law_same, isNon, eq_str h]) rfl
    | tup ws =>
      have h' : (decide (ws.length ≤ 1000000) && ws.all (okD d)) = true := h
      rw [Bool.and_eq_true] at h'
      have z := same_items (d := d) (ws := ws) (st := st) (.inl rfl) (of_decide_eq_true h'.1) fun w hw => same_refl d w st (List.all_eq_true.mp h'.2 w hw)
      refine mk_rt (st1 := st) ?_ rfl
      show B_law_same (F_law_same d) [some (.tup ws), some (.tup ws), none] st = _
      unfold B_law_same
      simp [isNon, z, x_tup]
    | lst ws =>
      have h' : (decide (ws.length ≤ 1000000) && ws.all (okD d)) = true := h
      rw [Bool.and_eq_true] at h'
      have z := same_items (d := d) (ws := ws) (st := st) (.inr rfl) (of_decide_eq_true h'.1) fun w hw => same_refl d w st (List.all_eq_true.mp h'.2 w hw)
      refine mk_rt (st1 := st) ?_ rfl
      show B_law_same (F_law_same d) [some (.lst ws), some (.lst ws), none] st = _
      unfold B_law_same
      simp [isNon, z, x_tup]
    | _ => cases h
/-! ## _law_same by what stands behind -/
def scal : W → Bool
  | .non | .bl _ | .int _ => true
  | .str x => PyData.strOk x
  | _ => false
def SameR (st : Sto) : Nat → W → W → Prop
  | 0, _, _ => False
  | d + 1, x, y => (x = y ∧ scal x = true) ∨ ∃ (t : String) (us ws : List W), (t = "list" ∨ t = "tuple") ∧ tyW st x = some t ∧ tyW st y = some t ∧ seqW st x = some us ∧ seqW st y = some ws ∧ ws.length ≤ 1000000 ∧ Both (SameR st d) us ws
theorem Both.len {α β : Type} {R : α → β → Prop} {l : List α} {m : List β} (h : Both R l m) : l.length = m.length := by
  induction h with
  | nil => rfl
  | cons _ _ ih => simp [ih]
theorem Both.get {α β : Type} {R : α → β → Prop} {l : List α} {m : List β} (h : Both R l m) : ∀ {k : Nat} {a : α} {b : β}, l[k]? = some a → m[k]? = some b → R a b := by
  induction h with
  | nil => intro k a b e; simp at e
  | cons h _ ih =>
    intro k a b e1 e2
    cases k with
    | zero => simp at e1 e2; rw [← e1, ← e2]; exact h
    | succ k => simp at e1 e2; exact ih e1 e2
theorem Both.map {α β γ : Type} {R : β → γ → Prop} (f : α → β) (g : α → γ) : ∀ l : List α, (∀ a ∈ l, R (f a) (g a)) → Both R (l.map f) (l.map g)
  | [], _ => .nil
  | a :: l, h => .cons (h a List.mem_cons_self) (Both.map f g l fun b hb => h b (List.mem_cons_of_mem _ hb))
theorem Both.refl {α : Type} {R : α → α → Prop} : ∀ l : List α, (∀ a ∈ l, R a a) → Both R l l
  | [], _ => .nil
  | a :: l, h => .cons (h a List.mem_cons_self) (Both.refl l fun b hb => h b (List.mem_cons_of_mem _ hb))
theorem isi2_of {x : W} {t a b : String} {st : Sto} (h : tyW st x = some t) (h1 : tyN t = true) (h2 : tyN a = true) (h3 : tyN b = true) : oIsi [x, .tup [.ty a, .ty b]] st = .ok (.bl (subT t a || subT t b)) st := by
  show (match tyW st x, tyNames [.ty a, .ty b] with
    | some t, some ns => if tyN t && ns.all tyN then Out.ok (W.bl (ns.any (subT t))) st else .bad
    | _, _ => .bad) = _
  rw [h]; simp [tyNames, h1, h2, h3]
theorem not_str {x : W} {t : String} {st : Sto} (h : tyW st x = some t) (ht : t = "list" ∨ t = "tuple") : ∀ z, x ≠ .str z := by
  rintro z rfl
  have e : tyW st (.str z) = some "str" := rfl
  rw [e] at h
  rcases ht with rfl | rfl <;> exact absurd h (by decide)
theorem not_non {x : W} {t : String} {st : Sto} (h : tyW st x = some t) (ht : t = "list" ∨ t = "tuple") : isNon x = false := by
  cases x with
  | non =>
    have e : tyW st .non = some "NoneType" := rfl
    rw [e] at h
    rcases ht with rfl | rfl <;> exact absurd h (by decide)
  | _ => rfl
theorem same_of : ∀ (d : Nat) (x y : W) (st : Sto), SameR st d x y → F_law_same d [x, y] st = .ok (.bl true) st
  | 0, _, _, _, h => h.elim
  | d + 1, x, y, st, h => by
    rcases h with ⟨rfl, hs⟩ | ⟨t, us, ws, ht, hx, hy, sx, sy, hn, hb⟩
    · cases x with
      | non => exact mk_rt (st1 := st) (by simp [B_law_same, isNon]) rfl
      | bl b => exact mk_rt (st1 := st) (by simp [B_law_same, isNon]) rfl
      | int i => exact mk_rt (st1 := st) (by simp [B_law_same, isNon]) rfl
      | str z => exact mk_rt (st1 := st) (by simp [B_law_same, isNon, eq_str hs]) rfl
      | _ => cases hs
    · have hl : us.length = ws.length := hb.len
      have lx := x_len (st := st) sx (not_str hx ht)
      have ly := x_len (st := st) sy (not_str hy ht)
      have tn : tyN t = true := by rcases ht with rfl | rfl <;> decide +kernel
      have z : eLc (iRng rg1 (aCons (eN oLen (aCons (eVar 1) (aNil))) (aNil))) (gNm 2) [2] (bNot (bOf (eCall ((F_law_same d)) (aCons (e2 oIx (eVar 0) (eVar 2)) (aCons (e2 oIx (eVar 1) (eVar 2)) (aNil)))))) (eVar 2) [some x, some y, none] st = .ok (.lst []) st := by
        refine x_lc (st1 := st) (all := rngW 0 1 ws.length) (x := .non) (x_rng1 (j := ws.length) (by simp [ly]) (by omega) (by omega)) ?_
        rw [lc_filter (x := .non) (p := fun _ => false) (f := id) trivial]
        · rw [nil_all fun _ _ => rfl]
        · intro w hw
          obtain ⟨k, hk, rfl⟩ := rng_mem hw
          have hk2 : k < us.length := by omega
          have e1 : us[k]? = some us[k] := by simp [hk2]
          have e2 : ws[k]? = some ws[k] := by simp [hk]
          have i1 := x_ix (st := st) sx (not_str hx ht) (ixN_nat hk2) e1
          have i2 := x_ix (st := st) sy (not_str hy ht) (ixN_nat hk) e2
          refine ⟨_, rfl, ?_, fun z => by cases z⟩
          have q := same_of d _ _ st (hb.get e1 e2)
          simp [wipeF, i1, i2, q]
      refine mk_rt (st1 := st) ?_ rfl
      show B_law_same (F_law_same d) [some x, some y, none] st = _
      unfold B_law_same
      have a1 := oIsi_eq (n := "bool") hx tn (by decide +kernel)
      have a2 := oIsi_eq (n := "bool") hy tn (by decide +kernel)
      have a3 := oIsi_eq (n := "int") hy tn (by decide +kernel)
      have a4 := oIsi_eq (n := "str") hy tn (by decide +kernel)
      have a5 := oIsi_eq (n := "list") hx tn (by decide +kernel)
      have a6 := oIsi_eq (n := "list") hy tn (by decide +kernel)
      have a7 := isi2_of (a := "list") (b := "tuple") hx tn (by decide +kernel) (by decide +kernel)
      rcases ht with rfl | rfl <;> simp [not_non hy (by first | exact .inl rfl | exact .inr rfl), a1, a2, a3, a4, a5, a6, a7, x_tup, lx, ly, hl, z]
theorem sameR_refl : ∀ (d : Nat) (w : W) (st : Sto), okD d w = true → SameR st d w w
  | 0, _, _, h => by cases h
  | d + 1, w, st, h => by
    cases w with
    | tup ws =>
      have h' : (decide (ws.length ≤ 1000000) && ws.all (okD d)) = true := h
      rw [Bool.and_eq_true] at h'
      exact .inr ⟨"tuple", ws, ws, .inr rfl, rfl, rfl, rfl, rfl, of_decide_eq_true h'.1, Both.refl ws fun a ha => sameR_refl d a st (List.all_eq_true.mp h'.2 a ha)⟩
    | lst ws =>
      have h' : (decide (ws.length ≤ 1000000) && ws.all (okD d)) = true := h
      rw [Bool.and_eq_true] at h'
      exact .inr ⟨"list", ws, ws, .inl rfl, rfl, rfl, rfl, rfl, of_decide_eq_true h'.1, Both.refl ws fun a ha => sameR_refl d a st (List.all_eq_true.mp h'.2 a ha)⟩
    | non => exact .inl ⟨rfl, rfl⟩
    | bl b => exact .inl ⟨rfl, rfl⟩
    | int b => exact .inl ⟨rfl, rfl⟩
    | str z => exact .inl ⟨rfl, h⟩
    | _ => cases h
/-! ## rows -/
def plainW : W → Bool
  | .non | .bl _ | .int _ | .str _ | .tup _ | .lst _ => true
  | .dct [] _ => true
  | .dct (.str _ :: _) _ => true
  | .ins c _ _ => c == "Book"
  | _ => false
@[simp] theorem plain_int {i : Int} : plainW (.int i) = true := by simp only [plainW]
@[simp] theorem plain_non : plainW .non = true := by simp only [plainW]
@[simp] theorem plain_bl {i : Bool} : plainW (.bl i) = true := by simp only [plainW]
@[simp] theorem plain_str {i : Str} : plainW (.str i) = true := by simp only [plainW]
@[simp] theorem plain_tup {i : List W} : plainW (.tup i) = true := by simp only [plainW]
@[simp] theorem plain_lst {i : List W} : plainW (.lst i) = true := by simp only [plainW]
def isI : W → Bool
  | .int _ => true
  | _ => false
def betw (lo hi : Int) : W → Bool
  | .int i => decide (lo ≤ i) && decide (i ≤ hi)
  | _ => false
@[simp] theorem betw_int {lo hi i : Int} : betw lo hi (.int i) = (decide (lo ≤ i) && decide (i ≤ hi)) := rfl
def itemsW : W → List W
  | .tup ws => ws
  | _ => []
def rowW : W → Bool
  | .tup ws => ws.all (betw 0 1)
  | _ => false
@[simp] theorem isint_ok {w : W} {st : Sto} (h : plainW w = true) : F_is_integer [w] st = .ok (.bl (isI w)) st := by
  cases w with
  | dct ks ws =>
    cases ks with
    | nil => exact mk_rt (st1 := st) (by simp [B_is_integer, isI]) rfl
    | cons k ks =>
      cases k with
      | str x => exact mk_rt (st1 := st) (by simp [B_is_integer, isI]) rfl
      | _ => cases h
  | ins c ns ws =>
    have hc : c = "Book" := beq_iff_eq.mp h
    subst hc
    have q := isiI_ins (st := st) (c := "Book") (n := "int") (ns := ns) (ws := ws) (by decide +kernel)
    exact mk_rt (st1 := st) (by simp [B_is_integer, isI, q]) rfl
  | _ => first | (cases h; done) | exact mk_rt (st1 := st) (by simp [B_is_integer, isI]) rfl
@[simp] theorem betw_ok {w : W} {lo hi : Int} {st : Sto} (h : plainW w = true) : F_is_between [w, .int lo, .int hi] st = .ok (.bl (betw lo hi w)) st := by
  refine mk_rt (st1 := st) ?_ rfl
  unfold B_is_between
  cases w with
  | int i =>
    simp [h, isI, betw]
    by_cases z : lo ≤ i <;> simp [z]
  | _ => first | (cases h; done) | simp [h, isI, betw]
theorem bls_map : ∀ (ws : List W) (p : W → Bool), blsW (ws.map fun w => .bl (p w)) = some (ws.map p)
  | [], p => rfl
  | w :: ws, p => by rw [List.map_cons, blsW, bls_map ws p]; rfl
theorem all_id (ws : List W) (p : W → Bool) : (ws.map p).all id = ws.all p := by
  induction ws with
  | nil => rfl
  | cons a l ih => simp [ih]
def okRow (w : W) : Bool := plainW w && (itemsW w).all plainW
@[simp] theorem is_row_ok {w : W} {st : Sto} (h : okRow w = true) : F_is_row [w] st = .ok (.bl (rowW w)) st := by
  unfold okRow at h
  rw [Bool.and_eq_true] at h
  refine mk_rt (st1 := st) ?_ rfl
  unfold B_is_row
  cases w with
  | tup ws =>
    have hz := h.2
    have z : eLc (iSeq (eVar 0)) (gNm 1) [1] (tTrue) (eCall F_is_between (aCons (eVar 1) (aCons (eC (.int 0)) (aCons (eC (.int 1)) (aNil))))) [some (.tup ws), none] st = .ok (.lst (ws.map fun w => .bl (betw 0 1 w))) st := by
      refine x_lc (st1 := st) (x := .tup ws) (all := ws) (by simp) ?_
      refine lc_map (x := .tup ws) trivial ws fun w hw => ⟨_, rfl, rfl, ?_⟩
      have hp := List.all_eq_true.mp hz w hw
      simp [wipeF, hp]
    simp [z]
    simp [oAll, oBls, bls_map, all_id, rowW]
  | dct ks ws =>
    cases ks with
    | nil => simp [rowW]
    | cons k ks =>
      cases k with
      | str x => simp [rowW]
      | _ => exact Bool.noConfusion h.1
  | ins c ns ws =>
    have hc : c = "Book" := beq_iff_eq.mp h.1
    subst hc
    have q := isiI_ins (st := st) (c := "Book") (n := "tuple") (ns := ns) (ws := ws) (by decide +kernel)
    simp [rowW, q]
  | _ => first | (cases h.1; done) | simp [rowW]
def rowEr (p : Str) : Exc := ⟨"BadRow", ["part"], [.str p]⟩
theorem check_ok {w : W} {p : Str} {st : Sto} (h : okRow w = true) (h2 : rowW w = true) : F_check_row [w, .str p] st = .ok .non st := by
  refine mk_nx (st1 := st) (fr := [some w, some (.str p)]) ?_ rfl
  unfold B_check_row
  simp [h, h2]
theorem check_er {w : W} {p : Str} {st : Sto} (h : okRow w = true) (h2 : rowW w = false) : F_check_row [w, .str p] st = .err (rowEr p) st := by
  refine mk_er (st1 := st) (fr := [some w, some (.str p)]) ?_ rfl
  unfold B_check_row
  simp [h, h2, sRaise]
  rfl
def bits (ns : List Int) : W := .tup (ns.map W.int)
def Bits (ns : List Int) : Prop := ∀ n ∈ ns, n = 0 ∨ n = 1
theorem bits_ok (ns : List Int) : okRow (bits ns) = true := by
  simp [okRow, bits, plainW, itemsW]
theorem bits_row {ns : List Int} (h : Bits ns) : rowW (bits ns) = true := by
  show (ns.map W.int).all (betw 0 1) = true
  rw [List.all_map, List.all_eq_true]
  intro n hn
  rcases h n hn with rfl | rfl <;> rfl
@[simp] theorem get_new {st : Sto} {c : Cel} : (st ++ [c])[st.length]? = some c := by simp
@[simp] theorem set_new {st : Sto} {c d : Cel} : (st ++ [c]).set st.length d = st ++ [d] := by simp
def num (ns : List Int) : Int := ns.foldl (fun a c => 2 * a + c) 0
theorem take_next {α : Type} {l : List α} {k : Nat} {w : α} (h : l[k]? = some w) : l.take (k + 1) = l.take k ++ [w] := by
  have hk : k < l.length := by
    rcases Nat.lt_or_ge k l.length with q | q
    · exact q
    · rw [List.getElem?_eq_none q] at h; cases h
  rw [List.take_succ, h]; rfl
theorem ints_at {ns : List Int} {k : Nat} {w : W} (h : (ns.map W.int)[k]? = some w) : ∃ z, ns[k]? = some z ∧ w = .int z := by
  rw [List.getElem?_map] at h
  obtain ⟨z, h1, h2⟩ := Option.map_eq_some_iff.mp h
  exact ⟨z, h1, h2.symm⟩
@[simp] theorem rngW_len {lo c : Int} {n : Nat} : (rngW lo c n).length = n := by simp [rngW]
theorem fz_ints (n : Nat) (f : Nat → Option W) : ∀ ns : List Int, fz0s n f (ns.map W.int) = some (ns.map W.int)
  | [] => rfl
  | a :: l => by rw [List.map_cons, fz0s, fz_ints n f l]; rfl
theorem fz_bits (n : Nat) (f : Nat → Option W) (ns : List Int) : fz0 n f (bits ns) = some (bits ns) := by
  unfold bits fz0; rw [fz_ints]; rfl
theorem ix_mem {ws : List W} {i : Int} (h : 0 ≤ i) (h2 : i < ws.length) : ∃ w, w ∈ ws ∧ ∀ st, oIx (.lst ws) (.int i) st = .ok w st := by
  have hk : i.toNat < ws.length := by omega
  exact ⟨ws[i.toNat], List.getElem_mem hk, fun st => x_ixL h (by simp)⟩
theorem ne_two {a b : Str} {st : Sto} (h : PyData.strOk a = true) (h2 : PyData.strOk b = true) : oNe (.lst [.str a, .str b]) (.lst [.str a, .str b]) st = .ok (.bl false) st := by
  have e : eqW st (.lst [.str a, .str b]) (.lst [.str a, .str b]) = some true := by
    unfold eqW
    have p : pdT st (.lst [.str a, .str b]) = some (.list [.str a, .str b]) := rfl
    rw [p]
    have s : SeqAt.shaped (.list [.str a, .str b]) = true := by
      unfold SeqAt.shaped
      have c : PyData.canLay0 (.list [.str a, .str b]) = true := by simp only [PyData.canLay0, PyData.canLayAll0, h, h2]; rfl
      rw [c]; rfl
    have q : PyData.eqv (.list [.str a, .str b]) (.list [.str a, .str b]) = true := by
      show ((a == a) && ((b == b) && true)) = true
      simp
    simp only [s, q]; rfl
  unfold oNe; rw [e]; rfl
theorem ok_ints (d : Nat) (ns : List Int) : (ns.map W.int).all (okD (d + 1)) = true := by
  rw [List.all_map, List.all_eq_true]; intro n _; rfl
theorem ok_bits (d : Nat) {ns : List Int} (h : ns.length ≤ 1000000) : okD (d + 2) (bits ns) = true := by
  show (decide ((ns.map W.int).length ≤ 1000000) && (ns.map W.int).all (okD (d + 1))) = true
  rw [ok_ints, List.length_map, decide_eq_true h]; rfl
theorem ok_int (d : Nat) (i : Int) : okD (d + 1) (.int i) = true := rfl
theorem ok_told (d : Nat) {s : Str} {w : W} (h : PyData.strOk s = true) (hw : okD (d + 1) w = true) : okD (d + 2) (.lst [.str s, w]) = true := by
  show (decide (2 ≤ 1000000) && (PyData.strOk s && (okD (d + 1) w && true))) = true
  rw [h, hw]; rfl
theorem both_bits : ∀ {ws ys : List W}, Both (fun (_ : W) y => ∃ b : Int, y = .int b ∧ (b = 0 ∨ b = 1)) ws ys → ∃ ns, Bits ns ∧ ns.length = ws.length ∧ ys = ns.map W.int
  | _, _, .nil => ⟨[], fun _ h => (nomatch h), rfl, rfl⟩
  | _, _, .cons ⟨b, e, hb⟩ r => by
    obtain ⟨ns, h1, h2, h3⟩ := both_bits r
    refine ⟨b :: ns, fun n hn => ?_, by simp [h2], by rw [e, h3]; rfl⟩
    rcases List.mem_cons.mp hn with rfl | hn
    · exact hb
    · exact h1 n hn
theorem bits_app {x y : List Int} {st : Sto} (h : x.length + y.length ≤ 1000000) : oAdd (bits x) (bits y) st = .ok (bits (x ++ y)) st := by
  show (if (x.map W.int).length + (y.map W.int).length ≤ LINE then Out.ok (W.tup (x.map W.int ++ y.map W.int)) st else .bad) = _
  rw [if_pos (by simp [LINE]; omega), ← List.map_append]; rfl
/-! ## lists and tuples, read -/
structure SqW (st : Sto) (w : W) (us : List W) : Prop where
  sq : seqW st w = some us
  it : itW st w = some us
  src : srcOk w us st
  ns : ∀ x, w ≠ .str x
  ty : ∃ t : String, (t = "list" ∨ t = "tuple") ∧ tyW st w = some t
  tup : oTupleP [w] st = .ok (.tpn us) st
theorem SqW.lst {st : Sto} {us : List W} : SqW st (.lst us) us := ⟨rfl, rfl, trivial, fun _ h => (nomatch h), ⟨_, .inl rfl, rfl⟩, rfl⟩
theorem SqW.tpn {st : Sto} {us : List W} : SqW st (.tpn us) us := ⟨rfl, rfl, trivial, fun _ h => (nomatch h), ⟨_, .inr rfl, rfl⟩, rfl⟩
theorem SqW.cell {st : Sto} {k : Nat} {us : List W} (h : st[k]? = some (.lst us)) : SqW st (.cell k) us := by
  have e : lstW st (.cell k) = some us := by simp [lstW, h]
  refine ⟨by simp [seqW, e], e, e, fun _ h => (nomatch h), ⟨"list", .inl rfl, by simp [tyW, h]⟩, ?_⟩
  show (match lstW st (.cell k) with
    | some us => Out.ok (W.tpn us) st
    | none => match tupW st (.cell k) with
      | some _ => .ok (.cell k) st
      | none => .bad) = _
  rw [e]
theorem SqW.len {st : Sto} {w : W} {us : List W} (h : SqW st w us) : oLen [w] st = .ok (.int us.length) st := x_len h.sq h.ns
theorem SqW.iter {st : Sto} {w : W} {us : List W} (h : SqW st w us) {f : Sem} {fr : Fr} (hf : f fr st = .ok w st) : iSeq f fr st = .ok (w, us) st := by
  unfold iSeq; rw [hf, Out.bind_ok]; simp only [h.it]
theorem SqW.ix {st : Sto} {w u : W} {us : List W} (h : SqW st w us) {i : Int} (h0 : 0 ≤ i) (hu : us[i.toNat]? = some u) : oIx w (.int i) st = .ok u st := by
  have hl : i.toNat < us.length := by
    rcases Nat.lt_or_ge i.toNat us.length with q | q
    · exact q
    · rw [List.getElem?_eq_none q] at hu; cases hu
  exact x_ix h.sq h.ns (ixN_ok h0 (by omega)) hu
theorem x_rng2 {l : SemL} {fr : Fr} {st st1 : Sto} {i j : Int} (h : l fr st = .ok [.int i, .int j] st1) (a1 : i ≤ 1000000) (a2 : -1000000 ≤ i) (b1 : j ≤ 1000000) (b2 : -1000000 ≤ j) (hd : j - i ≤ 1000000) : iRng rg2 l fr st = .ok (.non, rngW i 1 (j - i).toNat) st1 := by
  unfold iRng rg2
  rw [h, Out.bind_ok]
  have hi : big i = true := dec_mk (by omega)
  have hj : big j = true := dec_mk (by omega)
  have hl : (j - i).toNat ≤ LINE := by unfold LINE; omega
  simp only [hi, hj, and_self, if_true, if_pos hl]
theorem bls_mapW : ∀ (l : List Bool), blsW (l.map W.bl) = some l
  | [] => rfl
  | b :: l => by rw [List.map_cons, blsW, bls_mapW l]; rfl
theorem oAll_bl {l : List Bool} {st : Sto} : oAll [.lst (l.map W.bl)] st = .ok (.bl (l.all id)) st := by
  unfold oAll oBls
  simp [bls_mapW]
/-! ## signs -/
abbrev sg (c : Nat) : Str := ⟨#[c]⟩
def sgW (cs : List Nat) : List W := cs.map fun c => .str (sg c)
def SGN : Str := "0123456789abcdefghijklmnopqrstuvwxyz"
def okC (c : Nat) : Prop := c ∈ SGN.cps.toList
def Asc (cs : List Nat) : Prop := cs.Pairwise (· < ·)
def adjN (cs : List Nat) : Bool := (List.range (cs.length - 1)).all fun k => decide (cs.getD k 0 < cs.getD (k + 1) 0)
theorem adjN_asc {cs : List Nat} (h : Asc cs) : adjN cs = true := by
  unfold adjN
  rw [List.all_eq_true]
  intro k hk
  have hk := List.mem_range.mp hk
  have h1 : k < cs.length := by omega
  have h2 : k + 1 < cs.length := by omega
  rw [List.getD_eq_getElem?_getD, List.getD_eq_getElem?_getD, List.getElem?_eq_getElem h1, List.getElem?_eq_getElem h2]
  exact decide_eq_true (List.pairwise_iff_getElem.mp h k (k + 1) h1 h2 (by omega))
theorem okC_lt {c : Nat} (h : okC c) : c < 128 := by
  have z : SGN.cps.toList.all (· < 128) = true := by decide +kernel
  exact of_decide_eq_true (List.all_eq_true.mp z c h)
theorem strOk_sg {c : Nat} (h : c < 128) : PyData.strOk (sg c) = true := by
  unfold PyData.strOk
  simp
  omega
@[simp] theorem len_sg {c : Nat} {st : Sto} : oLen [.str (sg c)] st = .ok (.int 1) st := by
  show (if (sg c).length ≤ LINE then Out.ok (W.int ((sg c).length : Nat)) st else .bad) = _
  have e : (sg c).length = 1 := rfl
  rw [e, if_pos (by decide)]; rfl
theorem lt_sg {a b : Nat} {st : Sto} : oLt (.str (sg a)) (.str (sg b)) st = .ok (.bl (decide (a < b))) st := by
  show Out.ok (W.bl (decide ([a] < [b]))) st = _
  congr 2
  by_cases h : a < b
  · rw [decide_eq_true h]; exact decide_eq_true (List.Lex.rel h)
  · rw [decide_eq_false h]
    refine decide_eq_false fun z => ?_
    cases z with
    | rel z => exact h z
    | cons z => cases z
@[simp] theorem is_sign_ok {c : Nat} {st : Sto} (h : okC c) : F_is_sign [.str (sg c)] st = .ok (.bl true) st := by
  refine mk_rt (st1 := st) ?_ rfl
  show B_is_sign [some (.str (sg c))] st = _
  have e : oIn (.str (sg c)) (.str "0123456789abcdefghijklmnopqrstuvwxyz") st = .ok (.bl true) st := by
    show Out.ok (W.bl (decide (c ∈ SGN.cps.toList))) st = _
    rw [decide_eq_true (show c ∈ SGN.cps.toList from h)]
  unfold B_is_sign
  simp [e]
theorem sgW_len {cs : List Nat} : (sgW cs).length = cs.length := by unfold sgW; simp
theorem sgW_at {cs : List Nat} {k c : Nat} (h : cs[k]? = some c) : (sgW cs)[k]? = some (.str (sg c)) := by unfold sgW; rw [List.getElem?_map, h]; rfl
theorem all_true {α : Type} (l : List α) : (l.map fun _ => true).all id = true := by
  rw [List.all_map, List.all_eq_true]; intro _ _; rfl
theorem lc_all {w : W} {us : List W} {st : Sto} {fr : Fr} {i : Nat} {f : Sem} {e : Sem} (h : SqW st w us) (hf : f fr st = .ok w st) (he : ∀ u ∈ us, e ((wipeF fr [i]).set i (some u)) st = .ok (.bl true) st) :
    eLc (iSeq f) (gNm i) [i] tTrue e fr st = .ok (.lst ((us.map fun _ => true).map W.bl)) st := by
  refine x_lc (st1 := st) (x := w) (all := us) (h.iter hf) ?_
  rw [lc_map (f := fun _ => W.bl true) h.src us fun u hu => ⟨_, rfl, rfl, he u hu⟩, List.map_map]
  rfl
def rlEr (p : Str) : Exc := ⟨"BadRule", ["part"], [.str p]⟩
/-! ## numbers within bounds -/
theorem isint_int {i : Int} {st : Sto} : F_is_integer [.int i] st = .ok (.bl true) st := mk_rt (st1 := st) (by simp [B_is_integer]) rfl
theorem betw_int_ok {i lo hi : Int} {st : Sto} : F_is_between [.int i, .int lo, .int hi] st = .ok (.bl (decide (lo ≤ i) && decide (i ≤ hi))) st := by
  refine mk_rt (st1 := st) ?_ rfl
  unfold B_is_between
  simp [isint_int, isI]
  by_cases z : lo ≤ i <;> simp [z]
def inW' (n : Int) (i : Int) : Prop := 0 ≤ i ∧ i < n
theorem betw_in {i n : Int} {st : Sto} (h : inW' n i) : F_is_between [.int i, .int 0, .int (n - 1)] st = .ok (.bl true) st := by
  rw [betw_int_ok, decide_eq_true h.1, decide_eq_true (by have := h.2; omega)]; rfl
def adjI (is : List Int) : Bool := (List.range (is.length - 1)).all fun k => decide (is.getD k 0 < is.getD (k + 1) 0)
theorem adjI_asc {cs : List Int} (h : cs.Pairwise (· < ·)) : adjI cs = true := by
  unfold adjI
  rw [List.all_eq_true]
  intro k hk
  have hk := List.mem_range.mp hk
  have h1 : k < cs.length := by omega
  have h2 : k + 1 < cs.length := by omega
  rw [List.getD_eq_getElem?_getD, List.getD_eq_getElem?_getD, List.getElem?_eq_getElem h1, List.getElem?_eq_getElem h2]
  exact decide_eq_true (List.pairwise_iff_getElem.mp h k (k + 1) h1 h2 (by omega))
/-- the rows of moves, as they stand -/
structure RowsW (st : Sto) (rows : List W) (mv : List (List Int)) (m : Nat) : Prop where
  len : rows.length = mv.length
  row : ∀ (k : Nat) (r : W) (is : List Int), rows[k]? = some r → mv[k]? = some is → SqW st r (is.map W.int) ∧ is.length = m ∧ ∀ i ∈ is, inW' mv.length i
theorem fz_sgs {n : Nat} {f : Nat → Option W} : ∀ l : List Nat, fz0s n f (sgW l) = some (sgW l)
  | [] => rfl
  | a :: l => by
    have ih := fz_sgs (n := n) (f := f) l
    unfold sgW at ih ⊢
    rw [List.map_cons, fz0s, ih]; rfl
/-! ## texts looked at; the last state -/
theorem fin_tpn {ws : List W} (h : ws.all flW = true) {x : W} (hx : flW x = true) {st : Sto} : oIn x (.tup ws) st = .ok (.bl (ws.any fun y => eqF y x)) st := by
  unfold oIn inW
  simp only [show seqW st (.tup ws) = some ws from rfl, hx, h, Bool.and_self, if_true]
theorem nin_tpn {ws : List W} (h : ws.all flW = true) {x : W} (hx : flW x = true) {st : Sto} : oNin x (.tup ws) st = .ok (.bl (!ws.any fun y => eqF y x)) st := by
  unfold oNin inW
  simp only [show seqW st (.tup ws) = some ws from rfl, hx, h, Bool.and_self, if_true]
theorem sgW_flat (cs : List Nat) : (sgW cs).all flW = true := by
  unfold sgW; rw [List.all_map, List.all_eq_true]; intro _ _; rfl
theorem sg_inj {a b : Nat} : (sg a == sg b) = decide (a = b) := by
  by_cases h : a = b
  · subst h; simp
  · rw [decide_eq_false h]
    exact beq_eq_false_iff_ne.mpr fun z => h (by injection z with z; injection z with z; injection z)
theorem sg_any (cs : List Nat) (c : Nat) : ((sgW cs).any fun y => eqF y (.str (sg c))) = decide (c ∈ cs) := by
  unfold sgW
  rw [List.any_map]
  induction cs with
  | nil => rfl
  | cons a cs ih =>
    have e : ((fun y => eqF y (.str (sg c))) ∘ fun c => W.str (sg c)) a = decide (a = c) := sg_inj
    rw [List.any_cons, ih, e]
    by_cases h : a = c
    · subst h; simp
    · have h2 : ¬ c = a := fun z => h z.symm
      simp [h, h2]
theorem int_any (gd : List Int) (i : Int) : ((gd.map W.int).any fun y => eqF y (.int i)) = decide (i ∈ gd) := by
  rw [List.any_map]
  induction gd with
  | nil => rfl
  | cons a cs ih =>
    have e : ((fun y => eqF y (W.int i)) ∘ W.int) a = (a == i) := rfl
    rw [List.any_cons, ih, e]
    by_cases h : a = i
    · subst h; simp
    · have h2 : ¬ i = a := fun z => h z.symm
      simp [h, h2]
theorem int_flat (gd : List Int) : (gd.map W.int).all flW = true := by
  rw [List.all_map, List.all_eq_true]; intro _ _; rfl
theorem sgnW_at {z : Str} {k : Nat} {w : W} (h : (sgnW z)[k]? = some w) : ∃ c, z.cps[k]? = some c ∧ w = .str (sg c) := by
  unfold sgnW at h
  rw [List.getElem?_map, Array.getElem?_toList] at h
  obtain ⟨c, h1, h2⟩ := Option.map_eq_some_iff.mp h
  exact ⟨c, h1, h2.symm⟩
theorem numb_at {ws : List W} {k : Nat} {w : W} (h : (numbered ws)[k]? = some w) : ∃ u, ws[k]? = some u ∧ w = .tup [.int (k : Nat), u] := by
  unfold numbered at h
  rw [List.getElem?_mapIdx] at h
  obtain ⟨c, h1, h2⟩ := Option.map_eq_some_iff.mp h
  exact ⟨c, h1, h2.symm⟩
@[simp] theorem tpn_is {ws : List W} {st : Sto} : isTpn st (.tpn ws) = true := rfl
/-! ## drawn signs, drawn texts -/
theorem pool_old {c : Cel} (n : Nat) (h : Pool c) : oldW n c = true := by
  obtain ⟨ns, p, b, k, s, rfl, _⟩ := h
  unfold plW oldW
  simp only [fz0s, fz0, fz_ints]; rfl
theorem mk_rt3 {m : Nat} {b : SSem} {ws : List W} {st st1 ex : Sto} {w : W} (h : b (ws.map some ++ List.replicate (m - ws.length) none) st = .rt w (st1 ++ ex)) (hl : st1.length = st.length) (hw : ∀ n f, fz0 n f w = some w) (ho : st1.all (oldW st1.length) = true) : mkFn m b ws st = .ok w st1 := by
  unfold mkFn mkFnG; rw [h]
  show leave st.length w (st1 ++ ex) = _
  unfold leave
  rw [← hl]
  split
  · rename_i e
    have : ex = [] := by
      rw [List.length_append] at e
      exact List.eq_nil_of_length_eq_zero (by omega)
    rw [this, List.append_nil]
  · rw [hw]
    simp only [List.take_left, ho, if_true]
theorem mk_nx3 {m : Nat} {b : SSem} {ws : List W} {st st1 ex : Sto} {fr : Fr} (h : b (ws.map some ++ List.replicate (m - ws.length) none) st = .nx fr (st1 ++ ex)) (hl : st1.length = st.length) (ho : st1.all (oldW st1.length) = true) : mkFn m b ws st = .ok .non st1 := by
  unfold mkFn mkFnG; rw [h]
  show leave st.length .non (st1 ++ ex) = _
  unfold leave
  rw [← hl]
  split
  · rename_i e
    have : ex = [] := by
      rw [List.length_append] at e
      exact List.eq_nil_of_length_eq_zero (by omega)
    rw [this, List.append_nil]
  · simp only [fz0, List.take_left, ho, if_true]
/-- signs in order -/
theorem sorted_sgs {found : List Nat} (hn : found.Nodup) : ∃ cs, sortS (found.map sg) = cs.map sg ∧ cs.Perm found ∧ Asc cs := by
  refine ⟨found.mergeSort fun a b => decide (a ≤ b), ?_, List.mergeSort_perm _ _, ?_⟩
  · have pw : (found.mergeSort fun a b => decide (a ≤ b)).Pairwise (fun a b => decide (a ≤ b) = true) := List.pairwise_mergeSort (fun a b c h1 h2 => by simp at h1 h2 ⊢; omega) (fun a b => by simp; omega) found
    refine one_order ((sortS_perm _).trans ((List.mergeSort_perm found _).map sg).symm) (sortS_pw _) ?_ fun a _ b _ h1 h2 => leS_anti h1 h2
    refine List.pairwise_map.mpr (pw.imp fun {a b} h => ?_)
    have h := of_decide_eq_true h
    show (!ltCps [b] [a]) = true
    unfold ltCps
    rw [decide_eq_false (by omega)]
    by_cases e : b = a
    · subst e; simp [ltCps]
    · have q : (b == a) = false := by simpa using e
      simp [q]
  · have pw : (found.mergeSort fun a b => decide (a ≤ b)).Pairwise (fun a b => decide (a ≤ b) = true) := List.pairwise_mergeSort (fun a b c h1 h2 => by simp at h1 h2 ⊢; omega) (fun a b => by simp; omega) found
    have nd : (found.mergeSort fun a b => decide (a ≤ b)).Nodup := (List.mergeSort_perm found _).nodup_iff.mpr hn
    exact (pw.and nd).imp fun {a b} h => by
      have := of_decide_eq_true h.1
      have := h.2
      omega
theorem strsW_sg (cs : List Nat) : strsW (sgW cs) = some (cs.map sg) := by
  have : sgW cs = (cs.map sg).map W.str := by unfold sgW; rw [List.map_map]; rfl
  rw [this]; exact strsW_map _
theorem sgW_erase (cs : List Nat) (j : Nat) : (sgW cs).eraseIdx j = sgW (cs.eraseIdx j) := by
  unfold sgW
  induction cs generalizing j with
  | nil => simp
  | cons a cs ih =>
    cases j with
    | zero => simp
    | succ j => simp only [List.map_cons, List.eraseIdx_cons_succ]; rw [ih]
theorem sgW_app (a b : List Nat) : sgW a ++ sgW b = sgW (a ++ b) := by unfold sgW; rw [List.map_append]
theorem seqIx {r : Int} {n : Nat} (h0 : 0 ≤ r) (h1 : r < n) : seqIndex? r n = some r.toNat := by
  unfold seqIndex?
  have e : ¬ r < 0 := by omega
  simp [e, h0, h1]
theorem perm_erase : ∀ {l : List Nat} {i : Nat} (h : i < l.length), ([l[i]] ++ l.eraseIdx i).Perm l
  | [], i, h => by simp at h
  | a :: l, 0, h => by simp
  | a :: l, i + 1, h => by
    have ih := perm_erase (l := l) (i := i) (by simpa using h)
    simp only [List.getElem_cons_succ, List.eraseIdx_cons_succ, List.singleton_append] at ih ⊢
    exact (List.Perm.swap ..).trans (ih.cons a)
theorem signs_tail {c : Cel} {pre : Sto} {left0 : List Nat} {many : Int} (hp : Pool c) (h0 : 0 ≤ many) (hm : many ≤ left0.length) (hl : left0.length ≤ 40) (hnd : left0.Nodup) (hpre : pre.length = pre.length) :
    ∃ cs c' ex, Pool c' ∧ (cs.length : Int) = many ∧ Asc cs ∧ (∀ x ∈ cs, x ∈ left0) ∧
      (sSeq (sAsg (eN oCell (aNil)) (gNm 3)) (sSeq (sFor (iRng rg1 (aCons (eVar 1) (aNil))) (gNm 4) (sExp (eM isLst mAppend (eVar 3) (aCons (eM isLst mPopAt (eVar 2) (aCons (eCall F_law_draw (aCons (eVar 0) (aCons (eN oLen (aCons (eVar 2) (aNil))) (aNil)))) (aNil))) (aNil))))) (sRet (eN oSortS (aCons (eVar 3) (aNil)))))) [some (.cell 0), some (.int many), some (.cell (1 + pre.length)), none, none] (c :: (pre ++ [.lst (sgW left0)])) = .rt (.lst (sgW cs)) (c' :: ex) := by
  have g1 : ∀ (c : Cel) (l f : List W), (c :: (pre ++ [Cel.lst l, Cel.lst f]))[1 + pre.length]? = some (.lst l) := fun c l f => by
    rw [Nat.add_comm, List.getElem?_cons_succ, List.getElem?_append_right (Nat.le_refl _), Nat.sub_self]; rfl
  have g2 : ∀ (c : Cel) (l f : List W), (c :: (pre ++ [Cel.lst l, Cel.lst f]))[2 + pre.length]? = some (.lst f) := fun c l f => by
    rw [show 2 + pre.length = (pre.length + 1) + 1 by omega, List.getElem?_cons_succ, List.getElem?_append_right (by omega), show pre.length + 1 - pre.length = 1 by omega]; rfl
  have s1 : ∀ (c : Cel) (l f l' : List W), (c :: (pre ++ [Cel.lst l, Cel.lst f])).set (1 + pre.length) (.lst l') = c :: (pre ++ [Cel.lst l', Cel.lst f]) := fun c l f l' => by
    rw [Nat.add_comm, List.set_cons_succ, List.set_append_right _ _ (Nat.le_refl _), Nat.sub_self]; rfl
  have s2 : ∀ (c : Cel) (l f f' : List W), (c :: (pre ++ [Cel.lst l, Cel.lst f])).set (2 + pre.length) (.lst f') = c :: (pre ++ [Cel.lst l, Cel.lst f']) := fun c l f f' => by
    rw [show 2 + pre.length = (pre.length + 1) + 1 by omega, List.set_cons_succ, List.set_append_right _ _ (by omega), show pre.length + 1 - pre.length = 1 by omega]; rfl
  obtain ⟨fr', st', e1, c', left, found, v, p', efr, est, hf, hpm⟩ := x_for (f := iRng rg1 (aCons (eVar 1) (aNil))) (g := gNm 4) (b := (sExp (eM isLst mAppend (eVar 3) (aCons (eM isLst mPopAt (eVar 2) (aCons (eCall F_law_draw (aCons (eVar 0) (aCons (eN oLen (aCons (eVar 2) (aNil))) (aNil)))) (aNil))) (aNil)))))
    (fr := [some (.cell 0), some (.int many), some (.cell (1 + pre.length)), some (.cell (2 + pre.length)), none]) (st := c :: (pre ++ [.lst (sgW left0), .lst []])) (st1 := c :: (pre ++ [.lst (sgW left0), .lst []])) (x := .non) (all := rngW 0 1 many.toNat)
    (x_rng1 (by simp) (by omega) (by omega))
    (fun k fr s => ∃ (c : Cel) (left found : List Nat) (v : Option W), Pool c ∧ fr = [some (.cell 0), some (.int many), some (.cell (1 + pre.length)), some (.cell (2 + pre.length)), v] ∧ s = c :: (pre ++ [.lst (sgW left), .lst (sgW found)]) ∧ found.length = k ∧ (found ++ left).Perm left0)
    ⟨c, left0, [], none, hp, rfl, rfl, rfl, .refl _⟩ (fun _ _ _ _ => trivial) (by
      rintro k fr s w ⟨c, left, found, v, hp, rfl, rfl, rfl, hpm⟩ hk
      obtain ⟨hk1, rfl⟩ := rngW_at hk
      have hlen := hpm.length_eq
      rw [List.length_append] at hlen
      have hpos : 0 < left.length := by omega
      obtain ⟨r, c1, p1, r0, r1, dr⟩ := draw_ok (m := (left.length : Int)) hp (by omega) (log_small (by omega) (by omega))
      have hr : r.toNat < left.length := by omega
      refine ⟨[some (.cell 0), some (.int many), some (.cell (1 + pre.length)), some (.cell (2 + pre.length)), some (.int (0 + (found.length : Int) * 1))], [some (.cell 0), some (.int many), some (.cell (1 + pre.length)), some (.cell (2 + pre.length)), some (.int (0 + (found.length : Int) * 1))], c1 :: (pre ++ [.lst (sgW (left.eraseIdx r.toNat)), .lst (sgW (found ++ [left[r.toNat]]))]), rfl, .inl ?_, c1, left.eraseIdx r.toNat, found ++ [left[r.toNat]], _, p1, rfl, rfl, by simp, ?_⟩
      · have q1 : isLst (c :: (pre ++ [Cel.lst (sgW left), Cel.lst (sgW found)])) (.cell (2 + pre.length)) = true := by unfold isLst lstW; simp only [g2]; rfl
        have q2 : isLst (c :: (pre ++ [Cel.lst (sgW left), Cel.lst (sgW found)])) (.cell (1 + pre.length)) = true := by unfold isLst lstW; simp only [g1]; rfl
        have q3 : oLen [.cell (1 + pre.length)] (c :: (pre ++ [Cel.lst (sgW left), Cel.lst (sgW found)])) = .ok (.int left.length) (c :: (pre ++ [Cel.lst (sgW left), Cel.lst (sgW found)])) := by
          have := (SqW.cell (g1 c (sgW left) (sgW found))).len
          rw [sgW_len] at this
          exact this
        have q4 : mPopAt (.cell (1 + pre.length)) [.int r] (c1 :: (pre ++ [Cel.lst (sgW left), Cel.lst (sgW found)])) = .ok (.str (sg left[r.toNat])) (c1 :: (pre ++ [Cel.lst (sgW (left.eraseIdx r.toNat)), Cel.lst (sgW found)])) := by
          unfold mPopAt
          simp only [g1, show dec (-(2 ^ 63) ≤ r ∧ r < 2 ^ 63) = true from dec_mk ⟨by omega, by omega⟩, if_true, sgW_len, seqIx r0 r1, sgW_at (List.getElem?_eq_getElem hr), s1, sgW_erase]
        have q5 : mAppend (.cell (2 + pre.length)) [.str (sg left[r.toNat])] (c1 :: (pre ++ [Cel.lst (sgW (left.eraseIdx r.toNat)), Cel.lst (sgW found)])) = .ok .non (c1 :: (pre ++ [Cel.lst (sgW (left.eraseIdx r.toNat)), Cel.lst (sgW (found ++ [left[r.toNat]]))])) := by
          unfold mAppend
          have hlt : (sgW found).length < LINE := by rw [sgW_len]; unfold LINE; omega
          simp only [g2, if_pos hlt, s2]
          rw [← sgW_app]; rfl
        simp only [x_exp, x_eM, x_var, fg3, fg2, fg0, Out.bind_ok, q1, q2, if_true, x_aCons, x_aNil, x_call, x_N, q3, dr, q4, q5, Out.stm_ok]
      · refine List.Perm.trans ?_ hpm
        rw [List.append_assoc]
        refine List.Perm.append_left _ ?_
        exact perm_erase hr)
  have hnn : (rngW 0 1 many.toNat).length = many.toNat := rngW_length 0 1 _
  rw [hnn] at hf
  have hfn : found.Nodup := by
    have : (found ++ left).Nodup := hpm.nodup_iff.mpr hnd
    exact (List.nodup_append.mp this).1
  obtain ⟨cs, k1, k2, k3⟩ := sorted_sgs hfn
  refine ⟨cs, c', pre ++ [.lst (sgW left), .lst (sgW found)], p', by have := k2.length_eq; omega, k3, fun x hx => hpm.mem_iff.mp (List.mem_append_left _ (k2.mem_iff.mp hx)), ?_⟩
  rw [efr, est] at e1
  refine asg_to (w := .cell (2 + pre.length)) (st1 := c :: (pre ++ [.lst (sgW left0), .lst []])) ?_ ?_
  · simp only [x_N, x_aNil, Out.bind_ok, x_cell (ws := []) (by decide)]
    congr 1
    · rw [List.length_cons, List.length_append]; simp; omega
    · simp
  simp only [fs3]
  refine seq_to e1 ?_
  have q : oSortS [.cell (2 + pre.length)] (c' :: (pre ++ [Cel.lst (sgW left), Cel.lst (sgW found)])) = .ok (.lst (sgW cs)) (c' :: (pre ++ [Cel.lst (sgW left), Cel.lst (sgW found)])) := by
    unfold oSortS
    have e : lstW (c' :: (pre ++ [Cel.lst (sgW left), Cel.lst (sgW found)])) (.cell (2 + pre.length)) = some (sgW found) := by unfold lstW; simp only [g2]
    have hlt : (found.map sg).length < 64 := by rw [List.length_map]; omega
    simp only [e, Option.bind_some, strsW_sg, if_pos hlt, k1]
    congr 2
    unfold sgW; rw [List.map_map]; rfl
  simp only [x_ret, x_N, x_aCons, x_var, fg3, x_aNil, Out.bind_ok, q, Out.stm_ok]
def digs : List Nat := ("0123456789abcdefghijklmnopqrstuvwxyz" : Str).cps.toList
def lets12 : List Nat := ("abcdefghijkl" : Str).cps.toList
theorem signs_ok {c : Cel} {many : Int} (hp : Pool c) (h0 : 0 ≤ many) (hm : many ≤ 12) : ∃ cs c', Pool c' ∧ (cs.length : Int) = many ∧ Asc cs ∧ (∀ x ∈ cs, okC x) ∧ F_law_signs [.cell 0, .int many] [c] = .ok (.lst (sgW cs)) [c'] := by
  obtain ⟨r, c1, p1, r0, r1, dr⟩ := draw_ok (m := 3) hp (by decide) (log_small (by decide) (by decide))
  have hw : ∀ (cs : List Nat) n f, fz0 n f (.lst (sgW cs)) = some (.lst (sgW cs)) := fun cs n f => by unfold fz0; rw [fz_sgs]; rfl
  have d1 : ∀ st, oListSC [.str "0123456789abcdefghijklmnopqrstuvwxyz"] st = .ok (.cell st.length) (st ++ [.lst (sgW digs)]) := fun st => rfl
  have d2 : ∀ st, oListSC [.str "abcdefghijkl"] st = .ok (.cell st.length) (st ++ [.lst (sgW lets12)]) := fun st => rfl
  by_cases hr : 0 < r
  · obtain ⟨cs, c', ex, p', k1, k2, k3, e⟩ := signs_tail (pre := [.lst (sgW digs)]) (left0 := lets12) (many := many) p1 h0 (by
      have : lets12.length = 12 := by decide +kernel
      omega) (by decide +kernel) (by decide +kernel) rfl
    refine ⟨cs, c', p', k1, k2, fun x hx => ?_, mk_rt3 (st1 := [c']) (ex := ex) ?_ rfl (hw cs) (by simp [pool_old _ p'])⟩
    · have z : lets12.all (fun x => decide (x ∈ SGN.cps.toList)) = true := by decide +kernel
      show x ∈ SGN.cps.toList
      exact of_decide_eq_true (List.all_eq_true.mp z x (k3 x hx))
    · show B_law_signs [some (.cell 0), some (.int many), none, none, none] [c] = _
      unfold B_law_signs
      refine asg_to (w := .cell 1) (st1 := [c, .lst (sgW digs)]) (by simp [d1]) ?_
      refine seq_to (fr1 := [some (.cell 0), some (.int many), some (.cell 2), none, none]) (st1 := [c1, .lst (sgW digs), .lst (sgW lets12)]) ?_ e
      simp [dr, hr, d2]
  · obtain ⟨cs, c', ex, p', k1, k2, k3, e⟩ := signs_tail (pre := []) (left0 := digs) (many := many) p1 h0 (by
      have : digs.length = 36 := by decide +kernel
      omega) (by decide +kernel) (by decide +kernel) rfl
    refine ⟨cs, c', p', k1, k2, fun x hx => ?_, mk_rt3 (st1 := [c']) (ex := ex) ?_ rfl (hw cs) (by simp [pool_old _ p'])⟩
    · exact k3 x hx
    · show B_law_signs [some (.cell 0), some (.int many), none, none, none] [c] = _
      unfold B_law_signs
      refine asg_to (w := .cell 1) (st1 := [c, .lst (sgW digs)]) (by simp [d1]) ?_
      refine seq_to (fr1 := [some (.cell 0), some (.int many), some (.cell 1), none, none]) (st1 := [c1, .lst (sgW digs)]) ?_ e
      simp [dr, hr]
/-! ## drawn texts -/
theorem join_sg : ∀ zs : List Nat, (Str.join "" (zs.map sg)).cps.toList = zs
  | [] => rfl
  | [a] => rfl
  | a :: b :: r => by
    have ih := join_sg (b :: r)
    show ((sg a ++ "" ++ Str.join "" ((b :: r).map sg)) : Str).cps.toList = _
    have e : ∀ x y : Str, (x ++ y).cps.toList = x.cps.toList ++ y.cps.toList := fun x y => Array.toList_append
    rw [e, e, ih]; rfl
theorem join_is (zs : List Nat) : Txt.join "" (zs.map sg) = ⟨zs.toArray⟩ := by
  rw [TL.join_eq]
  exact str_ext (by rw [join_sg])
theorem both_sg {cs : List Nat} : ∀ {l : List W} {ys : List W}, Both (fun (_ : W) y => ∃ x, x ∈ cs ∧ y = .str (sg x)) l ys → ∃ zs : List Nat, ys = sgW zs ∧ zs.length = l.length ∧ ∀ x ∈ zs, x ∈ cs
  | _, _, .nil => ⟨[], rfl, rfl, fun _ h => (nomatch h)⟩
  | _, _, .cons ⟨x, hx, e⟩ r => by
    obtain ⟨zs, rfl, h2, h3⟩ := both_sg r
    subst e
    exact ⟨x :: zs, rfl, by simp [h2], fun y hy => by
      rcases List.mem_cons.mp hy with rfl | hy
      · exact hx
      · exact h3 y hy⟩
/-! ## books: what is in them -/
def kkS (cs : List Nat) : List Key := cs.map fun c => .inr (sg c)
theorem keys_sg : ∀ cs : List Nat, mapO keyW (sgW cs) = some (kkS cs)
  | [] => rfl
  | c :: cs => by
    have ih := keys_sg cs
    unfold sgW kkS at ih ⊢
    rw [List.map_cons, mapO, ih]; rfl
def bitsL (P : List (List Int)) : List W := P.map bits
theorem fz_bitsL (n : Nat) (f : Nat → Option W) : ∀ P : List (List Int), fz0s n f (bitsL P) = some (bitsL P)
  | [] => rfl
  | r :: P => by
    have ih := fz_bitsL n f P
    unfold bitsL at ih ⊢
    rw [List.map_cons, fz0s, fz_bits, ih]
theorem old_dct {n : Nat} {ks : List W} {P : List (List Int)} : oldW n (.dct ks (bitsL P)) = true := by
  show (fz0s n (fun _ => none) (bitsL P)).isSome = true
  rw [fz_bitsL]; rfl
theorem kind_sg (cs : List Nat) : kindW (sgW cs) = some (false, .inl (kkS cs)) := kind_plain (keys_sg cs)
theorem dctW_cell {st : Sto} {k : Nat} {cs : List Nat} {ws : List W} (h : st[k]? = some (.dct (sgW cs) ws)) : dctW st (.cell k) = some (kkS cs, ws) := by
  unfold dctW; simp only [h, kind_sg]
theorem dctW_d {st : Sto} {cs : List Nat} {ws : List W} : dctW st (.dct (sgW cs) ws) = some (kkS cs, ws) := by
  unfold dctW; simp only [kind_sg]
theorem dctKs_cell {st : Sto} {k : Nat} {ks ws : List W} (h : st[k]? = some (.dct ks ws)) : dctKs st (.cell k) = some (ks, ws) := by
  unfold dctKs; simp only [h]
theorem kkS_len (cs : List Nat) : (kkS cs).length = cs.length := by unfold kkS; simp
theorem bitsL_len (P : List (List Int)) : (bitsL P).length = P.length := by unfold bitsL; simp
theorem tlK_sg : ∀ cs : List Nat, tlK (sgW cs) = false
  | [] => rfl
  | _ :: _ => rfl
/-- the row that stands at a sign -/
def lookR (cs : List Nat) (P : List (List Int)) (c : Nat) : Option (List Int) := ((cs.zip P).find? fun p => decide (p.1 = c)).map (·.2)
theorem sg_eq {a b : Nat} : (sg a = sg b) ↔ a = b := ⟨fun z => by injection z with z; injection z with z; injection z, fun h => by rw [h]⟩
theorem val_look (c : Nat) : ∀ (cs : List Nat) (P : List (List Int)), valW ((kkS cs).zip (bitsL P)) (.inr (sg c)) = (lookR cs P c).map bits
  | [], P => rfl
  | a :: cs, [] => rfl
  | a :: cs, r :: P => by
    have ih := val_look c cs P
    unfold valW lookR kkS bitsL at ih ⊢
    rw [List.map_cons, List.map_cons, List.zip_cons_cons, List.zip_cons_cons, List.find?_cons, List.find?_cons]
    by_cases h : a = c
    · subst h; simp
    · have h1 : ¬ (Sum.inr (sg a) : Key) = Sum.inr (sg c) := fun z => h (sg_eq.mp (Sum.inr.inj z))
      simp only [decide_eq_false h, decide_eq_false h1]
      exact ih
theorem look_at {c : Nat} {r : List Int} : ∀ {cs : List Nat} {P : List (List Int)} {k : Nat}, cs.Nodup → cs[k]? = some c → P[k]? = some r → lookR cs P c = some r
  | [], _, _, _, h, _ => by simp at h
  | a :: cs, [], k, _, _, h => by simp at h
  | a :: cs, x :: P, 0, _, h1, h2 => by
    simp at h1 h2; subst h1; subst h2; unfold lookR; simp
  | a :: cs, x :: P, k + 1, hn, h1, h2 => by
    obtain ⟨n1, n2⟩ := List.nodup_cons.mp hn
    have ih := look_at (c := c) (r := r) (cs := cs) (P := P) (k := k) n2 (by simpa using h1) (by simpa using h2)
    have hne : ¬ a = c := fun z => n1 (by rw [z]; exact List.mem_of_getElem? (by simpa using h1))
    unfold lookR at ih ⊢
    rw [List.zip_cons_cons, List.find?_cons]
    simp only [decide_eq_false hne]
    exact ih
theorem look_no {c : Nat} : ∀ {cs : List Nat} {P : List (List Int)}, c ∉ cs → lookR cs P c = none
  | [], P, h => rfl
  | a :: cs, [], h => rfl
  | a :: cs, x :: P, h => by
    have ih := look_no (c := c) (cs := cs) (P := P) (fun z => h (List.mem_cons_of_mem _ z))
    have hne : ¬ a = c := fun z => h (by rw [z]; exact List.mem_cons_self)
    unfold lookR at ih ⊢
    rw [List.zip_cons_cons, List.find?_cons]
    simp only [decide_eq_false hne]
    exact ih
theorem asc_nodup {cs : List Nat} (h : Asc cs) : cs.Nodup := h.imp fun {a b} h => by omega
theorem look_mem {c : Nat} {cs : List Nat} {P : List (List Int)} (hn : cs.Nodup) (hl : P.length = cs.length) (h : c ∈ cs) : ∃ r, lookR cs P c = some r ∧ r ∈ P := by
  obtain ⟨k, hk, rfl⟩ := List.getElem_of_mem h
  have hk2 : k < P.length := by omega
  exact ⟨P[k], look_at hn (List.getElem?_eq_getElem hk) (List.getElem?_eq_getElem hk2), List.getElem_mem hk2⟩
theorem kv_at {cs : List Nat} {P : List (List Int)} {k : Nat} {w : W} (h : (kvT (sgW cs) (bitsL P))[k]? = some w) : ∃ c r, cs[k]? = some c ∧ P[k]? = some r ∧ w = .tup [.str (sg c), bits r] := by
  unfold kvT at h
  rw [List.getElem?_map] at h
  obtain ⟨p, h1, h2⟩ := Option.map_eq_some_iff.mp h
  obtain ⟨h3, h4⟩ := List.getElem?_zip_eq_some.mp h1
  unfold sgW at h3; unfold bitsL at h4
  rw [List.getElem?_map] at h3 h4
  obtain ⟨c, h5, h6⟩ := Option.map_eq_some_iff.mp h3
  obtain ⟨r, h7, h8⟩ := Option.map_eq_some_iff.mp h4
  exact ⟨c, r, h5, h7, by rw [← h2, ← h6, ← h8]⟩
structure BkOk (cs : List Nat) (n : Nat) (P : List (List Int)) (s t : List Int) : Prop where
  c1 : 1 ≤ cs.length
  c10 : cs.length ≤ 10
  ok : ∀ c ∈ cs, okC c
  asc : Asc cs
  len : P.length = cs.length
  n1 : 1 ≤ n
  n6 : n ≤ 6
  row : ∀ r ∈ P, r.length = n ∧ Bits r
  rs : s.length = n ∧ Bits s
  rt : t.length = n ∧ Bits t
  nd : (P ++ [s, t]).Nodup
theorem oDLen_ok {st : Sto} {k : Nat} {cs : List Nat} {P : List (List Int)} (h : st[k]? = some (.dct (sgW cs) (bitsL P))) (hl : P.length = cs.length) : oDLen [.cell k] st = .ok (.int cs.length) st := by
  unfold oDLen; simp only [dctW_cell h, kkS_len]
theorem isdict_ok {st : Sto} {k : Nat} {cs : List Nat} {ws : List W} (h : st[k]? = some (.dct (sgW cs) ws)) : oIsi [.cell k, .ty "dict"] st = .ok (.bl true) st := by
  have e : tyW st (.cell k) = some "dict" := by unfold tyW; simp only [h, tlK_sg]; rfl
  rw [oIsi_eq e tyN_dict tyN_dict, subT_dict_dict]
theorem min_rep {n : Nat} {i : Int} (h : 1 ≤ n) : IsMin (List.replicate n i) i ∧ IsMax (List.replicate n i) i := by
  refine ⟨⟨?_, ?_⟩, ?_, ?_⟩
  · rw [List.mem_replicate]; exact ⟨by omega, rfl⟩
  · intro x hx; rw [List.mem_replicate] at hx; omega
  · rw [List.mem_replicate]; exact ⟨by omega, rfl⟩
  · intro x hx; rw [List.mem_replicate] at hx; omega
theorem ints_map : ∀ is : List Int, intsW (is.map W.int) = some is
  | [] => rfl
  | i :: is => by rw [List.map_cons, intsW, ints_map is]; rfl
theorem are_patterns_ok {st : Sto} {k n : Nat} {cs : List Nat} {P : List (List Int)} (hk : st[k]? = some (.dct (sgW cs) (bitsL P))) (hl : P.length = cs.length) (c1 : 1 ≤ cs.length) (c10 : cs.length ≤ 10) (ok : ∀ c ∈ cs, okC c)
    (n1 : 1 ≤ n) (n6 : n ≤ 6) (row : ∀ r ∈ P, r.length = n ∧ Bits r) (ho : st.all (oldW st.length) = true) : F_are_patterns [.cell k] st = .ok (.bl true) st := by
  have hkl : k < st.length := (List.getElem?_eq_some_iff.mp hk).1
  have hset : ∀ c : Cel, (st.set k c).length = st.length := fun c => List.length_set
  refine mk_rt2 (ex := [.lst (List.replicate cs.length (W.int n))]) ?_ (fun _ _ => by simp only [fz0]) ho
  show B_are_patterns [some (.cell k), none, none, none] st = _
  have d1 : (1 : Int) ≤ (cs.length : Int) := by omega
  have d2 : (cs.length : Int) ≤ 10 := by omega
  unfold B_are_patterns
  refine if_no (st1 := st) (st2 := st) ?_ rfl ?_
  · simp [isdict_ok hk, oDLen_ok hk hl, d1, d2]
  refine asg_to (w := .cell st.length) (st1 := st ++ [.lst []]) (by simp [x_cell (ws := []) (by decide)]) ?_
  simp only [fs1]
  have hk1 : (st ++ [Cel.lst []])[k]? = some (.dct (sgW cs) (bitsL P)) := by rw [List.getElem?_append_left hkl]; exact hk
  obtain ⟨L, hL⟩ : ∃ L, L = st.set k (.dct (lkL (sgW cs)) (bitsL P)) := ⟨_, rfl⟩
  have hLl : L.length = st.length := by rw [hL]; exact hset _
  have hLk : ∀ ws, (L ++ [Cel.lst ws])[k]? = some (.dct (lkL (sgW cs)) (bitsL P)) := fun ws => by
    rw [List.getElem?_append_left (by rw [hLl]; exact hkl), hL, List.getElem?_set_self hkl]
  have hset1 : (st ++ [Cel.lst []]).set k (.dct (lkL (sgW cs)) (bitsL P)) = L ++ [Cel.lst []] := by
    rw [hL, List.set_append_left _ _ hkl]
  obtain ⟨fr', st', e1, u, v, efr, est⟩ := x_for (f := (iItemsX (eVar 0))) (g := (gTl 2 (gsCons (gNm 2) (gsCons (gNm 3) (gsNil))))) (b := (sSeq (sIf (bOr (bNot (bOf (eCall F_is_sign (aCons (eVar 2) (aNil))))) (bOr (bNot (bOf (eCall F_is_row (aCons (eVar 3) (aNil))))) (bNot (bOf (eChain oLe oLe (eC (.int 1)) (eN oLen (aCons (eVar 3) (aNil))) (eC (.int 6))))))) (sRet (eC (.bl false))) (sNil)) (sExp (eM isLst mAppend (eVar 1) (aCons (eN oLen (aCons (eVar 3) (aNil))) (aNil))))))
    (fr := [some (.cell k), some (.cell st.length), none, none]) (st := L ++ [Cel.lst []]) (st1 := L ++ [Cel.lst []]) (x := .non) (all := kvT (sgW cs) (bitsL P))
    (by
      unfold iItemsX
      simp only [x_var, fg0, Out.bind_ok, hLk, lkL, if_true, keys_sg, sgW_len, bitsL_len]
      rw [if_pos ⟨by unfold LINE; omega, hl.symm⟩])
    (fun i fr s => ∃ u v, fr = [some (.cell k), some (.cell st.length), u, v] ∧ s = L ++ [Cel.lst (List.replicate i (W.int n))]) ⟨none, none, rfl, rfl⟩ (fun _ _ _ _ => trivial) (by
      rintro i fr s w ⟨u, v, rfl, rfl⟩ hi
      obtain ⟨c, r, h1, h2, rfl⟩ := kv_at hi
      obtain ⟨r1, r2⟩ := row r (List.mem_of_getElem? h2)
      have hil : i < cs.length := (List.getElem?_eq_some_iff.mp h1).1
      have q1 : isLst (L ++ [Cel.lst (List.replicate i (W.int n))]) (.cell st.length) = true := by unfold isLst lstW; rw [← hLl]; simp only [get_new]; rfl
      have q2 : mAppend (.cell st.length) [.int n] (L ++ [Cel.lst (List.replicate i (W.int n))]) = .ok .non (L ++ [Cel.lst (List.replicate (i + 1) (W.int n))]) := by
        have hlt : (List.replicate i (W.int n)).length < LINE := by simp; unfold LINE; omega
        unfold mAppend
        rw [← hLl]
        simp only [get_new, if_pos hlt, set_new]
        rw [List.replicate_succ']
      have q3 : oLen [bits r] (L ++ [Cel.lst (List.replicate i (W.int n))]) = .ok (.int n) (L ++ [Cel.lst (List.replicate i (W.int n))]) := by
        unfold bits; rw [x_len_tup, List.length_map, r1]
      have m1 : (1 : Int) ≤ n := by omega
      have m2 : (n : Int) ≤ 6 := by omega
      refine ⟨[some (.cell k), some (.cell st.length), some (.str (sg c)), some (bits r)], [some (.cell k), some (.cell st.length), some (.str (sg c)), some (bits r)], L ++ [Cel.lst (List.replicate (i + 1) (W.int n))], rfl, .inl ?_, some (.str (sg c)), some (bits r), rfl, rfl⟩
      refine if_no (st1 := L ++ [Cel.lst (List.replicate i (W.int n))]) (st2 := L ++ [Cel.lst (List.replicate i (W.int n))]) ?_ rfl ?_
      · simp [is_sign_ok (ok c (List.mem_of_getElem? h1)), is_row_ok (bits_ok r), bits_row r2, q3, m1, m2]
      · simp [q1, q3, q2])
  rw [efr, est] at e1
  have hn : (kvT (sgW cs) (bitsL P)).length = cs.length := by unfold kvT; simp [sgW_len, bitsL_len, hl]
  rw [hn] at e1
  have e2' : sLockX (eVar 0) (sFor (iItemsX (eVar 0)) (gTl 2 (gsCons (gNm 2) (gsCons (gNm 3) (gsNil)))) (sSeq (sIf (bOr (bNot (bOf (eCall F_is_sign (aCons (eVar 2) (aNil))))) (bOr (bNot (bOf (eCall F_is_row (aCons (eVar 3) (aNil))))) (bNot (bOf (eChain oLe oLe (eC (.int 1)) (eN oLen (aCons (eVar 3) (aNil))) (eC (.int 6))))))) (sRet (eC (.bl false))) (sNil)) (sExp (eM isLst mAppend (eVar 1) (aCons (eN oLen (aCons (eVar 3) (aNil))) (aNil)))))) [some (.cell k), some (.cell st.length), none, none] (st ++ [Cel.lst []]) = .nx [some (.cell k), some (.cell st.length), u, v] (st ++ [Cel.lst (List.replicate cs.length (W.int n))]) := by
    unfold sLockX
    simp only [x_var, fg0, hk1, keys_sg, hset1, e1]
    unfold unlS unlk
    simp only [hLk, lkL, if_true, keys_sg]
    rw [List.set_append_left _ _ (by rw [hLl]; exact hkl), hL, List.set_set]
    rw [show st.set k (.dct (sgW cs) (bitsL P)) = st from by
      refine List.ext_getElem? fun i => ?_
      rcases Nat.decEq i k with h | h
      · rw [List.getElem?_set_ne (Ne.symm h)]
      · rw [h, List.getElem?_set_self hkl, hk]]
  refine seq_to e2' ?_
  have w1 : ((seqW (st ++ [Cel.lst (List.replicate cs.length (W.int n))]) (.cell st.length)).bind intsW) = some (List.replicate cs.length (n : Int)) := by
    unfold seqW lstW
    simp only [get_new]
    rw [show List.replicate cs.length (W.int (n : Int)) = (List.replicate cs.length (n : Int)).map W.int by rw [List.map_replicate]]
    exact ints_map _
  obtain ⟨b1, b2⟩ := min_rep (i := (n : Int)) c1
  have w2 : oBestX IsMin [.cell st.length] (st ++ [Cel.lst (List.replicate cs.length (W.int n))]) = .ok (.int n) (st ++ [Cel.lst (List.replicate cs.length (W.int n))]) := by
    unfold oBestX; simp only [w1, theOne_is b1 fun _ g => min_one b1 g]
  have w3 : oBestX IsMax [.cell st.length] (st ++ [Cel.lst (List.replicate cs.length (W.int n))]) = .ok (.int n) (st ++ [Cel.lst (List.replicate cs.length (W.int n))]) := by
    unfold oBestX; simp only [w1, theOne_is b2 fun _ g => max_one b2 g]
  simp only [x_ret, x_2, x_N, x_aCons, x_var, fg1, x_aNil, Out.bind_ok, w2, w3, Out.stm_ok]
  simp
/-! ## a book made -/
def bkNs : List Str := ["signs", "width", "start", "stop", "_rows"]
def bkV (cs : List Nat) (n : Nat) (P : List (List Int)) (s t : List Int) : List W := [.tup (sgW cs), .int n, bits s, bits t, .dct (sgW cs) (bitsL P)]
def bk (cs : List Nat) (n : Nat) (P : List (List Int)) (s t : List Int) : W := .ins "Book" bkNs (bkV cs n P s t)
theorem fldC {S : Sto} {m : Nat} {ns : List Str} {ws : List W} {x : Str} {u : W} {f : Sem} {fr : Fr} (hf : f fr S = .ok (.cell m) S) (hm : S[m]? = some (.ins "Book" ns ws)) (hl : lkp ns ws x = some u) : eFld ["Book"] x f fr S = .ok u S := by
  unfold eFld; rw [hf]
  simp only [Out.bind_ok, insW, hm, hl]
  rfl
theorem fldI {S S1 : Sto} {ns : List Str} {ws : List W} {x : Str} {u : W} {f : Sem} {fr : Fr} (hf : f fr S = .ok (.ins "Book" ns ws) S1) (hl : lkp ns ws x = some u) : eFld ["Book"] x f fr S = .ok u S1 := by
  unfold eFld; rw [hf]
  simp only [Out.bind_ok, insW, hl]
  rfl
theorem stF {S S1 : Sto} {m : Nat} {ns : List Str} {ws : List W} {x : Str} {w : W} {e o : Sem} {fr : Fr} (he : e fr S = .ok w S1) (ho : o fr S1 = .ok (.cell m) S1) (hm : S1[m]? = some (.ins "Book" ns ws)) (hl : ns.length < 1000) : sFldS ["Book"] x e o fr S = .nx fr (S1.set m (.ins "Book" (putNs x ns) (putL x w ns ws))) := by
  unfold sFldS; rw [he]
  simp only [Out.stm_ok, ho, hm]
  rw [if_pos ⟨rfl, hl⟩]
@[simp] theorem at_end {st : Sto} {c : Cel} {r : Sto} : (st ++ c :: r)[st.length]? = some c := by simp
@[simp] theorem at_end1 {st : Sto} {c d : Cel} {r : Sto} : (st ++ c :: d :: r)[st.length + 1]? = some d := by
  rw [List.getElem?_append_right (by omega), show st.length + 1 - st.length = 1 by omega]; rfl
@[simp] theorem set_end {st : Sto} {c d : Cel} {r : Sto} : (st ++ c :: r).set st.length d = st ++ d :: r := by simp
@[simp] theorem set_end1 {st : Sto} {c d e : Cel} {r : Sto} : (st ++ c :: d :: r).set (st.length + 1) e = st ++ c :: e :: r := by
  rw [List.set_append_right _ _ (by omega), show st.length + 1 - st.length = 1 by omega]; rfl
theorem txt_sg : ∀ cs : List Nat, txtKs (kkS cs) = some (cs.map sg)
  | [] => rfl
  | c :: cs => by
    have ih := txt_sg cs
    unfold kkS at ih ⊢
    rw [List.map_cons, txtKs, ih]; rfl
theorem asc_one : ∀ {l m : List Nat}, l.Perm m → Asc l → Asc m → l = m
  | l, m, h, a, b => one_order h (a.imp fun {x y} h => (by omega : x ≤ y)) (b.imp fun {x y} h => (by omega : x ≤ y)) fun a _ b _ h1 h2 => Nat.le_antisymm h1 h2
theorem sort_asc {cs : List Nat} (h : Asc cs) : sortS (cs.map sg) = cs.map sg := by
  obtain ⟨ds, h1, h2, h3⟩ := sorted_sgs (asc_nodup h)
  rw [h1, asc_one h2 h3 h]
theorem sortD_ok {st : Sto} {k : Nat} {cs : List Nat} {ws : List W} (hk : st[k]? = some (.dct (sgW cs) ws)) (ha : Asc cs) (hl : cs.length < 64) : oSortD [.cell k] st = .ok (.lst (sgW cs)) st := by
  unfold oSortD
  simp only [dctW_cell hk, txt_sg, List.length_map, if_pos hl, sort_asc ha]
  congr 2
  unfold sgW; rw [List.map_map]; rfl
theorem dget_cell {st : Sto} {k c : Nat} {cs : List Nat} {P : List (List Int)} {r : List Int} (hk : st[k]? = some (.dct (sgW cs) (bitsL P))) (h : lookR cs P c = some r) : oDGet (.cell k) (.str (sg c)) st = .ok (bits r) st := by
  unfold oDGet
  simp only [dctW_cell hk, keyW, val_look, h, Option.map_some]
theorem is_row_of_ok {r : List Int} {n : Nat} {st : Sto} (h : r.length = n ∧ Bits r) : F_is_row_of [bits r, .int n] st = .ok (.bl true) st := by
  refine mk_rt (st1 := st) ?_ rfl
  show B_is_row_of [some (bits r), some (.int n)] st = _
  have q3 : oLen [bits r] st = .ok (.int n) st := by unfold bits; rw [x_len_tup, List.length_map, h.1]
  unfold B_is_row_of
  simp [is_row_ok (bits_ok r), bits_row h.2, q3]
theorem tups_bits : ∀ {P : List (List Int)}, tupsI (bitsL P) = some P
  | [] => rfl
  | r :: P => by
    have ih := tups_bits (P := P)
    unfold bitsL at ih ⊢
    rw [List.map_cons]
    show tupsI (.tup (r.map W.int) :: P.map bits) = _
    unfold tupsI
    simp only [ints_map, ih]
theorem once_nodup : ∀ {l : List (List Int)}, l.Nodup → onceL l = l
  | [], _ => rfl
  | a :: l, h => by
    obtain ⟨h1, h2⟩ := List.nodup_cons.mp h
    unfold onceL
    rw [once_nodup h2, if_neg h1]
theorem kk_any {cs : List Nat} {c : Nat} (h : c ∉ cs) : (kkS cs).any (fun i => decide (i = .inr (sg c))) = false := by
  unfold kkS
  rw [List.any_map, List.any_eq_false]
  intro a ha
  show ¬ decide (Sum.inr (sg a) = Sum.inr (sg c)) = true
  rw [decide_eq_true_eq]
  exact fun z => h (by rw [← sg_eq.mp (Sum.inr.inj z)]; exact ha)
theorem take_not {cs : List Nat} {i c : Nat} (hn : cs.Nodup) (h : cs[i]? = some c) : c ∉ cs.take i := by
  intro z
  obtain ⟨j, hj, e⟩ := List.getElem_of_mem z
  rw [List.length_take] at hj
  rw [List.getElem_take] at e
  obtain ⟨hi, h2⟩ := List.getElem?_eq_some_iff.mp h
  exact List.pairwise_iff_getElem.mp hn j i (by omega) hi (by omega) (by rw [e, h2])
theorem put_new {S : Sto} {m : Nat} {cs : List Nat} {P : List (List Int)} {c : Nat} {r : List Int} (hm : S[m]? = some (.dct (sgW cs) (bitsL P))) (h : c ∉ cs) (hl : cs.length < LINE) : uDct (.cell m) (.str (sg c)) (bits r) S = some (S.set m (.dct (sgW (cs ++ [c])) (bitsL (P ++ [r])))) := by
  unfold uDct
  simp only [hm, keys_sg, keyW, sgW_len, if_pos hl, kk_any h]
  rw [← sgW_app]
  unfold bitsL; rw [List.map_append]; rfl
theorem book_init {st : Sto} {k n : Nat} {cs : List Nat} {P : List (List Int)} {s t : List Int} (B : BkOk cs n P s t) (hk : st[k]? = some (.dct (sgW cs) (bitsL P))) (ho : st.all (oldW (st.length + 1)) = true) :
    F_Book___init__ [.cell st.length, .cell k, bits s, bits t] (st ++ [.ins "Book" [] []]) = .ok .non (st ++ [.ins "Book" bkNs [.tup (sgW cs), .int n, bits s, bits t, .cell (st.length + 1)], .dct (sgW cs) (bitsL P)]) := by
  have hkl : k < st.length := (List.getElem?_eq_some_iff.mp hk).1
  have hK : ∀ r : Sto, (st ++ r)[k]? = some (.dct (sgW cs) (bitsL P)) := fun r => by rw [List.getElem?_append_left hkl]; exact hk
  obtain ⟨c0, h0⟩ : ∃ c0, cs[0]? = some c0 := ⟨_, List.getElem?_eq_getElem (by have := B.c1; omega)⟩
  obtain ⟨r0, l0, m0⟩ := look_mem (asc_nodup B.asc) B.len (List.mem_of_getElem? h0)
  have hc10 := B.c10
  have A1 : F_are_patterns [.cell k] (st ++ [.ins "Book" [] []]) = .ok (.bl true) (st ++ [.ins "Book" [] []]) :=
    are_patterns_ok (hK _) B.len B.c1 B.c10 B.ok B.n1 B.n6 B.row (by
      rw [List.length_append, List.length_singleton, List.all_append, ho]; rfl)
  have main : ∃ fr, B_Book___init__ [some (.cell st.length), some (.cell k), some (bits s), some (bits t), none, none] (st ++ [.ins "Book" [] []]) = .nx fr (st ++ [.ins "Book" bkNs [.tup (sgW cs), .int n, bits s, bits t, .cell (st.length + 1)], .dct (sgW cs) (bitsL P)]) := by
    obtain ⟨J, hJ⟩ : ∃ J : Cel, J = .ins "Book" bkNs [.tup (sgW cs), .int n, bits s, bits t, .cell (st.length + 1)] := ⟨_, rfl⟩
    rw [← hJ]
    have fS : ∀ (r : Cel) (fr : Fr), fr[0]? = some (some (.cell st.length)) → eFld ["Book"] "signs" (eVar 0) fr (st ++ [J, r]) = .ok (.tup (sgW cs)) (st ++ [J, r]) := fun r fr h => fldC (m := st.length) (by simp [h]) (by rw [hJ]; exact at_end) rfl
    have fR : ∀ (r : Cel) (fr : Fr), fr[0]? = some (some (.cell st.length)) → eFld ["Book"] "_rows" (eVar 0) fr (st ++ [J, r]) = .ok (.cell (st.length + 1)) (st ++ [J, r]) := fun r fr h => fldC (m := st.length) (by simp [h]) (by rw [hJ]; exact at_end) rfl
    obtain ⟨fr', st', e1, u, efr, est⟩ := x_for (f := (iSeq (eFld ["Book"] "signs" (eVar 0)))) (g := (gNm 4)) (b := (sSub uDct (e2 oDGet (eVar 1) (eVar 4)) (eFld ["Book"] "_rows" (eVar 0)) (eVar 4)))
      (fr := [some (.cell st.length), some (.cell k), some (bits s), some (bits t), none, none]) (st := st ++ [J, .dct [] []]) (st1 := st ++ [J, .dct [] []]) (x := .tup (sgW cs)) (all := sgW cs)
      (by simp [fS])
      (fun i fr S => ∃ u, fr = [some (.cell st.length), some (.cell k), some (bits s), some (bits t), u, none] ∧ S = st ++ [J, .dct (sgW (cs.take i)) (bitsL (P.take i))]) ⟨none, rfl, rfl⟩ (fun _ _ _ _ => trivial) (by
        rintro i fr S w ⟨u, rfl, rfl⟩ hi
        unfold sgW at hi
        rw [List.getElem?_map] at hi
        obtain ⟨c, hc, rfl⟩ := Option.map_eq_some_iff.mp hi
        have hil : i < cs.length := (List.getElem?_eq_some_iff.mp hc).1
        have hiP : i < P.length := by have := B.len; omega
        have hP : P[i]? = some P[i] := List.getElem?_eq_getElem hiP
        have hlk := look_at (asc_nodup B.asc) hc hP
        refine ⟨[some (.cell st.length), some (.cell k), some (bits s), some (bits t), some (.str (sg c)), none], [some (.cell st.length), some (.cell k), some (bits s), some (bits t), some (.str (sg c)), none], st ++ [J, .dct (sgW (cs.take (i + 1))) (bitsL (P.take (i + 1)))], rfl, .inl ?_, some (.str (sg c)), rfl, rfl⟩
        have p1 := put_new (S := st ++ [J, .dct (sgW (cs.take i)) (bitsL (P.take i))]) (m := st.length + 1) (r := P[i]) at_end1 (take_not (asc_nodup B.asc) hc) (by rw [List.length_take]; unfold LINE; omega)
        rw [set_end1, ← take_next hc, ← take_next hP] at p1
        have d1 := dget_cell (hK [J, .dct (sgW (cs.take i)) (bitsL (P.take i))]) hlk
        unfold sSub
        simp only [x_2, x_var, fg1, fg4, Out.bind_ok, d1, Out.stm_ok, fR _ _ (show ([some (.cell st.length), some (.cell k), some (bits s), some (bits t), some (.str (sg c)), none] : Fr)[0]? = _ from rfl), p1])
    rw [efr, est, sgW_len, List.take_length, show P.take cs.length = P by rw [← B.len, List.take_length]] at e1
    unfold B_Book___init__
    refine ⟨[some (.cell st.length), some (.cell k), some (bits s), some (bits t), u, some (.lst (bitsL (P ++ [s, t])))], ?_⟩
    refine if_no (st1 := st ++ [.ins "Book" [] []]) (st2 := st ++ [.ins "Book" [] []]) (by simp [A1]) rfl ?_
    -- signs
    refine seq_to (fr1 := [some (.cell st.length), some (.cell k), some (bits s), some (bits t), none, none]) (st1 := st ++ [.ins "Book" ["signs"] [.tup (sgW cs)]]) ?_ ?_
    · rw [stF (S1 := st ++ [.ins "Book" [] []]) (w := .tup (sgW cs)) (m := st.length) (ns := []) (ws := []) (by simp only [x_N, x_aCons, x_var, fg1, x_aNil, Out.bind_ok, sortD_ok (hK _) B.asc (by omega), x_tuple_lst]) (by simp) at_end (by decide)]
      rw [set_end]; rfl
    -- width
    refine seq_to (fr1 := [some (.cell st.length), some (.cell k), some (bits s), some (bits t), none, none]) (st1 := st ++ [.ins "Book" ["signs", "width"] [.tup (sgW cs), .int n]]) ?_ ?_
    · have f1 := fldC (S := st ++ [.ins "Book" ["signs"] [.tup (sgW cs)]]) (m := st.length) (x := "signs") (u := .tup (sgW cs)) (f := eVar 0) (fr := [some (.cell st.length), some (.cell k), some (bits s), some (bits t), none, none]) (by simp) at_end rfl
      have i1 : oIx (.tup (sgW cs)) (.int 0) (st ++ [.ins "Book" ["signs"] [.tup (sgW cs)]]) = .ok (.str (sg c0)) (st ++ [.ins "Book" ["signs"] [.tup (sgW cs)]]) := x_ixT (by decide) (sgW_at h0)
      have q3 : oLen [bits r0] (st ++ [.ins "Book" ["signs"] [.tup (sgW cs)]]) = .ok (.int n) (st ++ [.ins "Book" ["signs"] [.tup (sgW cs)]]) := by unfold bits; rw [x_len_tup, List.length_map, (B.row _ m0).1]
      rw [stF (S1 := st ++ [.ins "Book" ["signs"] [.tup (sgW cs)]]) (w := .int n) (m := st.length) (ns := ["signs"]) (ws := [.tup (sgW cs)]) (by simp only [x_N, x_aCons, x_2, x_var, fg1, f1, x_c, x_aNil, Out.bind_ok, i1, dget_cell (hK _) l0, q3]) (by simp) at_end (by decide)]
      rw [set_end]; rfl
    have f2 := fldC (S := st ++ [.ins "Book" ["signs", "width"] [.tup (sgW cs), .int n]]) (m := st.length) (x := "width") (u := .int n) (f := eVar 0) (fr := [some (.cell st.length), some (.cell k), some (bits s), some (bits t), none, none]) (by simp) at_end rfl
    refine if_no (st1 := st ++ [.ins "Book" ["signs", "width"] [.tup (sgW cs), .int n]]) (st2 := st ++ [.ins "Book" ["signs", "width"] [.tup (sgW cs), .int n]]) ?_ rfl ?_
    · simp only [x_bNot, x_bOf, x_call, x_aCons, x_var, fg2, f2, x_aNil, Out.bind_ok, is_row_of_ok B.rs]; rfl
    refine if_no (st1 := st ++ [.ins "Book" ["signs", "width"] [.tup (sgW cs), .int n]]) (st2 := st ++ [.ins "Book" ["signs", "width"] [.tup (sgW cs), .int n]]) ?_ rfl ?_
    · simp only [x_bNot, x_bOf, x_call, x_aCons, x_var, fg3, f2, x_aNil, Out.bind_ok, is_row_of_ok B.rt]; rfl
    refine seq_to (fr1 := [some (.cell st.length), some (.cell k), some (bits s), some (bits t), none, none]) (st1 := st ++ [.ins "Book" ["signs", "width", "start"] [.tup (sgW cs), .int n, bits s]]) ?_ ?_
    · rw [stF (S1 := st ++ [.ins "Book" ["signs", "width"] [.tup (sgW cs), .int n]]) (w := bits s) (m := st.length) (ns := ["signs", "width"]) (ws := [.tup (sgW cs), .int n]) (by simp) (by simp) at_end (by decide)]
      rw [set_end]; rfl
    refine seq_to (fr1 := [some (.cell st.length), some (.cell k), some (bits s), some (bits t), none, none]) (st1 := st ++ [.ins "Book" ["signs", "width", "start", "stop"] [.tup (sgW cs), .int n, bits s, bits t]]) ?_ ?_
    · rw [stF (S1 := st ++ [.ins "Book" ["signs", "width", "start"] [.tup (sgW cs), .int n, bits s]]) (w := bits t) (m := st.length) (ns := ["signs", "width", "start"]) (ws := [.tup (sgW cs), .int n, bits s]) (by simp) (by simp) at_end (by decide)]
      rw [set_end]; rfl
    refine seq_to (fr1 := [some (.cell st.length), some (.cell k), some (bits s), some (bits t), none, none]) (st1 := st ++ [J, .dct [] []]) ?_ ?_
    · rw [stF (S1 := st ++ [.ins "Book" ["signs", "width", "start", "stop"] [.tup (sgW cs), .int n, bits s, bits t], .dct [] []]) (w := .cell (st.length + 1)) (m := st.length) (ns := ["signs", "width", "start", "stop"]) (ws := [.tup (sgW cs), .int n, bits s, bits t]) (by unfold eDct0; rw [List.length_append, List.append_assoc]; rfl) (by simp) at_end (by decide)]
      rw [set_end, hJ]; rfl
    refine seq_to e1 ?_
    have v1 : eListV (eFld ["Book"] "_rows" (eVar 0)) [some (.cell st.length), some (.cell k), some (bits s), some (bits t), u, none] (st ++ [J, .dct (sgW cs) (bitsL P)]) = .ok (.lst (bitsL P)) (st ++ [J, .dct (sgW cs) (bitsL P)]) := by
      unfold eListV
      simp only [fR _ _ (show ([some (.cell st.length), some (.cell k), some (bits s), some (bits t), u, none] : Fr)[0]? = _ from rfl), Out.bind_ok, dctKs_cell at_end1, keys_sg]
    have a1 : oAdd (.lst (bitsL P)) (.lst [bits s, bits t]) (st ++ [J, .dct (sgW cs) (bitsL P)]) = .ok (.lst (bitsL (P ++ [s, t]))) (st ++ [J, .dct (sgW cs) (bitsL P)]) := by
      show (if (bitsL P).length + 2 ≤ LINE then _ else _) = _
      rw [if_pos (by rw [bitsL_len, B.len]; unfold LINE; omega)]
      unfold bitsL; rw [List.map_append]; rfl
    refine asg_to (w := .lst (bitsL (P ++ [s, t]))) (st1 := st ++ [J, .dct (sgW cs) (bitsL P)]) ?_ ?_
    · simp only [x_2, v1, Out.bind_ok, x_N, x_aCons, x_var, fg2, fg3, x_aNil, x_lst (ws := [bits s, bits t]) (by simp), a1]
    simp only [fs5]
    have l1 : eLenSet (eVar 5) [some (.cell st.length), some (.cell k), some (bits s), some (bits t), u, some (.lst (bitsL (P ++ [s, t])))] (st ++ [J, .dct (sgW cs) (bitsL P)]) = .ok (.int (P ++ [s, t]).length) (st ++ [J, .dct (sgW cs) (bitsL P)]) := by
      unfold eLenSet
      simp only [x_var, fg5, Out.bind_ok, x_lst_lst, Option.bind_some, tups_bits, once_nodup B.nd]
      rw [if_pos (dec_mk (by rw [List.length_append, B.len]; simp; omega))]
    simp only [x_if, x_bOf, x_2, l1, x_N, x_aCons, x_var, fg5, x_aNil, Out.bind_ok, x_len_lst, bitsL_len, x_lt, Out.stm_ok]
    simp
  obtain ⟨fr, hm⟩ := main
  show (match B_Book___init__ [some (.cell st.length), some (.cell k), some (bits s), some (bits t), none, none] (st ++ [.ins "Book" [] []]) with | .nx _ st1 => Out.ok W.non st1 | .rt w st1 => .ok w st1 | .er x _ st1 => .err x st1 | _ => .bad) = _
  rw [hm]
theorem fz_sgW (n : Nat) (f : Nat → Option W) (cs : List Nat) : fz0s n f (sgW cs) = some (sgW cs) := fz_sgs cs
theorem fz_bkV {n m : Nat} {f : Nat → Option W} {cs : List Nat} {P : List (List Int)} {s t : List Int} : fz0s m f (bkV cs n P s t) = some (bkV cs n P s t) := by
  unfold bkV
  simp only [fz0s, fz0, fz_sgW, fz_bits, fz_bitsL]; rfl
theorem fz_bk {n m : Nat} {f : Nat → Option W} {cs : List Nat} {P : List (List Int)} {s t : List Int} : fz0 m f (bk cs n P s t) = some (bk cs n P s t) := by
  unfold bk fz0; rw [fz_bkV]; rfl
theorem book_make {st st0 : Sto} {k n : Nat} {cs : List Nat} {P : List (List Int)} {s t : List Int} {f : SemL} {fr : Fr} (hf : f fr st0 = .ok [.cell k, bits s, bits t] st) (B : BkOk cs n P s t) (hk : st[k]? = some (.dct (sgW cs) (bitsL P))) (ho : st.all (oldW st.length) = true) (ho1 : st.all (oldW (st.length + 1)) = true) : eMake "Book" F_Book___init__ f fr st0 = .ok (bk cs n P s t) st := by
  unfold eMake eMakeG
  rw [hf, Out.bind_ok]
  have hi' : F_Book___init__ (.cell st.length :: [.cell k, bits s, bits t]) (st ++ [.ins "Book" [] []]) = _ := book_init B hk ho1
  rw [hi']
  obtain ⟨J, hJ⟩ : ∃ J : Cel, J = .ins "Book" bkNs [.tup (sgW cs), .int n, bits s, bits t, .cell (st.length + 1)] := ⟨_, rfl⟩
  rw [← hJ]
  show leave st.length (.cell st.length) (st ++ [J, .dct (sgW cs) (bitsL P)]) = _
  unfold leave
  rw [if_neg (by simp)]
  have e : fz0 st.length (fzc st.length (st ++ [J, .dct (sgW cs) (bitsL P)]) ((st ++ [J, .dct (sgW cs) (bitsL P)]).length + 1)) (.cell st.length) = some (bk cs n P s t) := by
    have hl : (st ++ [J, Cel.dct (sgW cs) (bitsL P)]).length = st.length + 2 := by rw [List.length_append]; rfl
    rw [hl]
    unfold fz0
    rw [if_neg (Nat.lt_irrefl _)]
    have c1 : ∀ m, fzc st.length (st ++ [J, .dct (sgW cs) (bitsL P)]) (m + 1) (st.length + 1) = some (.dct (sgW cs) (bitsL P)) := fun m => by
      unfold fzc; simp only [at_end1, fz_bitsL]; rfl
    rw [show st.length + 2 + 1 = (st.length + 1 + 1) + 1 by omega]
    unfold fzc
    simp only [at_end, hJ]
    rw [hJ] at c1
    have c2 := c1 st.length
    simp only [fz0s, fz0, fz_sgW, fz_bits, if_neg (show ¬ st.length + 1 < st.length by omega), c1]
    rfl
  rw [e]
  simp only [List.take_left, ho, if_true]
/-! ## the first that stops a loop -/
def fst1 (stop : Nat → Bool) : Nat → Nat → Option Nat
  | _, 0 => none
  | k, m + 1 => if stop k = true then some k else fst1 stop (k + 1) m
theorem fst1_lt {stop : Nat → Bool} : ∀ {m k j : Nat}, fst1 stop k m = some j → k ≤ j ∧ j < k + m ∧ stop j = true
  | 0, k, j, h => by cases h
  | m + 1, k, j, h => by
    unfold fst1 at h
    split at h
    · rename_i q; cases h; exact ⟨Nat.le_refl _, by omega, q⟩
    · obtain ⟨a, b, c⟩ := fst1_lt h
      exact ⟨by omega, by omega, c⟩
theorem fst1_none {stop : Nat → Bool} : ∀ {m k : Nat}, fst1 stop k m = none → ∀ j, k ≤ j → j < k + m → stop j = false
  | 0, k, h, j, h1, h2 => by omega
  | m + 1, k, h, j, h1, h2 => by
    unfold fst1 at h
    split at h
    · cases h
    · rename_i q
      rcases Nat.eq_or_lt_of_le h1 with e | e
      · subst e; simpa using q
      · exact fst1_none h j e (by omega)
def endO (o : SOut) : Prop := (∃ w s, o = .rt w s) ∨ ∃ e fr s, o = .er e fr s
theorem run_first {x : W} {all : List W} {g : TgF} {b : SSem} {st : Sto} (S : Fr → Prop) (stop : Nat → Bool) (out : Nat → SOut → Prop) (hs : srcOk x all st) (term : ∀ k o, out k o → endO o)
    (step : ∀ k fr w, S fr → all[k]? = some w → ∃ fr1, g w fr st = some fr1 ∧ ((stop k = true ∧ out k (b fr1 st)) ∨ (stop k = false ∧ ∃ fr2, S fr2 ∧ b fr1 st = .nx fr2 st))) :
    ∀ (m k : Nat) (fr : Fr), all.length = k + m → S fr → (∀ j, fst1 stop k m = some j → out j (forRun x all g b (all.drop k) fr st)) ∧ (fst1 stop k m = none → ∃ fr2, S fr2 ∧ forRun x all g b (all.drop k) fr st = .nx fr2 st)
  | 0, k, fr, hm, h => ⟨fun j e => (by cases e), fun _ => ⟨fr, h, by rw [List.drop_eq_nil_of_le (by omega)]; unfold forRun; rw [if_pos hs]⟩⟩
  | m + 1, k, fr, hm, h => by
    have hk : k < all.length := by omega
    obtain ⟨fr1, h1, h2⟩ := step k fr all[k] h (by simp)
    rcases h2 with ⟨h2, h3⟩ | ⟨h2, fr2, h3, h4⟩
    · refine ⟨fun j e => ?_, fun e => ?_⟩
      · unfold fst1 at e
        rw [if_pos h2] at e
        cases e
        rw [List.drop_eq_getElem_cons hk]
        unfold forRun
        rw [if_pos hs, h1]
        rcases term _ _ h3 with ⟨w, s, e⟩ | ⟨e', f', s, e⟩
        · simp only [e]; rw [e] at h3; exact h3
        · simp only [e]; rw [e] at h3; exact h3
      · unfold fst1 at e; rw [if_pos h2] at e; cases e
    · have ih := run_first S stop out hs term step m (k + 1) fr2 (by omega) h3
      have e0 : fst1 stop k (m + 1) = fst1 stop (k + 1) m := by
        rw [fst1]; rw [if_neg (by rw [h2]; simp)]
      have e1 : forRun x all g b (all.drop k) fr st = forRun x all g b (all.drop (k + 1)) fr2 st := by
        rw [List.drop_eq_getElem_cons hk]
        conv => lhs; unfold forRun
        rw [if_pos hs, h1]
        simp only [h4]
      rw [e0, e1]
      exact ih
theorem for_first {x : W} {all : List W} {f : SemI} {g : TgF} {b : SSem} {fr : Fr} {st : Sto} (S : Fr → Prop) (stop : Nat → Bool) (out : Nat → SOut → Prop) (h : f fr st = .ok (x, all) st) (hs : srcOk x all st) (h0 : S fr) (term : ∀ k o, out k o → endO o)
    (step : ∀ k fr w, S fr → all[k]? = some w → ∃ fr1, g w fr st = some fr1 ∧ ((stop k = true ∧ out k (b fr1 st)) ∨ (stop k = false ∧ ∃ fr2, S fr2 ∧ b fr1 st = .nx fr2 st))) :
    (∀ j, fst1 stop 0 all.length = some j → out j (sFor f g b fr st)) ∧ (fst1 stop 0 all.length = none → ∃ fr2, S fr2 ∧ sFor f g b fr st = .nx fr2 st) := by
  have z := run_first S stop out hs term step all.length 0 fr (by omega) h0
  unfold sFor; rw [h, Out.stm_ok]
  exact z
theorem fst1_no {stop : Nat → Bool} : ∀ {m k : Nat}, (∀ j, k ≤ j → j < k + m → stop j = false) → fst1 stop k m = none
  | 0, k, h => rfl
  | m + 1, k, h => by
    unfold fst1
    rw [if_neg (by rw [h k (Nat.le_refl _) (by omega)]; simp)]
    exact fst1_no fun j h1 h2 => h j (by omega) (by omega)
theorem cut_to {T : List W} {a : Nat} (h : a ≤ T.length) : cutW T none (some (a : Int)) = T.take a := by
  unfold cutW
  rw [HT.sIx_nat, HT.sIx_none, Nat.min_eq_left h]; simp
theorem cut_from {T : List W} {a : Nat} (h : a ≤ T.length) : cutW T (some (a : Int)) none = T.drop a := by
  unfold cutW
  rw [HT.sIx_nat, HT.sIx_none, Nat.min_eq_left h, List.take_of_length_le (by simp)]
def cutB (x : List Int) (k w : Nat) : List Int := (x.drop k).take w
theorem sl_cut {x : List Int} {k w : Nat} {a b : Int} {st : Sto} (h : k + w ≤ x.length) (ha : a = k) (hb : b = (k : Int) + w) : oSl (bits x) (some a) (some b) st = .ok (bits (cutB x k w)) st := by
  have eb : b = ((k + w : Nat) : Int) := by rw [hb]; simp
  show Out.ok (W.tup (cutW (x.map W.int) (some a) (some b))) st = _
  unfold cutW
  rw [ha, eb, HT.sIx_nat, HT.sIx_nat, List.length_map, Nat.min_eq_left (show k ≤ x.length by omega), Nat.min_eq_left h, ← List.map_drop, ← List.map_take]
  have : k + w - k = w := by omega
  rw [this]; rfl
theorem cut_len {x : List Int} {k w : Nat} (h : k + w ≤ x.length) : (cutB x k w).length = w := by
  unfold cutB; rw [List.length_take, List.length_drop]; omega
theorem cut_bits {x : List Int} {k w : Nat} (h : Bits x) : Bits (cutB x k w) := fun n hn => h n (List.mem_of_mem_drop (List.mem_of_mem_take hn))
theorem fst1_first {stop : Nat → Bool} : ∀ {m k j : Nat}, fst1 stop k m = some j → ∀ i, k ≤ i → i < j → stop i = false
  | 0, k, j, h => by cases h
  | m + 1, k, j, h => by
    intro i h1 h2
    unfold fst1 at h
    split at h
    · cases h; omega
    · rename_i q
      rcases Nat.eq_or_lt_of_le h1 with e | e
      · subst e; simpa using q
      · exact fst1_first h i e h2
/-! ## a book asked -/
def pat (cs : List Nat) (P : List (List Int)) (c : Nat) : List Int := (lookR cs P c).getD []
theorem bk_get {cs : List Nat} {n : Nat} {P : List (List Int)} {s t : List Int} {x : Str} {u : W} {f : Sem} {fr : Fr} {st st1 : Sto} (hf : f fr st = .ok (bk cs n P s t) st1) (hl : lkp bkNs (bkV cs n P s t) x = some u) : eFld ["Book"] x f fr st = .ok u st1 := fldI hf hl
theorem din_ok {cs : List Nat} {P : List (List Int)} {c : Nat} {r : List Int} {st : Sto} (h : lookR cs P c = some r) : oDIn (fun b => b) (.str (sg c)) (.dct (sgW cs) (bitsL P)) st = .ok (.bl true) st := by
  unfold oDIn
  simp only [dctW_d, keyW, val_look, h]; rfl
theorem dget_d {cs : List Nat} {P : List (List Int)} {c : Nat} {r : List Int} {st : Sto} (h : lookR cs P c = some r) : oDGet (.dct (sgW cs) (bitsL P)) (.str (sg c)) st = .ok (bits r) st := by
  unfold oDGet
  simp only [dctW_d, keyW, val_look, h, Option.map_some]
theorem pattern_ok {cs : List Nat} {n : Nat} {P : List (List Int)} {s t : List Int} {c : Nat} {r : List Int} {st : Sto} (h : lookR cs P c = some r) : F_Book_pattern [bk cs n P s t, .str (sg c)] st = .ok (bits r) st := by
  refine mk_rt (st1 := st) ?_ rfl
  show B_Book_pattern [some (bk cs n P s t), some (.str (sg c))] st = _
  have f1 := bk_get (x := "_rows") (u := .dct (sgW cs) (bitsL P)) (f := eVar 0) (fr := [some (bk cs n P s t), some (.str (sg c))]) (st := st) (st1 := st) (cs := cs) (n := n) (P := P) (s := s) (t := t) rfl rfl
  unfold B_Book_pattern
  simp [f1, din_ok h, dget_d h]
theorem meth_pat {cs : List Nat} {n : Nat} {P : List (List Int)} {s t : List Int} {c : Nat} {r : List Int} {st : Sto} {fr : Fr} {i j : Nat} (hi : fr[i]? = some (some (bk cs n P s t))) (hj : fr[j]? = some (some (.str (sg c)))) (h : lookR cs P c = some r) :
    eMeth "Book" "pattern" F_Book_pattern (eVar i) (aCons (eVar j) (aNil)) fr st = .ok (bits r) st := by
  unfold eMeth
  simp only [x_var, hi, Out.bind_ok]
  show (if "Book" = ("Book" : Str) ∧ ("pattern" : Str) ∉ bkNs then _ else _) = _
  rw [if_pos (by decide)]
  simp only [x_aCons, x_var, hj, x_aNil, Out.bind_ok, pattern_ok h]
/-! ## texts looked at -/
def txEr (i : Int) : Exc := ⟨"BadText", ["place"], [.int i]⟩
theorem isB_str {z : Str} {st : Sto} : oIsiI "Book" [.str z, .ty "str"] st = .ok (.bl true) st := by
  show oIsi [.str z, .ty "str"] st = _
  simp
theorem eqv_ints : ∀ a b : List Int, PyData.eqvAll (a.map .int) (b.map .int) = decide (a = b)
  | [], [] => rfl
  | [], _ :: _ => rfl
  | _ :: _, [] => rfl
  | x :: a, y :: b => by
    show ((x == y) && PyData.eqvAll (a.map .int) (b.map .int)) = _
    rw [eqv_ints a b]
    by_cases h : x = y <;> by_cases h2 : a = b <;> simp [h, h2]
theorem pd_ints : ∀ a : List Int, pdWs (a.map W.int) = some (a.map .int)
  | [] => rfl
  | x :: a => by rw [List.map_cons, pdWs, pd_ints a]; rfl
theorem lay_ints : ∀ a : List Int, PyData.canLayAll0 (a.map .int) = true
  | [] => rfl
  | x :: a => by
    show (PyData.canLay0 (.int x) && PyData.canLayAll0 (a.map .int)) = true
    rw [lay_ints a]; rfl
theorem depth_ints : ∀ a : List Int, PyData.depthAll (a.map .int) = 0
  | [] => rfl
  | x :: a => by
    show max (PyData.depth (.int x)) (PyData.depthAll (a.map .int)) = 0
    rw [depth_ints a]; rfl
theorem eq_bits {a b : List Int} {st : Sto} : oEq (bits a) (bits b) st = .ok (.bl (decide (a = b))) st := by
  have p : ∀ c : List Int, pdT st (bits c) = some (.tuple (c.map .int)) := fun c => by
    show (pdWs (c.map W.int)).map PyData.tuple = _
    rw [pd_ints]; rfl
  have s : ∀ c : List Int, SeqAt.shaped (.tuple (c.map .int)) = true := fun c => by
    unfold SeqAt.shaped
    have e1 : PyData.canLay0 (.tuple (c.map .int)) = true := by
      simp only [PyData.canLay0]; exact lay_ints c
    have e2 : PyData.depth (.tuple (c.map .int)) = 1 := by
      simp only [PyData.depth, depth_ints]
    rw [e1, e2]; rfl
  have q : PyData.eqv (.tuple (a.map .int)) (.tuple (b.map .int)) = decide (a = b) := eqv_ints a b
  unfold oEq eqW
  rw [p, p]
  simp only [s, q]
  rfl
theorem fits {x : Int} (h : -1000000000 ≤ x) (h2 : x ≤ 1000000000) : Builtin.Range.rangeFitsLong x = true := by
  unfold Builtin.Range.rangeFitsLong
  simp
  omega
theorem size_upN {w m : Nat} (h : 0 < w) : Builtin.Range.rangeSize w ((w * (m + 1) : Nat) : Int) w = m := by
  unfold Builtin.Range.rangeSize
  have hw : (w : Int) > 0 := by omega
  rw [if_pos hw]
  cases m with
  | zero => simp
  | succ m =>
    have hp : (w : Int) < ((w * (m + 1 + 1) : Nat) : Int) := by
      have : 0 < w * (m + 1) := Nat.mul_pos h (by omega)
      have e : w * (m + 1 + 1) = w * (m + 1) + w := Nat.mul_succ _ _
      omega
    rw [if_pos hp]
    have e : ((w * (m + 1 + 1) : Nat) : Int) - w - 1 = (w - 1) + w * m := by
      rw [Nat.mul_succ, Nat.mul_succ]; simp; omega
    rw [e, Int.add_mul_ediv_left _ _ (by omega), Int.ediv_eq_zero_of_lt (by omega) (by omega)]
    simp
theorem x_rng3N {l : SemL} {fr : Fr} {st st1 : Sto} {w m : Nat} (h : l fr st = .ok [.int w, .int ((w * (m + 1) : Nat) : Int), .int w] st1) (h2 : 0 < w) (h3 : w ≤ 1000) (h4 : w * (m + 1) ≤ 1000000) : iRng rg3 l fr st = .ok (.non, rngW w w m) st1 := by
  unfold iRng rg3
  rw [h, Out.bind_ok]
  have hs : Builtin.Range.small w ((w * (m + 1) : Nat) : Int) w = true := by
    have hz : ((w * (m + 1) : Nat) : Int) ≤ 1000000 := by omega
    unfold Builtin.Range.small
    rw [size_upN h2]
    have h0 : 0 ≤ ((w * (m + 1) : Nat) : Int) := Int.natCast_nonneg _
    generalize ((w * (m + 1) : Nat) : Int) = q at hz h0
    have hc0 : (w : Int) > 0 := by omega
    have hm1 : (m : Int) ≤ 1000000 := by
      have : m + 1 ≤ w * (m + 1) := Nat.le_mul_of_pos_left _ h2
      omega
    rw [if_pos hc0, fits (x := (w : Int)) (by omega) (by omega), fits (x := q) (by omega) (by omega), fits (x := (m : Int)) (by omega) (by omega), fits (x := q + (w - 1)) (by omega) (by omega)]
    simp
  have hc : ¬ ((w : Int) = -1) := by omega
  have hm : m + 1 ≤ w * (m + 1) := Nat.le_mul_of_pos_left _ h2
  simp only [hs, hc, if_false, size_upN h2]
  simp only [Int.toNat_natCast]
  rw [if_pos (dec_mk ⟨by omega, by omega, trivial⟩)]
  simp only
  rw [if_pos (by unfold LINE; omega)]
/-! ## loops that find -/
theorem forRun_find {i : Nat} {b : SSem} {fr : Fr} {st : Sto} {x : W} {all : List W} {p : W → Bool} (hs : srcOk x all st) : ∀ (us : List W) (o : Option W), (∀ v ∈ us, b (fr.set i (some v)) st = if p v = true then .rt v st else .nx (fr.set i (some v)) st) →
    ∃ o2, forRun x all (gNm i) b us (fr.set i o) st = match us.find? p with | some v => .rt v st | none => .nx (fr.set i o2) st
  | [], o, h => ⟨o, by unfold forRun; rw [if_pos hs]; rfl⟩
  | v :: r, o, h => by
    have h1 := h v List.mem_cons_self
    obtain ⟨o2, ih⟩ := forRun_find hs r (some v) fun u hu => h u (List.mem_cons_of_mem _ hu)
    refine ⟨o2, ?_⟩
    unfold forRun
    rw [if_pos hs]
    have e : gNm i v (fr.set i o) st = some (fr.set i (some v)) := by unfold gNm; rw [List.set_set]
    rw [e]
    simp only [h1]
    cases q : p v with
    | true => simp [q]
    | false => simp [q, ih]
theorem for_find {f : SemI} {i : Nat} {b : SSem} {fr : Fr} {st : Sto} {x : W} {all : List W} {p : W → Bool} (h : f fr st = .ok (x, all) st) (hs : srcOk x all st) (h0 : fr.set i none = fr) (hb : ∀ v ∈ all, b (fr.set i (some v)) st = if p v = true then .rt v st else .nx (fr.set i (some v)) st) :
    ∃ o2, sFor f (gNm i) b fr st = match all.find? p with | some v => .rt v st | none => .nx (fr.set i o2) st := by
  obtain ⟨o2, e⟩ := forRun_find (i := i) (fr := fr) hs all none hb
  refine ⟨o2, ?_⟩
  rw [h0] at e
  unfold sFor; rw [h, Out.stm_ok]
  exact e
theorem run_firstK {x : W} {all : List W} {g : TgF} {b : SSem} {st : Sto} (S : Nat → Fr → Prop) (stop : Nat → Bool) (out : Nat → SOut → Prop) (hs : srcOk x all st) (term : ∀ k o, out k o → endO o)
    (step : ∀ k fr w, S k fr → all[k]? = some w → ∃ fr1, g w fr st = some fr1 ∧ ((stop k = true ∧ out k (b fr1 st)) ∨ (stop k = false ∧ ∃ fr2, S (k + 1) fr2 ∧ b fr1 st = .nx fr2 st))) :
    ∀ (m k : Nat) (fr : Fr), all.length = k + m → S k fr → (∀ j, fst1 stop k m = some j → out j (forRun x all g b (all.drop k) fr st)) ∧ (fst1 stop k m = none → ∃ fr2, S (k + m) fr2 ∧ forRun x all g b (all.drop k) fr st = .nx fr2 st)
  | 0, k, fr, hm, h => ⟨fun j e => (by cases e), fun _ => ⟨fr, h, by rw [List.drop_eq_nil_of_le (by omega)]; unfold forRun; rw [if_pos hs]⟩⟩
  | m + 1, k, fr, hm, h => by
    have hk : k < all.length := by omega
    obtain ⟨fr1, h1, h2⟩ := step k fr all[k] h (by simp)
    rcases h2 with ⟨h2, h3⟩ | ⟨h2, fr2, h3, h4⟩
    · refine ⟨fun j e => ?_, fun e => ?_⟩
      · unfold fst1 at e
        rw [if_pos h2] at e
        cases e
        rw [List.drop_eq_getElem_cons hk]
        unfold forRun
        rw [if_pos hs, h1]
        rcases term _ _ h3 with ⟨w, s, e⟩ | ⟨e', f', s, e⟩
        · simp only [e]; rw [e] at h3; exact h3
        · simp only [e]; rw [e] at h3; exact h3
      · unfold fst1 at e; rw [if_pos h2] at e; cases e
    · have ih := run_firstK S stop out hs term step m (k + 1) fr2 (by omega) h3
      have e0 : fst1 stop k (m + 1) = fst1 stop (k + 1) m := by
        rw [fst1]; rw [if_neg (by rw [h2]; simp)]
      have e1 : forRun x all g b (all.drop k) fr st = forRun x all g b (all.drop (k + 1)) fr2 st := by
        rw [List.drop_eq_getElem_cons hk]
        conv => lhs; unfold forRun
        rw [if_pos hs, h1]
        simp only [h4]
      rw [e0, e1, show k + (m + 1) = k + 1 + m by omega]
      exact ih
theorem for_firstK {x : W} {all : List W} {f : SemI} {g : TgF} {b : SSem} {fr : Fr} {st : Sto} (S : Nat → Fr → Prop) (stop : Nat → Bool) (out : Nat → SOut → Prop) (h : f fr st = .ok (x, all) st) (hs : srcOk x all st) (h0 : S 0 fr) (term : ∀ k o, out k o → endO o)
    (step : ∀ k fr w, S k fr → all[k]? = some w → ∃ fr1, g w fr st = some fr1 ∧ ((stop k = true ∧ out k (b fr1 st)) ∨ (stop k = false ∧ ∃ fr2, S (k + 1) fr2 ∧ b fr1 st = .nx fr2 st))) :
    (∀ j, fst1 stop 0 all.length = some j → out j (sFor f g b fr st)) ∧ (fst1 stop 0 all.length = none → ∃ fr2, S all.length fr2 ∧ sFor f g b fr st = .nx fr2 st) := by
  have z := run_firstK S stop out hs term step all.length 0 fr (by omega) h0
  unfold sFor; rw [h, Out.stm_ok]
  rw [Nat.zero_add] at z
  exact z
/-! ## labels -/
def labOf (cs : List Nat) (P : List (List Int)) (s t : List Int) (z : List Nat) : List Int := s ++ z.flatMap (pat cs P) ++ t
theorem pat_len {cs : List Nat} {n : Nat} {P : List (List Int)} {s t : List Int} (B : BkOk cs n P s t) {c : Nat} (h : c ∈ cs) : lookR cs P c = some (pat cs P c) ∧ (pat cs P c).length = n ∧ Bits (pat cs P c) := by
  obtain ⟨r, h1, h2⟩ := look_mem (asc_nodup B.asc) B.len h
  have e : pat cs P c = r := by unfold pat; rw [h1]; rfl
  rw [e]
  exact ⟨h1, B.row r h2⟩
theorem flat_len {cs : List Nat} {n : Nat} {P : List (List Int)} {s t : List Int} (B : BkOk cs n P s t) : ∀ {z : List Nat}, (∀ c ∈ z, c ∈ cs) → (z.flatMap (pat cs P)).length = n * z.length
  | [], _ => by simp
  | c :: z, h => by
    have ih := flat_len B (z := z) fun c hc => h c (List.mem_cons_of_mem _ hc)
    rw [List.flatMap_cons, List.length_append, ih, (pat_len B (h c List.mem_cons_self)).2.1, List.length_cons, Nat.mul_succ]; omega
theorem flat_bits {cs : List Nat} {n : Nat} {P : List (List Int)} {s t : List Int} (B : BkOk cs n P s t) {z : List Nat} (h : ∀ c ∈ z, c ∈ cs) : Bits (z.flatMap (pat cs P)) := fun x hx => by
  obtain ⟨c, hc, hx⟩ := List.mem_flatMap.mp hx
  exact (pat_len B (h c hc)).2.2 x hx
theorem bits_cat {a b : List Int} (h : Bits a) (g : Bits b) : Bits (a ++ b) := fun x hx => by
  rcases List.mem_append.mp hx with q | q
  · exact h x q
  · exact g x q
theorem lab_bits {cs : List Nat} {n : Nat} {P : List (List Int)} {s t : List Int} (B : BkOk cs n P s t) {z : List Nat} (h : ∀ c ∈ z, c ∈ cs) : Bits (labOf cs P s t z) := bits_cat (bits_cat B.rs.2 (flat_bits B h)) B.rt.2
theorem lab_len {cs : List Nat} {n : Nat} {P : List (List Int)} {s t : List Int} (B : BkOk cs n P s t) {z : List Nat} (h : ∀ c ∈ z, c ∈ cs) : (labOf cs P s t z).length = n * (z.length + 2) := by
  unfold labOf
  rw [List.length_append, List.length_append, flat_len B h, B.rs.1, B.rt.1, Nat.mul_add]; omega
/-! ## the sign of a row -/
def signOf (cs : List Nat) (P : List (List Int)) (r : List Int) : Option Nat := cs.find? fun c => decide (lookR cs P c = some r)
def sgO : Option Nat → W
  | some c => .str (sg c)
  | none => .non
theorem find_map {α β : Type} {f : α → β} {p : β → Bool} : ∀ l : List α, (l.map f).find? p = (l.find? (fun a => p (f a))).map f
  | [] => rfl
  | a :: l => by
    rw [List.map_cons, List.find?_cons, List.find?_cons, find_map l]
    cases p (f a) <;> rfl
/-! ## what the law finds itself -/
def mdl (m : Nat) (s t : List Int) : W := .lst [.cell m, bits s, bits t]
theorem ix_m0 {m : Nat} {s t : List Int} {st : Sto} : oIx (mdl m s t) (.int 0) st = .ok (.cell m) st := x_ixL (by decide) rfl
theorem ix_m1 {m : Nat} {s t : List Int} {st : Sto} : oIx (mdl m s t) (.int 1) st = .ok (bits s) st := x_ixL (by decide) rfl
theorem ix_m2 {m : Nat} {s t : List Int} {st : Sto} : oIx (mdl m s t) (.int 2) st = .ok (bits t) st := x_ixL (by decide) rfl
theorem kind_lk {ks : List W} {kk : List Key} (h : mapO keyW ks = some kk) : kindW (lkL ks) = some (true, .inl kk) := by
  show (mapO keyW ks).map (fun kk => (true, Sum.inl kk)) = _
  rw [h]; rfl
theorem dget_lk {st : Sto} {k c : Nat} {cs : List Nat} {P : List (List Int)} {r : List Int} (hk : st[k]? = some (.dct (lkL (sgW cs)) (bitsL P))) (h : lookR cs P c = some r) : oDGet (.cell k) (.str (sg c)) st = .ok (bits r) st := by
  have e : dctW st (.cell k) = some (kkS cs, bitsL P) := by unfold dctW; simp only [hk, kind_lk (keys_sg cs)]
  unfold oDGet
  simp only [e, keyW, val_look, h, Option.map_some]
theorem pd_sgs : ∀ cs : List Nat, pdWs (sgW cs) = some (cs.map fun c => .str (sg c))
  | [] => rfl
  | c :: cs => by
    have ih := pd_sgs cs
    unfold sgW at ih ⊢
    rw [List.map_cons, pdWs, ih]; rfl
theorem lay_sgs : ∀ cs : List Nat, (∀ c ∈ cs, c < 128) → PyData.canLayAll0 (cs.map fun c => .str (sg c)) = true
  | [], _ => rfl
  | c :: cs, h => by
    show (PyData.strOk (sg c) && PyData.canLayAll0 _) = true
    rw [strOk_sg (h c List.mem_cons_self), lay_sgs cs fun x hx => h x (List.mem_cons_of_mem _ hx)]; rfl
theorem depth_sgs : ∀ cs : List Nat, PyData.depthAll (cs.map fun c => .str (sg c)) = 0
  | [] => rfl
  | x :: a => by
    show max (PyData.depth (.str (sg x))) (PyData.depthAll (a.map _)) = 0
    rw [depth_sgs a]; rfl
theorem eq_nil {cs : List Nat} {st : Sto} (h : ∀ c ∈ cs, c < 128) : oEq (.lst (sgW cs)) (.lst []) st = .ok (.bl cs.isEmpty) st := by
  have p : pdT st (.lst (sgW cs)) = some (.list (cs.map fun c => .str (sg c))) := by
    show (pdWs (sgW cs)).map PyData.list = _
    rw [pd_sgs]; rfl
  have p0 : pdT st (.lst []) = some (.list []) := rfl
  have s : SeqAt.shaped (.list (cs.map fun c => .str (sg c))) = true := by
    unfold SeqAt.shaped
    have e1 : PyData.canLay0 (.list (cs.map fun c => .str (sg c))) = true := by
      simp only [PyData.canLay0]; exact lay_sgs cs h
    have e2 : PyData.depth (.list (cs.map fun c => .str (sg c))) = 1 := by
      simp only [PyData.depth, depth_sgs]
    rw [e1, e2]; rfl
  have s0 : SeqAt.shaped (.list []) = true := by rfl
  have q : PyData.eqv (.list (cs.map fun c => .str (sg c))) (.list []) = cs.isEmpty := by cases cs <;> rfl
  unfold oEq eqW
  rw [p, p0]
  simp only [s, s0, q]
  rfl
theorem signs_tailR {c : Cel} {pre : Sto} {left0 : List Nat} {many : Int} (hp : Pool c) (h0 : 0 ≤ many) (hm : many ≤ left0.length) (hl : left0.length ≤ 40) (hnd : left0.Nodup) (hpre : pre.length = pre.length) :
    ∃ cs c' ex, Pool c' ∧ (cs.length : Int) = many ∧ Asc cs ∧ (∀ x ∈ cs, x ∈ left0) ∧
      (sSeq (sAsg (eN oCell (aNil)) (gNm 3)) (sSeq (sFor (iRng rg1 (aCons (eVar 1) (aNil))) (gNm 4) (sExp (eM isLst mAppend (eVar 3) (aCons (eM isLst mPopAt (eVar 2) (aCons (eCall F_law_draw (aCons (eVar 0) (aCons (eN oLen (aCons (eVar 2) (aNil))) (aNil)))) (aNil))) (aNil))))) (sRet (eN oSortS (aCons (eVar 3) (aNil)))))) [some (.cell 0), some (.int many), some (.cell (1 + pre.length)), none, none] (c :: (pre ++ [.lst (sgW left0)])) = .rt (.lst (sgW cs)) (c' :: (pre ++ ex)) := by
  have g1 : ∀ (c : Cel) (l f : List W), (c :: (pre ++ [Cel.lst l, Cel.lst f]))[1 + pre.length]? = some (.lst l) := fun c l f => by
    rw [Nat.add_comm, List.getElem?_cons_succ, List.getElem?_append_right (Nat.le_refl _), Nat.sub_self]; rfl
  have g2 : ∀ (c : Cel) (l f : List W), (c :: (pre ++ [Cel.lst l, Cel.lst f]))[2 + pre.length]? = some (.lst f) := fun c l f => by
    rw [show 2 + pre.length = (pre.length + 1) + 1 by omega, List.getElem?_cons_succ, List.getElem?_append_right (by omega), show pre.length + 1 - pre.length = 1 by omega]; rfl
  have s1 : ∀ (c : Cel) (l f l' : List W), (c :: (pre ++ [Cel.lst l, Cel.lst f])).set (1 + pre.length) (.lst l') = c :: (pre ++ [Cel.lst l', Cel.lst f]) := fun c l f l' => by
    rw [Nat.add_comm, List.set_cons_succ, List.set_append_right _ _ (Nat.le_refl _), Nat.sub_self]; rfl
  have s2 : ∀ (c : Cel) (l f f' : List W), (c :: (pre ++ [Cel.lst l, Cel.lst f])).set (2 + pre.length) (.lst f') = c :: (pre ++ [Cel.lst l, Cel.lst f']) := fun c l f f' => by
    rw [show 2 + pre.length = (pre.length + 1) + 1 by omega, List.set_cons_succ, List.set_append_right _ _ (by omega), show pre.length + 1 - pre.length = 1 by omega]; rfl
  obtain ⟨fr', st', e1, c', left, found, v, p', efr, est, hf, hpm⟩ := x_for (f := iRng rg1 (aCons (eVar 1) (aNil))) (g := gNm 4) (b := (sExp (eM isLst mAppend (eVar 3) (aCons (eM isLst mPopAt (eVar 2) (aCons (eCall F_law_draw (aCons (eVar 0) (aCons (eN oLen (aCons (eVar 2) (aNil))) (aNil)))) (aNil))) (aNil)))))
    (fr := [some (.cell 0), some (.int many), some (.cell (1 + pre.length)), some (.cell (2 + pre.length)), none]) (st := c :: (pre ++ [.lst (sgW left0), .lst []])) (st1 := c :: (pre ++ [.lst (sgW left0), .lst []])) (x := .non) (all := rngW 0 1 many.toNat)
    (x_rng1 (by simp) (by omega) (by omega))
    (fun k fr s => ∃ (c : Cel) (left found : List Nat) (v : Option W), Pool c ∧ fr = [some (.cell 0), some (.int many), some (.cell (1 + pre.length)), some (.cell (2 + pre.length)), v] ∧ s = c :: (pre ++ [.lst (sgW left), .lst (sgW found)]) ∧ found.length = k ∧ (found ++ left).Perm left0)
    ⟨c, left0, [], none, hp, rfl, rfl, rfl, .refl _⟩ (fun _ _ _ _ => trivial) (by
      rintro k fr s w ⟨c, left, found, v, hp, rfl, rfl, rfl, hpm⟩ hk
      obtain ⟨hk1, rfl⟩ := rngW_at hk
      have hlen := hpm.length_eq
      rw [List.length_append] at hlen
      have hpos : 0 < left.length := by omega
      obtain ⟨r, c1, p1, r0, r1, dr⟩ := draw_ok (m := (left.length : Int)) hp (by omega) (log_small (by omega) (by omega))
      have hr : r.toNat < left.length := by omega
      refine ⟨[some (.cell 0), some (.int many), some (.cell (1 + pre.length)), some (.cell (2 + pre.length)), some (.int (0 + (found.length : Int) * 1))], [some (.cell 0), some (.int many), some (.cell (1 + pre.length)), some (.cell (2 + pre.length)), some (.int (0 + (found.length : Int) * 1))], c1 :: (pre ++ [.lst (sgW (left.eraseIdx r.toNat)), .lst (sgW (found ++ [left[r.toNat]]))]), rfl, .inl ?_, c1, left.eraseIdx r.toNat, found ++ [left[r.toNat]], _, p1, rfl, rfl, by simp, ?_⟩
      · have q1 : isLst (c :: (pre ++ [Cel.lst (sgW left), Cel.lst (sgW found)])) (.cell (2 + pre.length)) = true := by unfold isLst lstW; simp only [g2]; rfl
        have q2 : isLst (c :: (pre ++ [Cel.lst (sgW left), Cel.lst (sgW found)])) (.cell (1 + pre.length)) = true := by unfold isLst lstW; simp only [g1]; rfl
        have q3 : oLen [.cell (1 + pre.length)] (c :: (pre ++ [Cel.lst (sgW left), Cel.lst (sgW found)])) = .ok (.int left.length) (c :: (pre ++ [Cel.lst (sgW left), Cel.lst (sgW found)])) := by
          have := (SqW.cell (g1 c (sgW left) (sgW found))).len
          rw [sgW_len] at this
          exact this
        have q4 : mPopAt (.cell (1 + pre.length)) [.int r] (c1 :: (pre ++ [Cel.lst (sgW left), Cel.lst (sgW found)])) = .ok (.str (sg left[r.toNat])) (c1 :: (pre ++ [Cel.lst (sgW (left.eraseIdx r.toNat)), Cel.lst (sgW found)])) := by
          unfold mPopAt
          simp only [g1, show dec (-(2 ^ 63) ≤ r ∧ r < 2 ^ 63) = true from dec_mk ⟨by omega, by omega⟩, if_true, sgW_len, seqIx r0 r1, sgW_at (List.getElem?_eq_getElem hr), s1, sgW_erase]
        have q5 : mAppend (.cell (2 + pre.length)) [.str (sg left[r.toNat])] (c1 :: (pre ++ [Cel.lst (sgW (left.eraseIdx r.toNat)), Cel.lst (sgW found)])) = .ok .non (c1 :: (pre ++ [Cel.lst (sgW (left.eraseIdx r.toNat)), Cel.lst (sgW (found ++ [left[r.toNat]]))])) := by
          unfold mAppend
          have hlt : (sgW found).length < LINE := by rw [sgW_len]; unfold LINE; omega
          simp only [g2, if_pos hlt, s2]
          rw [← sgW_app]; rfl
        simp only [x_exp, x_eM, x_var, fg3, fg2, fg0, Out.bind_ok, q1, q2, if_true, x_aCons, x_aNil, x_call, x_N, q3, dr, q4, q5, Out.stm_ok]
      · refine List.Perm.trans ?_ hpm
        rw [List.append_assoc]
        refine List.Perm.append_left _ ?_
        exact perm_erase hr)
  have hnn : (rngW 0 1 many.toNat).length = many.toNat := rngW_length 0 1 _
  rw [hnn] at hf
  have hfn : found.Nodup := by
    have : (found ++ left).Nodup := hpm.nodup_iff.mpr hnd
    exact (List.nodup_append.mp this).1
  obtain ⟨cs, k1, k2, k3⟩ := sorted_sgs hfn
  refine ⟨cs, c', [.lst (sgW left), .lst (sgW found)], p', by have := k2.length_eq; omega, k3, fun x hx => hpm.mem_iff.mp (List.mem_append_left _ (k2.mem_iff.mp hx)), ?_⟩
  rw [efr, est] at e1
  refine asg_to (w := .cell (2 + pre.length)) (st1 := c :: (pre ++ [.lst (sgW left0), .lst []])) ?_ ?_
  · simp only [x_N, x_aNil, Out.bind_ok, x_cell (ws := []) (by decide)]
    congr 1
    · rw [List.length_cons, List.length_append]; simp; omega
    · simp
  simp only [fs3]
  refine seq_to e1 ?_
  have q : oSortS [.cell (2 + pre.length)] (c' :: (pre ++ [Cel.lst (sgW left), Cel.lst (sgW found)])) = .ok (.lst (sgW cs)) (c' :: (pre ++ [Cel.lst (sgW left), Cel.lst (sgW found)])) := by
    unfold oSortS
    have e : lstW (c' :: (pre ++ [Cel.lst (sgW left), Cel.lst (sgW found)])) (.cell (2 + pre.length)) = some (sgW found) := by unfold lstW; simp only [g2]
    have hlt : (found.map sg).length < 64 := by rw [List.length_map]; omega
    simp only [e, Option.bind_some, strsW_sg, if_pos hlt, k1]
    congr 2
    unfold sgW; rw [List.map_map]; rfl
  simp only [x_ret, x_N, x_aCons, x_var, fg3, x_aNil, Out.bind_ok, q, Out.stm_ok]
theorem signs_okR {c : Cel} {rest : Sto} {many : Int} (hp : Pool c) (h0 : 0 ≤ many) (hm : many ≤ 12) (ho : rest.all (oldW (rest.length + 1)) = true) : ∃ cs c', Pool c' ∧ (cs.length : Int) = many ∧ Asc cs ∧ (∀ x ∈ cs, okC x) ∧ F_law_signs [.cell 0, .int many] (c :: rest) = .ok (.lst (sgW cs)) (c' :: rest) := by
  obtain ⟨r, c1, p1, r0, r1, dr⟩ := draw_ok (m := 3) hp (by decide) (log_small (by decide) (by decide))
  have hw : ∀ (cs : List Nat) n f, fz0 n f (.lst (sgW cs)) = some (.lst (sgW cs)) := fun cs n f => by unfold fz0; rw [fz_sgs]; rfl
  have d1 : ∀ st, oListSC [.str "0123456789abcdefghijklmnopqrstuvwxyz"] st = .ok (.cell st.length) (st ++ [.lst (sgW digs)]) := fun st => rfl
  have d2 : ∀ st, oListSC [.str "abcdefghijkl"] st = .ok (.cell st.length) (st ++ [.lst (sgW lets12)]) := fun st => rfl
  have hold : ∀ {c' : Cel}, Pool c' → (c' :: rest).all (oldW (c' :: rest).length) = true := fun {c'} p' => by
    rw [List.all_cons, pool_old _ p', List.length_cons, ho]; rfl
  by_cases hr : 0 < r
  · obtain ⟨cs, c', ex, p', k1, k2, k3, e⟩ := signs_tailR (pre := rest ++ [.lst (sgW digs)]) (left0 := lets12) (many := many) p1 h0 (by
      have : lets12.length = 12 := by decide +kernel
      omega) (by decide +kernel) (by decide +kernel) rfl
    refine ⟨cs, c', p', k1, k2, fun x hx => ?_, mk_rt3 (st1 := c' :: rest) (ex := [.lst (sgW digs)] ++ ex) ?_ rfl (hw cs) (hold p')⟩
    · have z : lets12.all (fun x => decide (x ∈ SGN.cps.toList)) = true := by decide +kernel
      show x ∈ SGN.cps.toList
      exact of_decide_eq_true (List.all_eq_true.mp z x (k3 x hx))
    · show B_law_signs [some (.cell 0), some (.int many), none, none, none] (c :: rest) = _
      unfold B_law_signs
      refine asg_to (w := .cell (1 + rest.length)) (st1 := c :: (rest ++ [.lst (sgW digs)])) (by simp [d1, Nat.add_comm]) ?_
      refine seq_to (fr1 := [some (.cell 0), some (.int many), some (.cell (1 + (rest ++ [Cel.lst (sgW digs)]).length)), none, none]) (st1 := c1 :: ((rest ++ [.lst (sgW digs)]) ++ [.lst (sgW lets12)])) ?_ ?_
      · simp [dr, hr, d2, Nat.add_comm]
      · rw [e]; simp
  · obtain ⟨cs, c', ex, p', k1, k2, k3, e⟩ := signs_tailR (pre := rest) (left0 := digs) (many := many) p1 h0 (by
      have : digs.length = 36 := by decide +kernel
      omega) (by decide +kernel) (by decide +kernel) rfl
    refine ⟨cs, c', p', k1, k2, fun x hx => ?_, mk_rt3 (st1 := c' :: rest) (ex := ex) ?_ rfl (hw cs) (hold p')⟩
    · exact k3 x hx
    · show B_law_signs [some (.cell 0), some (.int many), none, none, none] (c :: rest) = _
      unfold B_law_signs
      refine asg_to (w := .cell (1 + rest.length)) (st1 := c :: (rest ++ [.lst (sgW digs)])) (by simp [d1, Nat.add_comm]) ?_
      refine seq_to (fr1 := [some (.cell 0), some (.int many), some (.cell (1 + rest.length)), none, none]) (st1 := c1 :: (rest ++ [.lst (sgW digs)])) ?_ e
      simp [dr, hr]
/-! ## powers, rows of numbers -/
theorem power_ok {k : Nat} {st : Sto} (h : k ≤ 100) : F_law_power [.int k] st = .ok (.int ((2 ^ k : Nat) : Int)) st := by
  refine mk_rt (st1 := st) ?_ rfl
  show B_law_power [some (.int k), none, none] st = _
  unfold B_law_power
  refine asg_to (w := .int 1) (st1 := st) rfl ?_
  simp only [fs1]
  obtain ⟨fr', st', e1, u, efr, est⟩ := x_for (f := (iRng rg1 (aCons (eVar 0) (aNil)))) (g := (gNm 2)) (b := (sAsg (e2 oAdd (eVar 1) (eVar 1)) (gNm 1))) (fr := [some (.int k), some (.int 1), none]) (st := st) (st1 := st) (x := .non) (all := rngW 0 1 k) (x_rng1 (j := (k : Int)) (by simp) (by omega) (by omega))
    (fun i fr S => ∃ u, fr = [some (.int k), some (.int ((2 ^ i : Nat) : Int)), u] ∧ S = st) ⟨none, rfl, rfl⟩ (fun _ _ _ _ => trivial) (by
      rintro i fr S w ⟨u, rfl, rfl⟩ hi
      obtain ⟨hk, rfl⟩ := rngW_at hi
      refine ⟨_, [some (.int k), some (.int ((2 ^ (i + 1) : Nat) : Int)), some (.int (0 + (i : Int) * 1))], S, rfl, .inl ?_, some (.int (0 + (i : Int) * 1)), rfl, rfl⟩
      show sAsg _ _ [some (.int k), some (.int ((2 ^ i : Nat) : Int)), some (.int (0 + (i : Int) * 1))] S = _
      simp only [x_asgN, x_2, x_var, fg1, Out.bind_ok, x_add, Out.stm_ok]
      rw [show ((2 ^ i : Nat) : Int) + ((2 ^ i : Nat) : Int) = ((2 ^ (i + 1) : Nat) : Int) by rw [Nat.pow_succ]; omega]
      rfl)
  rw [efr, est, rngW_length] at e1
  refine seq_to e1 ?_
  rfl
def rowN : Nat → Nat → List Int
  | 0, _ => []
  | w + 1, x => rowN w (x / 2) ++ [((x % 2 : Nat) : Int)]
theorem rowN_len : ∀ w x, (rowN w x).length = w
  | 0, _ => rfl
  | w + 1, x => by unfold rowN; rw [List.length_append, rowN_len w]; rfl
theorem rowN_bits : ∀ w x, Bits (rowN w x)
  | 0, _ => fun n h => (by cases h)
  | w + 1, x => by
    unfold rowN
    intro n hn
    rcases List.mem_append.mp hn with q | q
    · exact rowN_bits w _ n q
    · rw [List.mem_singleton] at q; subst q; omega
theorem rowN_inj : ∀ w x y, x < 2 ^ w → y < 2 ^ w → rowN w x = rowN w y → x = y
  | 0, x, y, h1, h2, _ => by simp at h1 h2; omega
  | w + 1, x, y, h1, h2, e => by
    unfold rowN at e
    have q := List.append_inj e (by rw [rowN_len, rowN_len])
    rw [Nat.pow_succ] at h1 h2
    have := rowN_inj w (x / 2) (y / 2) (by omega) (by omega) q.1
    have q2 := q.2
    simp at q2
    omega
theorem row_of_ok {w x : Nat} {st : Sto} (hw : w ≤ 100) (ho : st.all (oldW st.length) = true) : F_law_row_of [.int x, .int w] st = .ok (bits (rowN w x)) st := by
  have hz : ∀ (r : List Int) n f, fz0 n f (bits r) = some (bits r) := fun r n f => fz_bits n f r
  obtain ⟨fr', st', e1, y, D, u, efr, est, hD, hDl⟩ := x_for (f := (iRng rg1 (aCons (eVar 1) (aNil)))) (g := (gNm 3)) (b := (sSeq (sExp (eM isLst mInsert (eVar 2) (aCons (eC (.int 0)) (aCons (e2 oSub (eVar 0) (e2 oMul (e2 oDiv (eVar 0) (eC (.int 2))) (eC (.int 2)))) (aNil))))) (sAsg (e2 oDiv (eVar 0) (eC (.int 2))) (gNm 0)))) (fr := [some (.int x), some (.int w), some (.cell st.length), none]) (st := st ++ [.lst []]) (st1 := st ++ [.lst []]) (x := .non) (all := rngW 0 1 w) (x_rng1 (j := (w : Int)) (by simp) (by omega) (by omega))
    (fun i fr S => ∃ (y : Nat) (D : List Int) (u : Option W), fr = [some (.int y), some (.int w), some (.cell st.length), u] ∧ S = st ++ [.lst (D.map W.int)] ∧ rowN (w - i) y ++ D = rowN w x ∧ D.length = i) ⟨x, [], none, rfl, rfl, by simp, rfl⟩ (fun _ _ _ _ => trivial) (by
      rintro i fr S u ⟨y, D, u0, rfl, rfl, h1, h2⟩ hi
      obtain ⟨hk, rfl⟩ := rngW_at hi
      have q1 : isLst (st ++ [Cel.lst (D.map W.int)]) (.cell st.length) = true := by unfold isLst lstW; simp only [get_new]; rfl
      have hd : oDiv (.int y) (.int 2) (st ++ [Cel.lst (D.map W.int)]) = .ok (.int ((y / 2 : Nat) : Int)) (st ++ [Cel.lst (D.map W.int)]) := by rw [x_divS (by decide) (by decide)]; simp
      have hd' : ∀ S, oDiv (.int y) (.int 2) S = .ok (.int ((y / 2 : Nat) : Int)) S := fun S => by rw [x_divS (by decide) (by decide)]; simp
      have hm : ∀ S, oMul (.int ((y / 2 : Nat) : Int)) (.int 2) S = .ok (.int (((y / 2 : Nat) : Int) * 2)) S := fun S => x_mulR (by decide)
      have he : (y : Int) - ((y / 2 : Nat) : Int) * 2 = ((y % 2 : Nat) : Int) := by omega
      have q2 : mInsert (.cell st.length) [.int 0, .int ((y % 2 : Nat) : Int)] (st ++ [Cel.lst (D.map W.int)]) = .ok .non (st ++ [Cel.lst ((((y % 2 : Nat) : Int) :: D).map W.int)]) := by
        have hlt : D.length < LINE := by unfold LINE; omega
        unfold mInsert
        simp [hlt]
      refine ⟨[some (.int y), some (.int w), some (.cell st.length), some (.int (0 + (i : Int) * 1))], [some (.int ((y / 2 : Nat) : Int)), some (.int w), some (.cell st.length), some (.int (0 + (i : Int) * 1))], _, rfl, .inl ?_, y / 2, ((y % 2 : Nat) : Int) :: D, some (.int (0 + (i : Int) * 1)), rfl, rfl, ?_, by simp [h2]⟩
      · simp only [x_seq, x_exp, x_eM, x_var, fg2, Out.bind_ok, q1, if_true, x_aCons, x_c, x_2, fg0, hd', hm, x_sub, he, x_aNil, q2, Out.stm_ok, x_asgN]
        rfl
      · rw [← h1, show w - i = (w - (i + 1)) + 1 by omega]
        rw [rowN]; simp)
  rw [efr, est] at e1
  rw [rngW_length] at hD hDl
  rw [Nat.sub_self] at hD
  have hD' : D = rowN w x := by rw [← hD]; rfl
  refine mk_rt2 (ex := [.lst (D.map W.int)]) ?_ (hz (rowN w x)) ho
  show B_law_row_of [some (.int x), some (.int w), none, none] st = _
  unfold B_law_row_of
  refine asg_to (w := .cell st.length) (st1 := st ++ [.lst []]) (by simp [x_cell (ws := []) (by decide)]) ?_
  simp only [fs2]
  refine seq_to e1 ?_
  have q3 : oTuple [.cell st.length] (st ++ [Cel.lst (D.map W.int)]) = .ok (bits (rowN w x)) (st ++ [Cel.lst (D.map W.int)]) := by
    unfold oTuple lstW
    simp only [get_new]
    rw [hD']; rfl
  simp only [x_ret, x_N, x_aCons, x_var, fg2, x_aNil, Out.bind_ok, q3, Out.stm_ok]
/-! ## a drawn book -/
theorem bitsL_erase (l : List (List Int)) (j : Nat) : (bitsL l).eraseIdx j = bitsL (l.eraseIdx j) := by
  unfold bitsL
  induction l generalizing j with
  | nil => simp
  | cons a l ih =>
    cases j with
    | zero => simp
    | succ j => simp only [List.map_cons, List.eraseIdx_cons_succ]; rw [ih]
theorem perm_eraseG {α : Type} : ∀ {l : List α} {i : Nat} (h : i < l.length), ([l[i]] ++ l.eraseIdx i).Perm l
  | [], i, h => by simp at h
  | a :: l, 0, h => by simp
  | a :: l, i + 1, h => by
    have ih := perm_eraseG (l := l) (i := i) (by simpa using h)
    simp only [List.getElem_cons_succ, List.eraseIdx_cons_succ, List.singleton_append] at ih ⊢
    exact (List.Perm.swap ..).trans (ih.cons a)
/-- one row popped off those that are left -/
theorem pop_row {c : Cel} {left : List (List Int)} {d : Cel} {fr : Fr} (hp : Pool c) (h0 : 0 < left.length) (h1 : left.length ≤ 1000) (f0 : fr[0]? = some (some (.cell 0))) (f3 : fr[3]? = some (some (.cell 1))) :
    ∃ (j : Nat) (hj : j < left.length) (c' : Cel), Pool c' ∧ eM isLst mPopAt (eVar 3) (aCons (eCall F_law_draw (aCons (eVar 0) (aCons (eN oLen (aCons (eVar 3) (aNil))) (aNil)))) (aNil)) fr [c, .lst (bitsL left), d] = .ok (bits left[j]) [c', .lst (bitsL (left.eraseIdx j)), d] := by
  obtain ⟨r, c1, p1, r0, r1, dr⟩ := draw_ok (m := (left.length : Int)) hp (by omega) (log_small (by omega) (by omega))
  have hr : r.toNat < left.length := by omega
  refine ⟨r.toNat, hr, c1, p1, ?_⟩
  have q2 : isLst [c, Cel.lst (bitsL left), d] (.cell 1) = true := rfl
  have q3 : oLen [.cell 1] [c, Cel.lst (bitsL left), d] = .ok (.int left.length) [c, Cel.lst (bitsL left), d] := by
    have := (SqW.cell (st := [c, Cel.lst (bitsL left), d]) (k := 1) (us := bitsL left) rfl).len
    rw [bitsL_len] at this
    exact this
  have q4 : mPopAt (.cell 1) [.int r] [c1, Cel.lst (bitsL left), d] = .ok (bits left[r.toNat]) [c1, Cel.lst (bitsL (left.eraseIdx r.toNat)), d] := by
    unfold mPopAt
    have g : (bitsL left)[r.toNat]? = some (bits left[r.toNat]) := by unfold bitsL; rw [List.getElem?_map, List.getElem?_eq_getElem hr]; rfl
    show (if dec (-(2 ^ 63) ≤ r ∧ r < 2 ^ 63) = true then _ else _) = _
    rw [if_pos (dec_mk ⟨by omega, by omega⟩)]
    simp only [bitsL_len, seqIx r0 r1, g, bitsL_erase]
    rfl
  simp only [x_eM, x_var, f3, f0, Out.bind_ok, q2, if_true, x_aCons, x_aNil, x_call, x_N, q3, dr, q4]
theorem model_ok {c : Cel} {w : Nat} {many : Int} (hp : Pool c) (w2 : 2 ≤ w) (w6 : w ≤ 6) (m1 : 1 ≤ many) (m10 : many ≤ 10) :
    ∃ cs P s t c' left, Pool c' ∧ BkOk cs w P s t ∧ F_law_book_model [.cell 0, .int w, .int many] [c] = .ok (mdl 2 s t) [c', .lst (bitsL left), .dct (sgW cs) (bitsL P)] := by
  have hpw : 2 ^ 2 ≤ 2 ^ w := Nat.pow_le_pow_right (by decide) w2
  have hpw6 : 2 ^ w ≤ 2 ^ 6 := Nat.pow_le_pow_right (by decide) w6
  obtain ⟨N, hN⟩ : ∃ N, N = 2 ^ w := ⟨_, rfl⟩
  rw [← hN] at hpw hpw6
  have hN4 : 4 ≤ N := hpw
  have hN64 : N ≤ 64 := hpw6
  obtain ⟨R0, hR⟩ : ∃ R0, R0 = (List.range N).map (rowN w) := ⟨_, rfl⟩
  have hR0 : R0.length = N := by rw [hR]; simp
  have hnd : R0.Nodup := by
    rw [hR]
    refine List.pairwise_map.mpr ((List.nodup_range (n := N)).imp_of_mem fun {a b} ha hb h e => h ?_)
    exact rowN_inj w a b (by rw [← hN]; exact List.mem_range.mp ha) (by rw [← hN]; exact List.mem_range.mp hb) e
  have hrow : ∀ r ∈ R0, r.length = w ∧ Bits r := fun r hr => by
    rw [hR] at hr
    obtain ⟨k, _, rfl⟩ := List.mem_map.mp hr
    exact ⟨rowN_len w k, rowN_bits w k⟩
  obtain ⟨q, hq⟩ : ∃ q : Int, q = if ((N : Int) - 2) < many then (N : Int) - 2 else many := ⟨_, rfl⟩
  have hq1 : 1 ≤ q ∧ q ≤ 10 ∧ q ≤ (N : Int) - 2 := by rw [hq]; split <;> omega
  have pw : ∀ st, F_law_power [.int w] st = .ok (.int (N : Int)) st := fun st => by rw [power_ok (by omega), hN]
  -- all rows
  have z : eLcC (iRng rg1 (aCons (eCall F_law_power (aCons (eVar 1) (aNil))) (aNil))) (gNm 7) [7] (tTrue) (eCall F_law_row_of (aCons (eVar 7) (aCons (eVar 1) (aNil)))) [some (.cell 0), some (.int w), some (.int many), none, none, none, none, none] [c] = .ok (.cell 1) [c, .lst (bitsL R0)] := by
    refine x_lcC (st := [c]) (st1 := [c]) (st2 := [c]) (x := .non) (all := rngW 0 1 N) (x_rng1 (j := (N : Int)) (by simp only [x_aCons, x_call, x_var, fg1, x_aNil, Out.bind_ok, pw]) (by omega) (by omega)) ?_
    have e : bitsL R0 = (rngW 0 1 N).map fun u => match u with
        | .int a => bits (rowN w a.toNat)
        | u => u := by
      rw [hR]
      unfold rngW bitsL
      rw [List.map_map, List.map_map]
      refine List.map_congr_left fun k _ => ?_
      show bits (rowN w k) = bits (rowN w ((0 : Int) + (k : Int) * 1).toNat)
      rw [show ((0 : Int) + (k : Int) * 1).toNat = k by omega]
    rw [e]
    refine lc_map (x := .non) trivial _ fun u hu => ?_
    obtain ⟨k, hk, rfl⟩ := rng_mem hu
    refine ⟨_, rfl, rfl, ?_⟩
    have ha : (0 : Int) + (k : Int) * 1 = (k : Int) := by omega
    rw [ha]
    show eCall F_law_row_of _ [some (.cell 0), some (.int w), some (.int many), none, none, none, none, some (.int (k : Int))] [c] = _
    simp only [x_call, x_aCons, x_var, fg1, fg7, x_aNil, Out.bind_ok, row_of_ok (w := w) (x := k) (st := [c]) (by omega) (by rw [List.all_cons, pool_old _ hp]; rfl), Int.toNat_natCast]
  obtain ⟨cs, c1, p1, k1, k2, k3, sg1⟩ := signs_okR (c := c) (rest := [.lst (bitsL R0), .dct [] []]) (many := q) hp (by omega) (by omega) (by
    rw [List.all_cons, List.all_cons]
    have : ∀ n, oldW n (.lst (bitsL R0)) = true := fun n => by
      show (fz0s n (fun _ => none) (bitsL R0)).isSome = true
      rw [fz_bitsL]; rfl
    rw [this]; rfl)
  have hcl : cs.length ≤ 10 := by omega
  obtain ⟨fr', st', e1, c2, left, P, u, p2, efr, est, hP, hpm⟩ := x_for (f := (iSeq (eCall F_law_signs (aCons (eVar 0) (aCons (eN oMin2 (aCons (eVar 2) (aCons (e2 oSub (eCall F_law_power (aCons (eVar 1) (aNil))) (eC (.int 2))) (aNil)))) (aNil)))))) (g := (gNm 5)) (b := (sSub uDct (eM isLst mPopAt (eVar 3) (aCons (eCall F_law_draw (aCons (eVar 0) (aCons (eN oLen (aCons (eVar 3) (aNil))) (aNil)))) (aNil))) (eVar 4) (eVar 5)))
    (fr := [some (.cell 0), some (.int w), some (.int many), some (.cell 1), some (.cell 2), none, none, none]) (st := [c, .lst (bitsL R0), .dct [] []]) (st1 := [c1, .lst (bitsL R0), .dct [] []]) (x := .lst (sgW cs)) (all := sgW cs)
    (by
      have hmin : oMin2 [.int many, .int ((N : Int) - 2)] [c, .lst (bitsL R0), .dct [] []] = .ok (.int q) [c, .lst (bitsL R0), .dct [] []] := by rw [hq]; rfl
      simp only [x_iSeq, x_call, x_aCons, x_N, x_2, x_var, fg0, fg1, fg2, x_c, x_aNil, Out.bind_ok, pw, x_sub, hmin, sg1]
      rfl)
    (fun i fr S => ∃ (c : Cel) (left P : List (List Int)) (u : Option W), Pool c ∧ fr = [some (.cell 0), some (.int w), some (.int many), some (.cell 1), some (.cell 2), u, none, none] ∧ S = [c, .lst (bitsL left), .dct (sgW (cs.take i)) (bitsL P)] ∧ P.length = i ∧ (P ++ left).Perm R0)
    ⟨c1, R0, [], none, p1, rfl, rfl, rfl, .refl _⟩ (fun _ _ _ _ => trivial) (by
      rintro i fr S v ⟨c, left, P, u, hp, rfl, rfl, hP, hpm⟩ hi
      unfold sgW at hi
      rw [List.getElem?_map] at hi
      obtain ⟨x, hx, rfl⟩ := Option.map_eq_some_iff.mp hi
      have hil : i < cs.length := (List.getElem?_eq_some_iff.mp hx).1
      have hlen := hpm.length_eq
      rw [List.length_append, hR0] at hlen
      obtain ⟨j, hj, c', p', pe⟩ := pop_row (c := c) (left := left) (d := .dct (sgW (cs.take i)) (bitsL P)) (fr := [some (.cell 0), some (.int w), some (.int many), some (.cell 1), some (.cell 2), some (.str (sg x)), none, none]) hp (by omega) (by omega) rfl rfl
      refine ⟨[some (.cell 0), some (.int w), some (.int many), some (.cell 1), some (.cell 2), some (.str (sg x)), none, none], [some (.cell 0), some (.int w), some (.int many), some (.cell 1), some (.cell 2), some (.str (sg x)), none, none], [c', .lst (bitsL (left.eraseIdx j)), .dct (sgW (cs.take (i + 1))) (bitsL (P ++ [left[j]]))], rfl, .inl ?_, c', left.eraseIdx j, P ++ [left[j]], some (.str (sg x)), p', rfl, rfl, by simp [hP], ?_⟩
      · have pn := put_new (S := [c', .lst (bitsL (left.eraseIdx j)), .dct (sgW (cs.take i)) (bitsL P)]) (m := 2) (r := left[j]) rfl (take_not (asc_nodup k2) hx) (by rw [List.length_take]; unfold LINE; omega)
        rw [← take_next hx] at pn
        unfold sSub
        rw [pe]
        simp only [Out.stm_ok, x_var, fg4, fg5, pn]
        rfl
      · refine List.Perm.trans ?_ hpm
        rw [List.append_assoc]
        exact List.Perm.append_left _ (perm_eraseG hj))
  rw [efr, est, sgW_len, List.take_length] at e1
  rw [sgW_len] at hP
  have hlen := hpm.length_eq
  rw [List.length_append, hR0] at hlen
  obtain ⟨j, hj, c3, p3, pe⟩ := pop_row (c := c2) (left := left) (d := .dct (sgW cs) (bitsL P)) (fr := [some (.cell 0), some (.int w), some (.int many), some (.cell 1), some (.cell 2), u, none, none]) p2 (by omega) (by omega) rfl rfl
  have hl2 : (left.eraseIdx j).length = left.length - 1 := by rw [List.length_eraseIdx, if_pos hj]
  obtain ⟨s, hs⟩ : ∃ s, s = left[j] := ⟨_, rfl⟩
  rw [← hs] at pe
  obtain ⟨i, hi, c4, p4, pe2⟩ := pop_row (c := c3) (left := left.eraseIdx j) (d := .dct (sgW cs) (bitsL P)) (fr := [some (.cell 0), some (.int w), some (.int many), some (.cell 1), some (.cell 2), u, some (bits s), none]) p3 (by omega) (by omega) rfl rfl
  obtain ⟨t, ht⟩ : ∃ t, t = (left.eraseIdx j)[i] := ⟨_, rfl⟩
  rw [← ht] at pe2
  have hall : ((P ++ [s, t]) ++ (left.eraseIdx j).eraseIdx i).Perm R0 := by
    refine List.Perm.trans ?_ hpm
    rw [List.append_assoc]
    refine List.Perm.append_left _ ?_
    have a := perm_eraseG hj
    have b := perm_eraseG hi
    rw [← hs] at a
    rw [← ht] at b
    exact (List.Perm.cons s b).trans a
  have hsub : ∀ r ∈ P ++ [s, t], r ∈ R0 := fun r hr => hall.mem_iff.mp (List.mem_append_left _ hr)
  have hn2 : (P ++ [s, t]).Nodup := (List.nodup_append.mp (hall.nodup_iff.mpr hnd)).1
  refine ⟨cs, P, s, t, c4, (left.eraseIdx j).eraseIdx i, p4, ⟨by omega, by omega, k3, k2, hP, by omega, w6, fun r hr => hrow r (hsub r (List.mem_append_left _ hr)), hrow s (hsub s (by simp)), hrow t (hsub t (by simp)), hn2⟩, mkA_rt ?_⟩
  show B_law_book_model [some (.cell 0), some (.int w), some (.int many), none, none, none, none, none] [c] = _
  unfold B_law_book_model
  refine asg_to z ?_
  simp only [fs3]
  refine asg_to (w := .cell 2) (st1 := [c, .lst (bitsL R0), .dct [] []]) rfl ?_
  simp only [fs4]
  refine seq_to e1 ?_
  refine asg_to pe ?_
  simp only [fs6]
  simp only [x_ret, x_N, x_aCons, x_var, fg4, fg6, pe2, x_aNil, Out.bind_ok, x_lst (ws := [W.cell 2, bits s, bits t]) (by simp), Out.stm_ok]
  rfl
theorem drawn_ok {c : Cel} (hp : Pool c) : ∃ cs n P s t c' left, Pool c' ∧ BkOk cs n P s t ∧ F_law_drawn_book [.cell 0] [c] = .ok (mdl 2 s t) [c', .lst (bitsL left), .dct (sgW cs) (bitsL P)] := by
  obtain ⟨r, c1, p1, r0, r1, dr⟩ := draw_ok (m := 6) hp (by decide) (log_small (by decide) (by decide))
  obtain ⟨q, c2, p2, q0, q1, dq⟩ := draw_ok (m := 6) p1 (by decide) (log_small (by decide) (by decide))
  obtain ⟨w, w2, w6, hw⟩ : ∃ w : Nat, 2 ≤ w ∧ w ≤ 6 ∧ ∀ st, oIx (.lst [.int 2, .int 2, .int 3, .int 3, .int 4, .int 6]) (.int r) st = .ok (.int w) st := by
    obtain ⟨u, hu, e⟩ := ix_mem (ws := [.int 2, .int 2, .int 3, .int 3, .int 4, .int 6]) r0 (by simpa using r1)
    simp only [List.mem_cons, List.not_mem_nil, or_false] at hu
    rcases hu with rfl | rfl | rfl | rfl | rfl | rfl
    · exact ⟨2, by decide, by decide, e⟩
    · exact ⟨2, by decide, by decide, e⟩
    · exact ⟨3, by decide, by decide, e⟩
    · exact ⟨3, by decide, by decide, e⟩
    · exact ⟨4, by decide, by decide, e⟩
    · exact ⟨6, by decide, by decide, e⟩
  obtain ⟨m, m1, m10, hm⟩ : ∃ m : Int, 1 ≤ m ∧ m ≤ 10 ∧ ∀ st, oIx (.lst [.int 1, .int 2, .int 2, .int 3, .int 6, .int 10]) (.int q) st = .ok (.int m) st := by
    obtain ⟨u, hu, e⟩ := ix_mem (ws := [.int 1, .int 2, .int 2, .int 3, .int 6, .int 10]) q0 (by simpa using q1)
    simp only [List.mem_cons, List.not_mem_nil, or_false] at hu
    rcases hu with rfl | rfl | rfl | rfl | rfl | rfl
    · exact ⟨1, by decide, by decide, e⟩
    · exact ⟨2, by decide, by decide, e⟩
    · exact ⟨2, by decide, by decide, e⟩
    · exact ⟨3, by decide, by decide, e⟩
    · exact ⟨6, by decide, by decide, e⟩
    · exact ⟨10, by decide, by decide, e⟩
  obtain ⟨cs, P, s, t, c', left, p', B, e⟩ := model_ok p2 w2 w6 m1 m10
  refine ⟨cs, w, P, s, t, c', left, p', B, mkA_rt ?_⟩
  show B_law_drawn_book [some (.cell 0), none, none] [c] = _
  have l1 : ∀ st, oLst [.int 2, .int 2, .int 3, .int 3, .int 4, .int 6] st = .ok (.lst [.int 2, .int 2, .int 3, .int 3, .int 4, .int 6]) st := fun st => x_lst (by decide)
  have l2 : ∀ st, oLst [.int 1, .int 2, .int 2, .int 3, .int 6, .int 10] st = .ok (.lst [.int 1, .int 2, .int 2, .int 3, .int 6, .int 10]) st := fun st => x_lst (by decide)
  unfold B_law_drawn_book
  refine asg_to (w := .int w) (st1 := [c1]) (by simp only [x_2, x_N, x_aCons, x_c, x_aNil, Out.bind_ok, l1, x_call, x_var, fg0, dr, hw]) ?_
  simp only [fs1]
  refine asg_to (w := .int m) (st1 := [c2]) (by simp only [x_2, x_N, x_aCons, x_c, x_aNil, Out.bind_ok, l2, x_call, x_var, fg0, dq, hm]) ?_
  simp only [fs2]
  simp only [x_ret, x_call, x_aCons, x_var, fg0, fg1, fg2, x_aNil, Out.bind_ok, e, Out.stm_ok]
theorem law_book_ok {c : Cel} {cs : List Nat} {n : Nat} {P left : List (List Int)} {s t : List Int} (hp : Pool c) (B : BkOk cs n P s t) : F_law_book [mdl 2 s t] [c, .lst (bitsL left), .dct (sgW cs) (bitsL P)] = .ok (bk cs n P s t) [c, .lst (bitsL left), .dct (sgW cs) (bitsL P)] := by
  have ol : ∀ n, oldW n (.lst (bitsL left)) = true := fun n => by
    show (fz0s n (fun _ => none) (bitsL left)).isSome = true
    rw [fz_bitsL]; rfl
  have oo : ∀ n, [c, .lst (bitsL left), .dct (sgW cs) (bitsL P)].all (oldW n) = true := fun n => by
    simp [pool_old _ hp, ol, old_dct]
  have oo4 : ∀ n, [c, .lst (bitsL left), .dct (sgW cs) (bitsL P), .dct (sgW cs) (bitsL P)].all (oldW n) = true := fun n => by
    simp [pool_old _ hp, ol, old_dct]
  refine mk_rt2 (ex := [.dct (sgW cs) (bitsL P)]) ?_ (fun _ _ => fz_bk) (oo _)
  show B_law_book [some (mdl 2 s t)] [c, .lst (bitsL left), .dct (sgW cs) (bitsL P)] = _
  unfold B_law_book
  have d1 : oDictC [.cell 2] [c, .lst (bitsL left), .dct (sgW cs) (bitsL P)] = .ok (.cell 3) [c, .lst (bitsL left), .dct (sgW cs) (bitsL P), .dct (sgW cs) (bitsL P)] := by
    unfold oDictC
    simp only [dctKs_cell (st := [c, .lst (bitsL left), .dct (sgW cs) (bitsL P)]) (k := 2) (ks := sgW cs) (ws := bitsL P) rfl, keys_sg]
    rfl
  have mk := book_make (st0 := [c, .lst (bitsL left), .dct (sgW cs) (bitsL P)]) (st := [c, .lst (bitsL left), .dct (sgW cs) (bitsL P), .dct (sgW cs) (bitsL P)]) (k := 3) (f := (aCons (eN oDictC (aCons (e2 oIx (eVar 0) (eC (.int 0))) (aNil))) (aCons (e2 oIx (eVar 0) (eC (.int 1))) (aCons (e2 oIx (eVar 0) (eC (.int 2))) (aNil))))) (fr := [some (mdl 2 s t)])
    (by simp only [x_aCons, x_N, x_2, x_var, fg0, x_c, x_aNil, Out.bind_ok, ix_m0, d1, ix_m1, ix_m2]) B rfl (oo4 _) (oo4 _)
  simp only [x_ret, mk, Out.stm_ok]
  rfl
/-! ## what is asked -/
/-! ## changed rows -/
theorem sl_to {x : List Int} {k : Nat} {st : Sto} (h : k ≤ x.length) : oSl (bits x) none (some (k : Int)) st = .ok (bits (x.take k)) st := by
  show Out.ok (W.tup (cutW (x.map W.int) none (some (k : Int)))) _ = _
  rw [cut_to (by rw [List.length_map]; exact h), ← List.map_take]; rfl
theorem sl_from {x : List Int} {k : Nat} {st : Sto} (h : k ≤ x.length) : oSl (bits x) (some (k : Int)) none st = .ok (bits (x.drop k)) st := by
  show Out.ok (W.tup (cutW (x.map W.int) (some (k : Int)) none)) _ = _
  rw [cut_from (by rw [List.length_map]; exact h), ← List.map_drop]; rfl
theorem take_bits {x : List Int} {k : Nat} (h : Bits x) : Bits (x.take k) := fun n hn => h n (List.mem_of_mem_take hn)
theorem drop_bits {x : List Int} {k : Nat} (h : Bits x) : Bits (x.drop k) := fun n hn => h n (List.mem_of_mem_drop hn)
theorem if_ret {c : SemB} {w : W} {t : SSem} {fr : Fr} {st : Sto} {b : Bool} (h : c fr st = .ok b st) : sSeq (sIf c (sRet (eC w)) sNil) t fr st = if b = true then .rt w st else t fr st := by
  simp only [x_seq, x_if, h, Out.stm_ok]
  cases b <;> rfl
theorem nb {E : Sem} {fr : Fr} {st : Sto} (h : E fr st = .ok (.bl true) st) : bNot (bOf E) fr st = .ok false st := by
  simp only [x_bNot, x_bOf, h, Out.bind_ok]; rfl
theorem nor {a b : SemB} {fr : Fr} {st : Sto} (h1 : a fr st = .ok false st) (h2 : b fr st = .ok false st) : bOr a b fr st = .ok false st := by
  simp only [x_bOr, h1, Out.bind_ok, h2]; rfl
theorem no_ret {c : SemB} {w : W} {t : SSem} {fr : Fr} {st : Sto} {o : SOut} (h : c fr st = .ok false st) (h2 : t fr st = o) : sSeq (sIf c (sRet (eC w)) sNil) t fr st = o := by
  rw [if_ret h, if_neg (by simp)]; exact h2
theorem if_end {c : SemB} {u : SSem} {fr : Fr} {st : Sto} (h : c fr st = .ok false st) : sIf c u sNil fr st = .nx fr st := by
  simp only [x_if, h, Out.stm_ok]; rfl
theorem len_sub : ∀ {xs cs : List Nat}, xs.Nodup → (∀ x ∈ xs, x ∈ cs) → xs.length ≤ cs.length
  | [], _, _, _ => Nat.zero_le _
  | a :: xs, cs, h, s => by
    obtain ⟨h1, h2⟩ := List.nodup_cons.mp h
    have ha := s a List.mem_cons_self
    have ih := len_sub (xs := xs) (cs := cs.erase a) h2 fun x hx => (List.mem_erase_of_ne (fun e : x = a => h1 (by rw [← e]; exact hx))).mpr (s x (List.mem_cons_of_mem _ hx))
    rw [List.length_erase_of_mem ha] at ih
    have : 0 < cs.length := List.length_pos_of_mem ha
    rw [List.length_cons]; omega
theorem deep_ok {st : Sto} : ∃ xs, F_law_deep [] st = .ok (.lst xs) st := by
  obtain ⟨fr', st', e1, xs, u, efr, est⟩ := x_for (f := (iRng rg1 (aCons (eC (.int 27)) (aNil)))) (g := (gNm 1)) (b := (sAsg (eN oLst (aCons (eVar 0) (aNil))) (gNm 0))) (fr := [some (.lst [.int 0]), none]) (st := st) (st1 := st) (x := .non) (all := rngW 0 1 27) (x_rng1 (j := 27) (by simp) (by decide) (by decide))
    (fun _ fr S => ∃ (xs : List W) (u : Option W), fr = [some (.lst xs), u] ∧ S = st) ⟨[.int 0], none, rfl, rfl⟩ (fun _ _ _ _ => trivial) (by
      rintro i fr S w ⟨xs, u, rfl, rfl⟩ hi
      exact ⟨[some (.lst xs), some w], [some (.lst [.lst xs]), some w], S, rfl, .inl rfl, [.lst xs], some w, rfl, rfl⟩)
  rw [efr, est] at e1
  refine ⟨xs, mk_rt (st1 := st) ?_ rfl⟩
  show B_law_deep [none, none] st = _
  unfold B_law_deep
  refine asg_to (w := .lst [.int 0]) (st1 := st) rfl ?_
  simp only [fs0]
  refine seq_to e1 ?_
  rfl

end SL
namespace SL
open PySem PySem.Spec PyProof.Rows L2
/-! ## comprehensions over what is told of indexes -/
theorem lc_fm {α : Type} {x : W} {all : List W} {g : TgF} {t : SemB} {e : Sem} {fr : Fr} {h : α → W} {p : α → Bool} {f : α → W} {st : Sto} (hs : srcOk x all st) : ∀ l : List α, (∀ a ∈ l, ∃ fr1, g (h a) fr st = some fr1 ∧ t fr1 st = .ok (p a) st ∧ (p a = true → e fr1 st = .ok (f a) st)) → lcRun x all g t e fr (l.map h) st = .ok ((l.filter p).map f) st
  | [], _ => by rw [List.map_nil]; unfold lcRun; rw [if_pos hs]; rfl
  | a :: r, q => by
    obtain ⟨fr1, h1, h2, h3⟩ := q a List.mem_cons_self
    have ih := lc_fm hs r fun u hu => q u (List.mem_cons_of_mem _ hu)
    rw [List.map_cons]
    unfold lcRun
    rw [if_pos hs, h1]
    cases e : p a with
    | true => simp only [h2, e, h3 e, ih, List.filter_cons, if_true, List.map_cons]
    | false => simp only [h2, e, ih, List.filter_cons]; rfl
theorem lc_mp {α : Type} {x : W} {all : List W} {g : TgF} {t : SemB} {e : Sem} {fr : Fr} {h : α → W} {f : α → W} {st : Sto} (hs : srcOk x all st) (l : List α) (q : ∀ a ∈ l, ∃ fr1, g (h a) fr st = some fr1 ∧ t fr1 st = .ok true st ∧ e fr1 st = .ok (f a) st) : lcRun x all g t e fr (l.map h) st = .ok (l.map f) st := by
  have z := lc_fm (p := fun _ => true) (f := f) hs l fun a ha => by
    obtain ⟨fr1, h1, h2, h3⟩ := q a ha
    exact ⟨fr1, h1, h2, fun _ => h3⟩
  rw [z, List.filter_eq_self.mpr fun _ _ => rfl]
theorem rng_map1 {n : Nat} : rngW 0 1 n = (List.range n).map fun (k : Nat) => W.int (k : Int) := by
  unfold rngW
  exact List.map_congr_left fun k _ => by rw [show (0 : Int) + (k : Int) * 1 = k by omega]
theorem bits_ix {x : List Int} {k : Nat} {st : Sto} (h : k < x.length) : oIx (bits x) (.int ((0 : Int) + (k : Int) * 1)) st = .ok (.int x[k]) st := by
  have z : ((0 : Int) + (k : Int) * 1) = k := by omega
  rw [z]
  exact x_ixT (by omega) (by simp [h])
/-! ## marks, rows, what lies between two rows -/
def diff (x y : List Int) : List W := (rngW 0 1 x.length).filter fun w => match w with
  | .int k => !decide (x[k.toNat]? = y[k.toNat]?)
  | _ => false
def dist (x y : List Int) : Nat := (diff x y).length
theorem dist_comm {x y : List Int} (h : x.length = y.length) : dist x y = dist y x := by
  unfold dist diff
  rw [h]
  congr 2
  funext w
  cases w <;> try rfl
  rename_i k
  simp only [decide_eq_decide.mpr (show (x[k.toNat]? = y[k.toNat]?) ↔ (y[k.toNat]? = x[k.toNat]?) from ⟨Eq.symm, Eq.symm⟩)]
theorem lc_diff {x y : List Int} {st : Sto} (h3 : x.length = y.length) (hn : x.length ≤ 100000) : eLc (iRng rg1 (aCons (eN oLen (aCons (eVar 0) (aNil))) (aNil))) (gNm 2) [2] (bOf (e2 oNe (e2 oIx (eVar 0) (eVar 2)) (e2 oIx (eVar 1) (eVar 2)))) (eVar 2) [some (bits x), some (bits y), none] st = .ok (.lst (diff x y)) st := by
  have e1 : ∀ n : List Int, oLen [bits n] st = .ok (.int n.length) st := fun n => by unfold bits; simp
  refine x_lc (st1 := st) (x := .non) (all := rngW 0 1 x.length) (x_rng1 (j := x.length) (by simp [e1]) (by omega) (by omega)) ?_
  have q : diff x y = (diff x y).map id := by simp
  rw [q]
  refine lc_filter (x := .non) trivial _ fun w hw => ?_
  obtain ⟨k, hk, rfl⟩ := rng_mem hw
  refine ⟨_, rfl, ?_, fun _ => by simp [wipeF]⟩
  have i1 := bits_ix (st := st) hk
  have i2 := bits_ix (st := st) (x := y) (k := k) (by omega)
  have hk2 : k < y.length := by omega
  have t1 : x[k]? = some x[k] := by simp [hk]
  have t2 : y[k]? = some y[k] := by simp [hk2]
  simp only [wipeF, gNm]
  simp [i1, i2]
  simp at i1 i2
  simp [i1, i2, hk, hk2]
theorem apart_ok {x y : List Int} {st : Sto} (h : Bits x) (h2 : Bits y) (h3 : x.length = y.length) (hn : x.length ≤ 100000) : F_apart [bits x, bits y] st = .ok (.int (dist x y)) st := by
  refine mk_rt (st1 := st) ?_ rfl
  show B_apart [some (bits x), some (bits y), none] st = _
  unfold B_apart
  have e1 : ∀ n : List Int, oLen [bits n] st = .ok (.int n.length) st := fun n => by unfold bits; simp
  simp [check_ok (bits_ok _) (bits_row h), check_ok (bits_ok _) (bits_row h2), e1, h3, lc_diff (st := st) h3 hn, dist]
theorem count_ok {x y : List Int} {st : Sto} (h3 : x.length = y.length) (hn : x.length ≤ 100000) : F_law_count [bits x, bits y] st = .ok (.int (dist x y)) st := by
  refine mk_rt (st1 := st) ?_ rfl
  show B_law_count [some (bits x), some (bits y), none] st = _
  unfold B_law_count
  simp [lc_diff (st := st) h3 hn, dist]
def mks (cs : List Nat) : List Str := cs.map sg ++ [("start" : Str), "stop"]
def mkW (cs : List Nat) : List W := (mks cs).map W.str
def rws (P : List (List Int)) (s t : List Int) : List (List Int) := P ++ [s, t]
theorem mkW_eq (cs : List Nat) : mkW cs = sgW cs ++ [.str "start", .str "stop"] := by
  unfold mkW mks sgW; rw [List.map_append, List.map_map]; rfl
theorem mks_len (cs : List Nat) : (mks cs).length = cs.length + 2 := by unfold mks; simp
theorem mkW_len (cs : List Nat) : (mkW cs).length = cs.length + 2 := by unfold mkW; rw [List.length_map, mks_len]
section
variable {cs : List Nat} {n : Nat} {P : List (List Int)} {s t : List Int} {st : Sto}
theorem rws_len (B : BkOk cs n P s t) : (rws P s t).length = cs.length + 2 := by unfold rws; simp [B.len]
theorem rws_ok (B : BkOk cs n P s t) : ∀ r ∈ rws P s t, r.length = n ∧ Bits r := fun r hr => by
  unfold rws at hr
  simp only [List.mem_append, List.mem_cons, List.not_mem_nil, or_false] at hr
  rcases hr with h | rfl | rfl
  · exact B.row r h
  · exact B.rs
  · exact B.rt
theorem val_no {x : Str} : ∀ {cs : List Nat} {P : List (List Int)}, (∀ c ∈ cs, sg c ≠ x) → valW ((kkS cs).zip (bitsL P)) (.inr x) = none
  | [], P, _ => rfl
  | a :: cs, [], _ => rfl
  | a :: cs, r :: P, h => by
    have ih := val_no (cs := cs) (P := P) fun c hc => h c (List.mem_cons_of_mem _ hc)
    unfold valW kkS bitsL at ih ⊢
    rw [List.map_cons, List.map_cons, List.zip_cons_cons, List.find?_cons]
    have h1 : ¬ (Sum.inr (sg a) : Key) = Sum.inr x := fun z => h a List.mem_cons_self (Sum.inr.inj z)
    simp only [decide_eq_false h1]
    exact ih
theorem din_no {x : Str} (h : ∀ c ∈ cs, sg c ≠ x) : oDIn (fun b => b) (.str x) (.dct (sgW cs) (bitsL P)) st = .ok (.bl false) st := by
  unfold oDIn
  simp only [dctW_d, keyW, val_no h]; rfl
theorem sg_long {x : Str} (h : x.length ≠ 1) : ∀ c ∈ cs, sg c ≠ x := fun c _ z => h (by rw [← z]; rfl)
theorem eq_stop : oEq (.str "stop") (.str "start") st = .ok (.bl false) st := by
  have e : eqW st (.str "stop") (.str "start") = some false := by
    show (if SeqAt.shaped (.str "stop") && SeqAt.shaped (.str "start") then some (PyData.eqv (.str "stop") (.str "start")) else none) = some false
    decide +kernel
  unfold oEq; rw [e]
theorem pattern_mk (B : BkOk cs n P s t) {k : Nat} {m : Str} {r : List Int} (hm : (mks cs)[k]? = some m) (hr : (rws P s t)[k]? = some r) : F_Book_pattern [bk cs n P s t, .str m] st = .ok (bits r) st := by
  unfold mks at hm; unfold rws at hr
  have f1 := fun (fr : Fr) => bk_get (fr := fr) (x := "_rows") (u := .dct (sgW cs) (bitsL P)) (f := eVar 0) (st := st) (st1 := st) (cs := cs) (n := n) (P := P) (s := s) (t := t)
  have f2 := fun (fr : Fr) => bk_get (fr := fr) (x := "start") (u := bits s) (f := eVar 0) (st := st) (st1 := st) (cs := cs) (n := n) (P := P) (s := s) (t := t)
  have f3 := fun (fr : Fr) => bk_get (fr := fr) (x := "stop") (u := bits t) (f := eVar 0) (st := st) (st1 := st) (cs := cs) (n := n) (P := P) (s := s) (t := t)
  rcases Nat.lt_or_ge k cs.length with h | h
  · rw [List.getElem?_append_left (by simpa using h), List.getElem?_map] at hm
    rw [List.getElem?_append_left (by rw [B.len]; exact h)] at hr
    obtain ⟨c, hc, rfl⟩ := Option.map_eq_some_iff.mp hm
    exact pattern_ok (look_at (asc_nodup B.asc) hc hr)
  · rw [List.getElem?_append_right (by simpa using h)] at hm
    rw [List.getElem?_append_right (by rw [B.len]; exact h)] at hr
    rw [List.length_map] at hm; rw [B.len] at hr
    obtain ⟨j, hj⟩ : ∃ j, j = k - cs.length := ⟨_, rfl⟩
    rw [← hj] at hm hr
    match j, hm, hr with
    | 0, hm, hr =>
      injection hm with hm; injection hr with hr; subst hm; subst hr
      refine mk_rt (st1 := st) ?_ rfl
      show B_Book_pattern [some (bk cs n P s t), some (.str "start")] st = _
      have f1 := f1 ([some (bk cs n P s t), some (.str "start")]) rfl rfl
      have f2 := f2 ([some (bk cs n P s t), some (.str "start")]) rfl rfl
      have d := din_no (cs := cs) (P := P) (st := st) (x := "start") (sg_long (by decide +kernel))
      have q := eq_str (z := "start") (st := st) (by decide +kernel)
      unfold B_Book_pattern
      simp [f1, f2, d, q]
    | 1, hm, hr =>
      injection hm with hm; injection hr with hr; subst hm; subst hr
      refine mk_rt (st1 := st) ?_ rfl
      show B_Book_pattern [some (bk cs n P s t), some (.str "stop")] st = _
      have f1 := f1 ([some (bk cs n P s t), some (.str "stop")]) rfl rfl
      have f3 := f3 ([some (bk cs n P s t), some (.str "stop")]) rfl rfl
      have d := din_no (cs := cs) (P := P) (st := st) (x := "stop") (sg_long (by decide +kernel))
      have q := eq_str (z := "stop") (st := st) (by decide +kernel)
      unfold B_Book_pattern
      simp [f1, f3, d, q, eq_stop]
    | j + 2, hm, _ => simp at hm
theorem meth_mk (B : BkOk cs n P s t) {fr : Fr} {i j k : Nat} {m : Str} {r : List Int} (hi : fr[i]? = some (some (bk cs n P s t))) (hj : fr[j]? = some (some (.str m))) (hm : (mks cs)[k]? = some m) (hr : (rws P s t)[k]? = some r) :
    eMeth "Book" "pattern" F_Book_pattern (eVar i) (aCons (eVar j) (aNil)) fr st = .ok (bits r) st := by
  unfold eMeth
  simp only [x_var, hi, Out.bind_ok]
  show (if "Book" = ("Book" : Str) ∧ ("pattern" : Str) ∉ bkNs then _ else _) = _
  rw [if_pos (by decide)]
  simp only [x_aCons, x_var, hj, x_aNil, Out.bind_ok, pattern_mk B hm hr]
theorem all_marks_ok (B : BkOk cs n P s t) : F_Book_all_marks [bk cs n P s t] st = .ok (.tup (mkW cs)) st := by
  refine mk_rt (st1 := st) ?_ rfl
  show B_Book_all_marks [some (bk cs n P s t)] st = _
  have f1 := bk_get (x := "signs") (u := .tup (sgW cs)) (f := eVar 0) (fr := [some (bk cs n P s t)]) (st := st) (st1 := st) (cs := cs) (n := n) (P := P) (s := s) (t := t) rfl rfl
  have a : oAdd (.tup (sgW cs)) (.tup [.str "start", .str "stop"]) st = .ok (.tup (sgW cs ++ [.str "start", .str "stop"])) st := by
    show (if (sgW cs).length + 2 ≤ LINE then _ else _) = _
    rw [if_pos (by rw [sgW_len]; have := B.c10; unfold LINE; omega)]
  unfold B_Book_all_marks
  rw [mkW_eq]
  simp only [x_ret, x_2, f1, x_N, x_aCons, x_c, x_aNil, Out.bind_ok, x_tup (ws := [W.str "start", W.str "stop"]) (by simp), a, Out.stm_ok]
theorem meth_all (B : BkOk cs n P s t) {fr : Fr} {i : Nat} (hi : fr[i]? = some (some (bk cs n P s t))) : eMeth "Book" "all_marks" F_Book_all_marks (eVar i) aNil fr st = .ok (.tup (mkW cs)) st := by
  unfold eMeth
  simp only [x_var, hi, Out.bind_ok]
  show (if "Book" = ("Book" : Str) ∧ ("all_marks" : Str) ∉ bkNs then _ else _) = _
  rw [if_pos (by decide)]
  simp only [x_aNil, Out.bind_ok, all_marks_ok B]
end

end SL
namespace SL
open PySem PySem.Spec PyProof.Rows L2
/-! ## the least of all pairs -/
abbrev Best := Option (Nat × Nat × Nat)
def stepB (D : Nat → Nat → Nat) (i : Nat) (o : Best) (j : Nat) : Best := match o with
  | none => some (D i j, i, j)
  | some p => if D i j < p.1 then some (D i j, i, j) else some p
def betB (d : Nat) : Best → Bool
  | none => true
  | some p => decide (d < p.1)
theorem step_bet {D : Nat → Nat → Nat} {i j : Nat} {o : Best} : stepB D i o j = if betB (D i j) o = true then some (D i j, i, j) else o := by
  cases o with
  | none => rfl
  | some p => unfold stepB betB; simp
def inB (D : Nat → Nat → Nat) (i : Nat) (o : Best) (m : Nat) : Best := (List.range m).foldl (fun o d => stepB D i o (i + 1 + d)) o
def outB (D : Nat → Nat → Nat) (N m : Nat) : Best := (List.range m).foldl (fun o i => inB D i o (N - (i + 1))) none
theorem inB_succ {D : Nat → Nat → Nat} {i m : Nat} {o : Best} : inB D i o (m + 1) = stepB D i (inB D i o m) (i + 1 + m) := by
  unfold inB; rw [List.range_succ, List.foldl_append]; rfl
theorem outB_succ {D : Nat → Nat → Nat} {N m : Nat} : outB D N (m + 1) = inB D m (outB D N m) (N - (m + 1)) := by
  unfold outB; rw [List.range_succ, List.foldl_append]; rfl
def mkAt (cs : List Nat) (i : Nat) : Str := (mks cs)[i]?.getD ""
def rAt (P : List (List Int)) (s t : List Int) (i : Nat) : List Int := (rws P s t)[i]?.getD []
def dij (P : List (List Int)) (s t : List Int) (i j : Nat) : Nat := dist (rAt P s t i) (rAt P s t j)
def bW (cs : List Nat) : Best → W
  | none => .non
  | some p => .tup [.int (p.1 : Nat), .str (mkAt cs p.2.1), .str (mkAt cs p.2.2)]
theorem mk_at {cs : List Nat} {i : Nat} (h : i < cs.length + 2) : (mks cs)[i]? = some (mkAt cs i) := by
  unfold mkAt
  rw [List.getElem?_eq_getElem (by rw [mks_len]; exact h)]; rfl
theorem mkW_at {cs : List Nat} {i : Nat} (h : i < cs.length + 2) : (mkW cs)[i]? = some (.str (mkAt cs i)) := by
  unfold mkW; rw [List.getElem?_map, mk_at h]; rfl
theorem r_at {cs : List Nat} {n : Nat} {P : List (List Int)} {s t : List Int} (B : BkOk cs n P s t) {i : Nat} (h : i < cs.length + 2) : (rws P s t)[i]? = some (rAt P s t i) := by
  unfold rAt
  rw [List.getElem?_eq_getElem (by rw [rws_len B]; exact h)]; rfl
theorem r_ok {cs : List Nat} {n : Nat} {P : List (List Int)} {s t : List Int} (B : BkOk cs n P s t) {i : Nat} (h : i < cs.length + 2) : (rAt P s t i).length = n ∧ Bits (rAt P s t i) := rws_ok B _ (List.mem_of_getElem? (r_at B h))
theorem if_best {cs : List Nat} {o : Best} {d a b : Nat} {T : SSem} {fr : Fr} {st : Sto} (ha : fr[a]? = some (some (bW cs o))) (hb : fr[b]? = some (some (.int (d : Nat)))) :
    sIf (bOr (bOf (e2 oIs (eVar a) (eC .non))) (bOf (e2 oLt (eVar b) (e2 oIx (eVar a) (eC (.int 0)))))) T sNil fr st = if betB d o = true then T fr st else .nx fr st := by
  cases o with
  | none => simp [ha, bW, isNon, betB]
  | some p =>
    have i0 : oIx (bW cs (some p)) (.int 0) st = .ok (.int (p.1 : Nat)) st := x_ixT (by decide) rfl
    have nn : isNon (bW cs (some p)) = false := rfl
    have z : decide (((d : Nat) : Int) < ((p.1 : Nat) : Int)) = betB d (some p) := by
      unfold betB
      exact decide_eq_decide.mpr Int.ofNat_lt
    simp only [x_if, x_bOr, x_bOf, x_2, x_var, ha, hb, x_c, Out.bind_ok, x_isN, nn, i0, x_lt, z, Out.stm_ok, x_nil]
    simp
theorem apart_at {cs : List Nat} {n : Nat} {P : List (List Int)} {s t : List Int} {st : Sto} (B : BkOk cs n P s t) {i j : Nat} (hi : i < cs.length + 2) (hj : j < cs.length + 2) : F_apart [bits (rAt P s t i), bits (rAt P s t j)] st = .ok (.int (dij P s t i j : Nat)) st :=
  apart_ok (r_ok B hi).2 (r_ok B hj).2 (by rw [(r_ok B hi).1, (r_ok B hj).1]) (by have := (r_ok B hi).1; have := B.n6; omega)
theorem count_at {cs : List Nat} {n : Nat} {P : List (List Int)} {s t : List Int} {st : Sto} (B : BkOk cs n P s t) {i j : Nat} (hi : i < cs.length + 2) (hj : j < cs.length + 2) : F_law_count [bits (rAt P s t i), bits (rAt P s t j)] st = .ok (.int (dij P s t i j : Nat)) st :=
  count_ok (by rw [(r_ok B hi).1, (r_ok B hj).1]) (by have := (r_ok B hi).1; have := B.n6; omega)
theorem least_in {cs : List Nat} {n : Nat} {P : List (List Int)} {s t : List Int} {st : Sto} (B : BkOk cs n P s t) {i : Nat} (hi : i < cs.length + 2) (o : Best) (u5 u6 : Option W) : ∃ u5' u6', (sFor (iSeq (eSl (eVar 1) (pYes (e2 oAdd (eVar 3) (eC (.int 1)))) (pNo))) (gNm 5) (sSeq (sAsg (eCall F_apart (aCons (eMeth "Book" "pattern" F_Book_pattern (eVar 0) (aCons (eVar 4) (aNil))) (aCons (eMeth "Book" "pattern" F_Book_pattern (eVar 0) (aCons (eVar 5) (aNil))) (aNil)))) (gNm 6)) (sIf (bOr (bOf (e2 oIs (eVar 2) (eC .non))) (bOf (e2 oLt (eVar 6) (e2 oIx (eVar 2) (eC (.int 0)))))) (sAsg (eN oTup (aCons (eVar 6) (aCons (eVar 4) (aCons (eVar 5) (aNil))))) (gNm 2)) (sNil))))
    [some (bk cs n P s t), some (.tup (mkW cs)), some (bW cs o), some (.int (i : Nat)), some (.str (mkAt cs i)), u5, u6] st = .nx [some (bk cs n P s t), some (.tup (mkW cs)), some (bW cs (inB (dij P s t) i o (cs.length + 2 - (i + 1)))), some (.int (i : Nat)), some (.str (mkAt cs i)), u5', u6'] st := by
  have hdl : ((mkW cs).drop (i + 1)).length = cs.length + 2 - (i + 1) := by rw [List.length_drop, mkW_len]
  obtain ⟨fr', st', e1, v5, v6, efr, est⟩ := x_for (f := (iSeq (eSl (eVar 1) (pYes (e2 oAdd (eVar 3) (eC (.int 1)))) (pNo)))) (g := (gNm 5)) (b := (sSeq (sAsg (eCall F_apart (aCons (eMeth "Book" "pattern" F_Book_pattern (eVar 0) (aCons (eVar 4) (aNil))) (aCons (eMeth "Book" "pattern" F_Book_pattern (eVar 0) (aCons (eVar 5) (aNil))) (aNil)))) (gNm 6)) (sIf (bOr (bOf (e2 oIs (eVar 2) (eC .non))) (bOf (e2 oLt (eVar 6) (e2 oIx (eVar 2) (eC (.int 0)))))) (sAsg (eN oTup (aCons (eVar 6) (aCons (eVar 4) (aCons (eVar 5) (aNil))))) (gNm 2)) (sNil))))
    (fr := [some (bk cs n P s t), some (.tup (mkW cs)), some (bW cs o), some (.int (i : Nat)), some (.str (mkAt cs i)), u5, u6]) (st := st) (st1 := st) (x := .tup ((mkW cs).drop (i + 1))) (all := (mkW cs).drop (i + 1))
    (by
      have h1 : ((i : Nat) : Int) + 1 = ((i + 1 : Nat) : Int) := by omega
      have c1 := cut_from (T := mkW cs) (a := i + 1) (by rw [mkW_len]; omega)
      have c2 : oSl (.tup (mkW cs)) (some ((i + 1 : Nat) : Int)) none st = .ok (.tup ((mkW cs).drop (i + 1))) st := by rw [← c1]; rfl
      simp only [x_iSeq, x_sl, x_var, fg1, fg3, x_pYes, x_2, x_c, x_add, Out.bind_ok, x_pNo, h1, c2, x_it_tup])
    (fun d fr S => ∃ v5 v6, fr = [some (bk cs n P s t), some (.tup (mkW cs)), some (bW cs (inB (dij P s t) i o d)), some (.int (i : Nat)), some (.str (mkAt cs i)), v5, v6] ∧ S = st) ⟨u5, u6, rfl, rfl⟩ (fun _ _ _ _ => trivial) (by
      rintro d fr S w ⟨v5, v6, rfl, rfl⟩ hw
      rw [List.getElem?_drop] at hw
      have hj : i + 1 + d < cs.length + 2 := by
        have := (List.getElem?_eq_some_iff.mp hw).1
        rw [mkW_len] at this; exact this
      rw [mkW_at hj] at hw
      injection hw with hw
      subst hw
      have ap := apart_at (st := S) B hi hj
      have q1 : eMeth "Book" "pattern" F_Book_pattern (eVar 0) (aCons (eVar 4) (aNil)) [some (bk cs n P s t), some (.tup (mkW cs)), some (bW cs (inB (dij P s t) i o d)), some (.int (i : Nat)), some (.str (mkAt cs i)), some (.str (mkAt cs (i + 1 + d))), v6] S = .ok (bits (rAt P s t i)) S := meth_mk B (k := i) rfl rfl (mk_at hi) (r_at B hi)
      have q2 : eMeth "Book" "pattern" F_Book_pattern (eVar 0) (aCons (eVar 5) (aNil)) [some (bk cs n P s t), some (.tup (mkW cs)), some (bW cs (inB (dij P s t) i o d)), some (.int (i : Nat)), some (.str (mkAt cs i)), some (.str (mkAt cs (i + 1 + d))), v6] S = .ok (bits (rAt P s t (i + 1 + d))) S := meth_mk B (k := i + 1 + d) rfl rfl (mk_at hj) (r_at B hj)
      refine ⟨[some (bk cs n P s t), some (.tup (mkW cs)), some (bW cs (inB (dij P s t) i o d)), some (.int (i : Nat)), some (.str (mkAt cs i)), some (.str (mkAt cs (i + 1 + d))), v6], [some (bk cs n P s t), some (.tup (mkW cs)), some (bW cs (inB (dij P s t) i o (d + 1))), some (.int (i : Nat)), some (.str (mkAt cs i)), some (.str (mkAt cs (i + 1 + d))), some (.int (dij P s t i (i + 1 + d) : Nat))], S, rfl, .inl ?_, _, _, rfl, rfl⟩
      refine asg_to (w := .int (dij P s t i (i + 1 + d) : Nat)) (st1 := S) (by simp only [x_call, x_aCons, q1, q2, x_aNil, Out.bind_ok, ap]) ?_
      simp only [fs6]
      rw [if_best (cs := cs) (o := inB (dij P s t) i o d) (d := dij P s t i (i + 1 + d)) rfl rfl, inB_succ, step_bet]
      by_cases hb : betB (dij P s t i (i + 1 + d)) (inB (dij P s t) i o d) = true
      · rw [if_pos hb, if_pos hb]
        simp only [x_asgN, x_N, x_aCons, x_var, fg4, fg5, fg6, x_aNil, Out.bind_ok, Out.stm_ok, x_tup (ws := [W.int (dij P s t i (i + 1 + d) : Nat), W.str (mkAt cs i), W.str (mkAt cs (i + 1 + d))]) (by simp), fs2]
        rfl
      · rw [if_neg hb, if_neg hb])
  rw [efr, est, hdl] at e1
  exact ⟨v5, v6, e1⟩
theorem least_ok {cs : List Nat} {n : Nat} {P : List (List Int)} {s t : List Int} {st : Sto} (B : BkOk cs n P s t) : F_least_apart [bk cs n P s t] st = .ok (bW cs (outB (dij P s t) (cs.length + 2) (cs.length + 2))) st := by
  have hnl : (numbered (mkW cs)).length = cs.length + 2 := by unfold numbered; rw [List.length_mapIdx, mkW_len]
  obtain ⟨fr', st', e1, v3, v4, v5, v6, efr, est⟩ := x_for (f := (iEn (aCons (eVar 1) (aNil)))) (g := (gTl 2 (gsCons (gNm 3) (gsCons (gNm 4) (gsNil))))) (b := (sFor (iSeq (eSl (eVar 1) (pYes (e2 oAdd (eVar 3) (eC (.int 1)))) (pNo))) (gNm 5) (sSeq (sAsg (eCall F_apart (aCons (eMeth "Book" "pattern" F_Book_pattern (eVar 0) (aCons (eVar 4) (aNil))) (aCons (eMeth "Book" "pattern" F_Book_pattern (eVar 0) (aCons (eVar 5) (aNil))) (aNil)))) (gNm 6)) (sIf (bOr (bOf (e2 oIs (eVar 2) (eC .non))) (bOf (e2 oLt (eVar 6) (e2 oIx (eVar 2) (eC (.int 0)))))) (sAsg (eN oTup (aCons (eVar 6) (aCons (eVar 4) (aCons (eVar 5) (aNil))))) (gNm 2)) (sNil)))))
    (fr := [some (bk cs n P s t), some (.tup (mkW cs)), some .non, none, none, none, none]) (st := st) (st1 := st) (x := enSrc (.tup (mkW cs))) (all := numbered (mkW cs)) rfl
    (fun d fr S => ∃ v3 v4 v5 v6, fr = [some (bk cs n P s t), some (.tup (mkW cs)), some (bW cs (outB (dij P s t) (cs.length + 2) d)), v3, v4, v5, v6] ∧ S = st) ⟨none, none, none, none, rfl, rfl⟩ (fun _ _ _ _ => trivial) (by
      rintro d fr S w ⟨v3, v4, v5, v6, rfl, rfl⟩ hw
      have hd : d < cs.length + 2 := by
        have := (List.getElem?_eq_some_iff.mp hw).1
        rw [hnl] at this; exact this
      obtain ⟨u, hu, rfl⟩ := numb_at hw
      rw [mkW_at hd] at hu
      injection hu with hu
      subst hu
      obtain ⟨v5', v6', e⟩ := least_in (st := S) B hd (outB (dij P s t) (cs.length + 2) d) v5 v6
      refine ⟨[some (bk cs n P s t), some (.tup (mkW cs)), some (bW cs (outB (dij P s t) (cs.length + 2) d)), some (.int (d : Nat)), some (.str (mkAt cs d)), v5, v6], _, S, rfl, .inl e, some (.int (d : Nat)), some (.str (mkAt cs d)), v5', v6', ?_, rfl⟩
      rw [outB_succ])
  rw [efr, est, hnl] at e1
  refine mk_rt (st1 := st) ?_ rfl
  show B_least_apart [some (bk cs n P s t), none, none, none, none, none, none] st = _
  unfold B_least_apart
  refine asg_to (w := .tup (mkW cs)) (st1 := st) (meth_all B rfl) ?_
  simp only [fs1]
  refine asg_to (w := .non) (st1 := st) rfl ?_
  simp only [fs2]
  refine seq_to e1 ?_
  rfl

end SL
namespace SL
open PySem PySem.Spec PyProof.Rows L2
theorem min_is : ∀ l : List Int, l ≠ [] → ∃ m, IsMin l m
  | [], h => absurd rfl h
  | [a], _ => ⟨a, by simp [IsMin]⟩
  | a :: b :: l, _ => by
    obtain ⟨m, h1, h2⟩ := min_is (b :: l) (by simp)
    by_cases q : a ≤ m
    · exact ⟨a, List.mem_cons_self, fun y hy => by
        rcases List.mem_cons.mp hy with rfl | hy
        · exact Int.le_refl _
        · exact Int.le_trans q (h2 y hy)⟩
    · exact ⟨m, List.mem_cons_of_mem _ h1, fun y hy => by
        rcases List.mem_cons.mp hy with rfl | hy
        · omega
        · exact h2 y hy⟩
/-! ## the nearest marks -/
def cnts (P : List (List Int)) (s t : List Int) (N : Nat) (r : List Int) : List Int := (List.range N).map fun k => ((dist (rAt P s t k) r : Nat) : Int)
def nearW (cs : List Nat) (P : List (List Int)) (s t r : List Int) (m : Int) : List W := ((List.range (cs.length + 2)).filter fun k => decide (((dist (rAt P s t k) r : Nat) : Int) = m)).map fun k => W.str (mkAt cs k)
theorem mkW_range (cs : List Nat) : mkW cs = (List.range (cs.length + 2)).map fun k => W.str (mkAt cs k) := by
  refine List.ext_getElem? fun i => ?_
  rw [List.getElem?_map]
  by_cases h : i < cs.length + 2
  · rw [mkW_at h, List.getElem?_range h]; rfl
  · rw [List.getElem?_eq_none (by rw [mkW_len]; omega), List.getElem?_eq_none (by simp; omega)]; rfl
theorem zip_near (cs : List Nat) (P : List (List Int)) (s t r : List Int) : zipP (mkW cs) ((cnts P s t (cs.length + 2) r).map W.int) = (List.range (cs.length + 2)).map fun k => W.tup [.str (mkAt cs k), .int (dist (rAt P s t k) r : Nat)] := by
  rw [mkW_range]
  unfold zipP cnts
  rw [List.map_map]
  induction List.range (cs.length + 2) with
  | nil => rfl
  | cons a l ih => rw [List.map_cons, List.map_cons, List.map_cons, List.zipWith_cons_cons, ih]; rfl
section
variable {cs : List Nat} {n : Nat} {P : List (List Int)} {s t r : List Int} {st : Sto}
theorem cnts_ne : cnts P s t (cs.length + 2) r ≠ [] := by
  intro z
  have := congrArg List.length z
  unfold cnts at this
  simp at this
theorem best_near {m : Int} (h : IsMin (cnts P s t (cs.length + 2) r) m) : oBestX IsMin [.lst ((cnts P s t (cs.length + 2) r).map W.int)] st = .ok (.int m) st := by
  have w1 : ((seqW st (.lst ((cnts P s t (cs.length + 2) r).map W.int))).bind intsW) = some (cnts P s t (cs.length + 2) r) := by
    rw [x_seq_lst]; exact ints_map _
  unfold oBestX; simp only [w1, theOne_is h fun _ g => min_one h g]
theorem near_str : ∀ (n : Nat) (f : Nat → Option W) (l : List Nat), fz0s n f (l.map fun k => W.str (mkAt cs k)) = some (l.map fun k => W.str (mkAt cs k))
  | n, f, [] => rfl
  | n, f, a :: l => by rw [List.map_cons, fz0s, near_str n f l]; rfl
theorem old_near {m : Int} {n : Nat} : oldW n (.lst (nearW cs P s t r m)) = true := by
  show (fz0s n (fun _ => none) (nearW cs P s t r m)).isSome = true
  unfold nearW
  rw [near_str]; rfl
theorem nearest_ok (B : BkOk cs n P s t) (hr : r.length = n ∧ Bits r) {m : Int} (h : IsMin (cnts P s t (cs.length + 2) r) m) (ho : st.all (oldW st.length) = true) : F_nearest [bk cs n P s t, bits r] st = .ok (.cell st.length) (st ++ [.lst (nearW cs P s t r m)]) := by
  have hn6 := B.n6
  have hc10 := B.c10
  have hB : B_nearest [some (bk cs n P s t), some (bits r), none, none, none] st = .rt (.cell st.length) (st ++ [.lst (nearW cs P s t r m)]) := by
    have f1 := bk_get (x := "width") (u := .int n) (f := eVar 0) (fr := [some (bk cs n P s t), some (bits r), none, none, none]) (st := st) (st1 := st) (cs := cs) (n := n) (P := P) (s := s) (t := t) rfl rfl
    have e1 : eLc (iSeq (eMeth "Book" "all_marks" F_Book_all_marks (eVar 0) aNil)) (gNm 3) [3] (tTrue) (eCall F_apart (aCons (eMeth "Book" "pattern" F_Book_pattern (eVar 0) (aCons (eVar 3) (aNil))) (aCons (eVar 1) (aNil)))) [some (bk cs n P s t), some (bits r), none, none, none] st = .ok (.lst ((cnts P s t (cs.length + 2) r).map W.int)) st := by
      refine x_lc (st1 := st) (x := .tup (mkW cs)) (all := mkW cs) (by rw [x_iSeq, meth_all B rfl, Out.bind_ok, x_it_tup]) ?_
      have q : (cnts P s t (cs.length + 2) r).map W.int = (List.range (cs.length + 2)).map fun k => W.int (dist (rAt P s t k) r : Nat) := by unfold cnts; rw [List.map_map]; rfl
      rw [q]
      have q2 : ∀ ws, ws = mkW cs → lcRun (.tup (mkW cs)) ws (gNm 3) tTrue (eCall F_apart (aCons (eMeth "Book" "pattern" F_Book_pattern (eVar 0) (aCons (eVar 3) (aNil))) (aCons (eVar 1) (aNil)))) [some (bk cs n P s t), some (bits r), none, none, none] ((List.range (cs.length + 2)).map fun k => W.str (mkAt cs k)) st = .ok ((List.range (cs.length + 2)).map fun k => W.int (dist (rAt P s t k) r : Nat)) st := fun ws hws => by
        refine lc_mp (by trivial) _ fun k hk => ?_
        have hk : k < cs.length + 2 := List.mem_range.mp hk
        have a1 : F_apart [bits (rAt P s t k), bits r] st = .ok (.int (dist (rAt P s t k) r : Nat)) st := apart_ok (r_ok B hk).2 hr.2 (by rw [(r_ok B hk).1, hr.1]) (by have := (r_ok B hk).1; omega)
        refine ⟨[some (bk cs n P s t), some (bits r), none, some (.str (mkAt cs k)), none], rfl, rfl, ?_⟩
        have m1 := meth_mk (st := st) B (fr := [some (bk cs n P s t), some (bits r), none, some (.str (mkAt cs k)), none]) (i := 0) (j := 3) rfl rfl (mk_at hk) (r_at B hk)
        simp only [x_call, x_aCons, m1, x_var, fg1, x_aNil, Out.bind_ok, a1]
      have q3 := q2 _ rfl
      rw [← mkW_range] at q3
      exact q3
    have e2 : eLcC (iZipM (aCons (eMeth "Book" "all_marks" F_Book_all_marks (eVar 0) aNil) (aCons (eVar 2) (aNil)))) (gTl 2 (gsCons (gNm 3) (gsCons (gNm 4) (gsNil)))) [3, 4] (bOf (e2 oEq (eVar 4) (eN (oBestX IsMin) (aCons (eVar 2) (aNil))))) (eVar 3) [some (bk cs n P s t), some (bits r), some (.lst ((cnts P s t (cs.length + 2) r).map W.int)), none, none] st = .ok (.cell st.length) (st ++ [.lst (nearW cs P s t r m)]) := by
      refine x_lcC (st1 := st) (x := .non) (all := (List.range (cs.length + 2)).map fun k => W.tup [.str (mkAt cs k), .int (dist (rAt P s t k) r : Nat)]) ?_ ?_
      · rw [← zip_near]
        unfold iZipM
        simp only [x_aCons, meth_all B (st := st) (fr := [some (bk cs n P s t), some (bits r), some (.lst ((cnts P s t (cs.length + 2) r).map W.int)), none, none]) (i := 0) rfl, x_var, fg2, x_aNil, Out.bind_ok, tupF]
        rw [if_pos (by rw [mkW_len]; unfold LINE; omega)]
      · unfold nearW
        refine lc_fm (by trivial) _ fun k hk => ?_
        refine ⟨[some (bk cs n P s t), some (bits r), some (.lst ((cnts P s t (cs.length + 2) r).map W.int)), some (.str (mkAt cs k)), some (.int (dist (rAt P s t k) r : Nat))], rfl, ?_, fun _ => rfl⟩
        simp only [x_bOf, x_2, x_var, fg2, fg4, x_N, x_aCons, x_aNil, Out.bind_ok, best_near h, x_eqI]
    unfold B_nearest
    refine if_no (st1 := st) (st2 := st) ?_ rfl ?_
    · simp only [x_bNot, x_bOf, x_call, x_aCons, x_var, fg1, f1, x_aNil, Out.bind_ok, is_row_of_ok hr]; rfl
    refine asg_to e1 ?_
    simp only [fs2]
    rw [x_ret, e2, Out.stm_ok]
  unfold F_nearest mkFnC mkFnG
  show (match B_nearest [some (bk cs n P s t), some (bits r), none, none, none] st with
    | .nx _ st1 => leave st.length .non st1 | .rt w st1 => leaveC st.length w st1 | .er x _ st1 => leaveX st.length x st1 | _ => .bad) = _
  rw [hB]
  show leaveC st.length (.cell st.length) (st ++ [.lst (nearW cs P s t r m)]) = _
  have lv : (Cel.lst (nearW cs P s t r m)).live = true := rfl
  unfold leaveC
  simp only [if_pos (Nat.le_refl st.length), get_new, old_near, lv, List.take_left, ho, and_self, if_true]
end

end SL
namespace SL
open PySem PySem.Spec PyProof.Rows L2
/-! ## rows drawn; what is nearest to a pattern -/
theorem row_drawn {c : Cel} {rest : Sto} {n : Int} (h : Pool c) (h0 : 0 ≤ n) (h1 : n ≤ 1000) : ∃ ns c', Bits ns ∧ ns.length = n.toNat ∧ Pool c' ∧ F_law_row [.cell 0, .int n] (c :: rest) = .ok (bits ns) (c' :: rest) := by
  obtain ⟨ys, st', e1, ⟨c', rfl, hp⟩, e2⟩ := lc_inv (x := .non) (all := rngW 0 1 n.toNat) (g := gNm 2) (t := tTrue) (e := eCall F_law_draw (aCons (eVar 0) (aCons (eC (.int 2)) (aNil)))) (fr := [some (.cell 0), some (.int n), none]) (fun st => ∃ c, st = c :: rest ∧ Pool c) (fun (_ : W) y => ∃ b : Int, y = .int b ∧ (b = 0 ∨ b = 1)) (fun _ _ => trivial) (rngW 0 1 n.toNat) (c :: rest) ⟨c, rfl, h⟩ (by
      rintro w _ st ⟨c, rfl, hc⟩
      obtain ⟨r, c1, p1, r0, r1, e⟩ := draw_ok (m := 2) hc (by decide) (log_small (by decide) (by decide))
      exact ⟨_, .int r, (c1 :: rest), rfl, rfl, by simp [e], ⟨c1, rfl, p1⟩, r, rfl, by omega⟩)
  obtain ⟨ns, b1, b2, rfl⟩ := both_bits e2
  refine ⟨ns, c', b1, by simpa using b2, hp, mk_rt (st1 := (c' :: rest)) ?_ rfl⟩
  show B_law_row [some (.cell 0), some (.int n), none] (c :: rest) = _
  unfold B_law_row
  have z := x_lc (own := [2]) (fr := [some (.cell 0), some (.int n), none]) (st := (c :: rest)) (st1 := (c :: rest)) (x_rng1 (l := aCons (eVar 1) aNil) (j := n) (by simp) (by omega) (by omega)) e1
  simp [z]
  rfl
theorem dist_zero {x y : List Int} (h : x.length = y.length) : dist x y = 0 ↔ x = y := by
  constructor
  · intro z
    refine List.ext_getElem? fun k => ?_
    by_cases hk : k < x.length
    · have z := List.eq_nil_of_length_eq_zero z
      unfold diff at z
      rw [List.filter_eq_nil_iff] at z
      have := z (.int k) (by
        rw [rng_map1]
        exact List.mem_map.mpr ⟨k, List.mem_range.mpr hk, rfl⟩)
      simpa using this
    · rw [List.getElem?_eq_none (by omega), List.getElem?_eq_none (by omega)]
  · rintro rfl
    unfold dist diff
    rw [List.filter_eq_nil_iff.mpr]
    · rfl
    · intro w _
      cases w <;> simp
theorem range_only : ∀ (N k : Nat), k < N → (List.range N).filter (fun j => decide (j = k)) = [k]
  | 0, k, h => by omega
  | N + 1, k, h => by
    rw [List.range_succ, List.filter_append]
    by_cases q : k = N
    · subst q
      rw [List.filter_eq_nil_iff.mpr fun j hj => by
        have := List.mem_range.mp hj
        simp; omega]
      simp
    · rw [range_only N k (by omega)]
      rw [show [N].filter (fun j => decide (j = k)) = [] by simp; omega]
      simp
section
variable {cs : List Nat} {n : Nat} {P : List (List Int)} {s t r : List Int} {st : Sto}
theorem rAt_inj (B : BkOk cs n P s t) {i j : Nat} (hi : i < cs.length + 2) (hj : j < cs.length + 2) (h : rAt P s t i = rAt P s t j) : i = j := by
  have h1 := r_at B hi
  have h2 := r_at B hj
  rw [h] at h1
  have nd : (rws P s t).Nodup := B.nd
  exact (List.getElem?_inj (by rw [rws_len B]; exact hi) nd).mp (by rw [h1, h2])
theorem near_pat (B : BkOk cs n P s t) {k : Nat} (hk : k < cs.length + 2) : IsMin (cnts P s t (cs.length + 2) (rAt P s t k)) 0 ∧ nearW cs P s t (rAt P s t k) 0 = [.str (mkAt cs k)] := by
  have z0 : dist (rAt P s t k) (rAt P s t k) = 0 := (dist_zero rfl).mpr rfl
  refine ⟨⟨?_, ?_⟩, ?_⟩
  · unfold cnts
    exact List.mem_map.mpr ⟨k, List.mem_range.mpr hk, by rw [z0]; rfl⟩
  · intro y hy
    unfold cnts at hy
    obtain ⟨j, _, rfl⟩ := List.mem_map.mp hy
    omega
  · unfold nearW
    have e : (List.range (cs.length + 2)).filter (fun j => decide (((dist (rAt P s t j) (rAt P s t k) : Nat) : Int) = 0)) = (List.range (cs.length + 2)).filter (fun j => decide (j = k)) := by
      refine List.filter_congr fun j hj => ?_
      have hj := List.mem_range.mp hj
      refine decide_eq_decide.mpr ⟨fun z => ?_, fun z => ?_⟩
      · have z1 : dist (rAt P s t j) (rAt P s t k) = 0 := by omega
        exact rAt_inj B hj hk ((dist_zero (by rw [(r_ok B hj).1, (r_ok B hk).1])).mp z1)
      · rw [z, z0]; rfl
    rw [e, range_only _ _ hk]; rfl
theorem mk_ok (B : BkOk cs n P s t) {k : Nat} (hk : k < cs.length + 2) : PyData.strOk (mkAt cs k) = true := by
  have h := List.mem_of_getElem? (mk_at hk)
  unfold mks at h
  simp only [List.mem_append, List.mem_map, List.mem_cons, List.not_mem_nil, or_false] at h
  rcases h with ⟨c, hc, e⟩ | e | e
  · rw [← e]; exact strOk_sg (okC_lt (B.ok c hc))
  · rw [e]; decide +kernel
  · rw [e]; decide +kernel
theorem near_scal (B : BkOk cs n P s t) {m : Int} : ∀ w ∈ nearW cs P s t r m, scal w = true := fun w hw => by
  unfold nearW at hw
  obtain ⟨k, hk, rfl⟩ := List.mem_map.mp hw
  exact mk_ok B (List.mem_range.mp (List.mem_filter.mp hk).1)
theorem near_len {m : Int} : (nearW cs P s t r m).length ≤ cs.length + 2 := by
  unfold nearW
  rw [List.length_map]
  exact Nat.le_trans (List.length_filter_le _ _) (by simp)
theorem same_near (B : BkOk cs n P s t) {m : Int} {k : Nat} (hk : st[k]? = some (.lst (nearW cs P s t r m))) : F_law_same 6 [.cell k, .lst (nearW cs P s t r m)] st = .ok (.bl true) st := by
  have hc10 := B.c10
  have hl := near_len (cs := cs) (P := P) (s := s) (t := t) (r := r) (m := m)
  exact same_of 6 _ _ st (.inr ⟨"list", nearW cs P s t r m, nearW cs P s t r m, .inl rfl, by unfold tyW; simp only [hk], rfl, by unfold seqW lstW; simp only [hk], rfl, by omega, Both.refl _ fun a ha => .inl ⟨rfl, near_scal B a ha⟩⟩)
theorem ne_pat (B : BkOk cs n P s t) {k j : Nat} (hj : j < cs.length + 2) (hk : st[k]? = some (.lst [.str (mkAt cs j)])) : oNe (.cell k) (.lst [.str (mkAt cs j)]) st = .ok (.bl false) st := by
  have e : eqW st (.cell k) (.lst [.str (mkAt cs j)]) = some true := by
    have p1 : pdT st (.cell k) = some (.list [.str (mkAt cs j)]) := by unfold pdT; simp only [hk]; rfl
    have p2 : pdT st (.lst [.str (mkAt cs j)]) = some (.list [.str (mkAt cs j)]) := rfl
    have s1 : SeqAt.shaped (.list [.str (mkAt cs j)]) = true := by
      unfold SeqAt.shaped
      have e1 : PyData.canLay0 (.list [.str (mkAt cs j)]) = true := by
        simp only [PyData.canLay0, PyData.canLayAll0, mk_ok B hj]; rfl
      have e2 : PyData.depth (.list [.str (mkAt cs j)]) = 1 := by
        simp only [PyData.depth, PyData.depthAll]; rfl
      rw [e1, e2]; rfl
    have q : PyData.eqv (.list [.str (mkAt cs j)]) (.list [.str (mkAt cs j)]) = true := by
      show ((mkAt cs j == mkAt cs j) && true) = true
      simp
    unfold eqW; rw [p1, p2]; simp [s1, q]
  unfold oNe; rw [e]; rfl
theorem refused_row {x y : W} {S : Sto} (h : F_nearest [x, y] S = .err (rowEr "row") S) : F_law_refused [x, y] S = .ok (.str "row") S := by
  refine mk_rt (st1 := S) ?_ rfl
  show B_law_refused [some x, some y, none, none] S = _
  unfold B_law_refused
  have t : exT "BadRow" "BadRow" = some true := by decide +kernel
  simp [sTry, h, rowEr, hRun, t, slOk, clrF, SOut.clr, eXf, lkp]
theorem nearest_no (B : BkOk cs n P s t) {y : W} (h : okRow y = true) (h2 : rowW y = false) : F_nearest [bk cs n P s t, y] st = .err (rowEr "row") st := by
  have fs := bk_get (f := eVar 0) (fr := [some (bk cs n P s t), some y, none, none, none]) (x := "width") (u := .int n) (st := st) (st1 := st) (cs := cs) (n := n) (P := P) (s := s) (t := t) rfl rfl
  have q : F_is_row_of [y, .int n] st = .ok (.bl false) st := by
    refine mk_rt (st1 := st) ?_ rfl
    show B_is_row_of [some y, some (.int n)] st = _
    unfold B_is_row_of
    simp [is_row_ok h, h2]
  have hB : B_nearest [some (bk cs n P s t), some y, none, none, none] st = .er (rowEr "row") [some (bk cs n P s t), some y, none, none, none] st := by
    unfold B_nearest
    simp [fs, q, sRaise]
    rfl
  unfold F_nearest mkFnC mkFnG
  show (match B_nearest [some (bk cs n P s t), some y, none, none, none] st with
    | .nx _ st1 => leave st.length .non st1 | .rt w st1 => leaveC st.length w st1 | .er x _ st1 => leaveX st.length x st1 | _ => .bad) = _
  rw [hB]
  exact leaveX_same rfl
theorem nearest_noL (B : BkOk cs n P s t) {y : List Int} (h2 : Bits y) (h : y.length ≠ n) : F_nearest [bk cs n P s t, bits y] st = .err (rowEr "row") st := by
  have fs := bk_get (f := eVar 0) (fr := [some (bk cs n P s t), some (bits y), none, none, none]) (x := "width") (u := .int n) (st := st) (st1 := st) (cs := cs) (n := n) (P := P) (s := s) (t := t) rfl rfl
  have q : F_is_row_of [bits y, .int n] st = .ok (.bl false) st := by
    refine mk_rt (st1 := st) ?_ rfl
    show B_is_row_of [some (bits y), some (.int n)] st = _
    have q3 : oLen [bits y] st = .ok (.int y.length) st := by unfold bits; rw [x_len_tup, List.length_map]
    have q4 : ¬ ((y.length : Nat) : Int) = n := by omega
    unfold B_is_row_of
    simp [is_row_ok (bits_ok y), bits_row h2, q3, q4]
  have hB : B_nearest [some (bk cs n P s t), some (bits y), none, none, none] st = .er (rowEr "row") [some (bk cs n P s t), some (bits y), none, none, none] st := by
    unfold B_nearest
    simp [fs, q, sRaise]
    rfl
  unfold F_nearest mkFnC mkFnG
  show (match B_nearest [some (bk cs n P s t), some (bits y), none, none, none] st with
    | .nx _ st1 => leave st.length .non st1 | .rt w st1 => leaveC st.length w st1 | .er x _ st1 => leaveX st.length x st1 | _ => .bad) = _
  rw [hB]
  exact leaveX_same rfl
end

end SL
namespace SL
open PySem PySem.Spec PyProof.Rows L2
/-! ## what the law does -/
section
variable {ns : List Int} {cs : List Nat} {n : Nat} {P : List (List Int)} {s t : List Int}
theorem bitsL_at (B : BkOk cs n P s t) {i : Nat} {st : Sto} (h : i < cs.length + 2) : oIx (.lst (bitsL (rws P s t))) (.int (i : Nat)) st = .ok (bits (rAt P s t i)) st := by
  refine x_ixL (by omega) ?_
  unfold bitsL
  rw [Int.toNat_natCast, List.getElem?_map, r_at B h]; rfl
theorem mkL_at {i : Nat} {st : Sto} (h : i < cs.length + 2) : oIx (.lst (mkW cs)) (.int (i : Nat)) st = .ok (.str (mkAt cs i)) st := by
  refine x_ixL (by omega) ?_
  rw [Int.toNat_natCast, mkW_at h]
theorem due_in {st : Sto} (B : BkOk cs n P s t) {i : Nat} (hi : i < cs.length + 2) (o : Best) (u13 u17 : Option W) : ∃ v13 v17, (sFor (iRng rg2 (aCons (e2 oAdd (eVar 8) (eC (.int 1))) (aCons (eN oLen (aCons (eVar 6) (aNil))) (aNil)))) (gNm 13) (sSeq (sAsg (eCall F_law_count (aCons (e2 oIx (eVar 6) (eVar 8)) (aCons (e2 oIx (eVar 6) (eVar 13)) (aNil)))) (gNm 17)) (sIf (bOr (bOf (e2 oIs (eVar 7) (eC .non))) (bOf (e2 oLt (eVar 17) (e2 oIx (eVar 7) (eC (.int 0)))))) (sAsg (eN oTup (aCons (eVar 17) (aCons (e2 oIx (eVar 5) (eVar 8)) (aCons (e2 oIx (eVar 5) (eVar 13)) (aNil))))) (gNm 7)) (sNil))))
    [some (.ro (ns.map W.int)), some (.cell 0), some (mdl 2 s t), some (bk cs n P s t), some (.int n), some (.lst (mkW cs)), some (.lst (bitsL (rws P s t))), some (bW cs o), some (.int (i : Nat)), none, none, none, none, u13, none, none, none, u17, none, none, none] st = .nx [some (.ro (ns.map W.int)), some (.cell 0), some (mdl 2 s t), some (bk cs n P s t), some (.int n), some (.lst (mkW cs)), some (.lst (bitsL (rws P s t))), some (bW cs (inB (dij P s t) i o (cs.length + 2 - (i + 1)))), some (.int (i : Nat)), none, none, none, none, v13, none, none, none, v17, none, none, none] st := by
  have hc10 := B.c10
  have hl : ∀ S : Sto, oLen [.lst (bitsL (rws P s t))] S = .ok (.int ((cs.length + 2 : Nat) : Int)) S := fun S => by rw [x_len_lst, bitsL_len, rws_len B]
  have hrl : (rngW (((i : Nat) : Int) + 1) 1 ((((cs.length + 2 : Nat) : Int) - (((i : Nat) : Int) + 1)).toNat)).length = cs.length + 2 - (i + 1) := by
    unfold rngW; simp; omega
  obtain ⟨fr', st', e1, v13, v17, efr, est⟩ := x_for (f := (iRng rg2 (aCons (e2 oAdd (eVar 8) (eC (.int 1))) (aCons (eN oLen (aCons (eVar 6) (aNil))) (aNil))))) (g := (gNm 13)) (b := (sSeq (sAsg (eCall F_law_count (aCons (e2 oIx (eVar 6) (eVar 8)) (aCons (e2 oIx (eVar 6) (eVar 13)) (aNil)))) (gNm 17)) (sIf (bOr (bOf (e2 oIs (eVar 7) (eC .non))) (bOf (e2 oLt (eVar 17) (e2 oIx (eVar 7) (eC (.int 0)))))) (sAsg (eN oTup (aCons (eVar 17) (aCons (e2 oIx (eVar 5) (eVar 8)) (aCons (e2 oIx (eVar 5) (eVar 13)) (aNil))))) (gNm 7)) (sNil))))
    (fr := [some (.ro (ns.map W.int)), some (.cell 0), some (mdl 2 s t), some (bk cs n P s t), some (.int n), some (.lst (mkW cs)), some (.lst (bitsL (rws P s t))), some (bW cs o), some (.int (i : Nat)), none, none, none, none, u13, none, none, none, u17, none, none, none]) (st := st) (st1 := st) (x := .non) (all := rngW (((i : Nat) : Int) + 1) 1 ((((cs.length + 2 : Nat) : Int) - (((i : Nat) : Int) + 1)).toNat))
    (x_rng2 (i := ((i : Nat) : Int) + 1) (j := ((cs.length + 2 : Nat) : Int)) (by simp only [x_aCons, x_2, x_var, fg8, x_c, x_add, Out.bind_ok, x_N, fg6, x_aNil, hl]) (by omega) (by omega) (by omega) (by omega) (by omega))
    (fun d fr S => ∃ v13 v17, fr = [some (.ro (ns.map W.int)), some (.cell 0), some (mdl 2 s t), some (bk cs n P s t), some (.int n), some (.lst (mkW cs)), some (.lst (bitsL (rws P s t))), some (bW cs (inB (dij P s t) i o d)), some (.int (i : Nat)), none, none, none, none, v13, none, none, none, v17, none, none, none] ∧ S = st) ⟨u13, u17, rfl, rfl⟩ (fun _ _ _ _ => trivial) (by
      rintro d fr S w ⟨v13, v17, rfl, rfl⟩ hw
      obtain ⟨hd, rfl⟩ := rngW_at hw
      have hj : i + 1 + d < cs.length + 2 := by omega
      have ej : (((i : Nat) : Int) + 1 + (d : Int) * 1) = ((i + 1 + d : Nat) : Int) := by omega
      rw [ej]
      have ct := count_at (st := S) B hi hj
      refine ⟨[some (.ro (ns.map W.int)), some (.cell 0), some (mdl 2 s t), some (bk cs n P s t), some (.int n), some (.lst (mkW cs)), some (.lst (bitsL (rws P s t))), some (bW cs (inB (dij P s t) i o d)), some (.int (i : Nat)), none, none, none, none, some (.int ((i + 1 + d : Nat) : Int)), none, none, none, v17, none, none, none], [some (.ro (ns.map W.int)), some (.cell 0), some (mdl 2 s t), some (bk cs n P s t), some (.int n), some (.lst (mkW cs)), some (.lst (bitsL (rws P s t))), some (bW cs (inB (dij P s t) i o (d + 1))), some (.int (i : Nat)), none, none, none, none, some (.int ((i + 1 + d : Nat) : Int)), none, none, none, some (.int (dij P s t i (i + 1 + d) : Nat)), none, none, none], S, rfl, .inl ?_, _, _, rfl, rfl⟩
      refine asg_to (w := .int (dij P s t i (i + 1 + d) : Nat)) (st1 := S) (by simp only [x_call, x_aCons, x_2, x_var, fg6, fg8, fg13, bitsL_at B hi, bitsL_at B hj, x_aNil, Out.bind_ok, ct]) ?_
      simp only [fs17]
      rw [if_best (cs := cs) (o := inB (dij P s t) i o d) (d := dij P s t i (i + 1 + d)) rfl rfl, inB_succ, step_bet]
      by_cases hb : betB (dij P s t i (i + 1 + d)) (inB (dij P s t) i o d) = true
      · rw [if_pos hb, if_pos hb]
        simp only [x_asgN, x_N, x_aCons, x_2, x_var, fg5, fg8, fg13, fg17, mkL_at hi, mkL_at hj, x_aNil, Out.bind_ok, Out.stm_ok, x_tup (ws := [W.int (dij P s t i (i + 1 + d) : Nat), W.str (mkAt cs i), W.str (mkAt cs (i + 1 + d))]) (by simp), fs7]
        rfl
      · rw [if_neg hb, if_neg hb])
  rw [efr, est, hrl] at e1
  exact ⟨v13, v17, e1⟩
theorem due_all {st : Sto} (B : BkOk cs n P s t) : ∃ v8 v13 v17, sFor (iRng rg1 (aCons (eN oLen (aCons (eVar 6) (aNil))) (aNil))) (gNm 8) (sFor (iRng rg2 (aCons (e2 oAdd (eVar 8) (eC (.int 1))) (aCons (eN oLen (aCons (eVar 6) (aNil))) (aNil)))) (gNm 13) (sSeq (sAsg (eCall F_law_count (aCons (e2 oIx (eVar 6) (eVar 8)) (aCons (e2 oIx (eVar 6) (eVar 13)) (aNil)))) (gNm 17)) (sIf (bOr (bOf (e2 oIs (eVar 7) (eC .non))) (bOf (e2 oLt (eVar 17) (e2 oIx (eVar 7) (eC (.int 0)))))) (sAsg (eN oTup (aCons (eVar 17) (aCons (e2 oIx (eVar 5) (eVar 8)) (aCons (e2 oIx (eVar 5) (eVar 13)) (aNil))))) (gNm 7)) (sNil)))) [some (.ro (ns.map W.int)), some (.cell 0), some (mdl 2 s t), some (bk cs n P s t), some (.int n), some (.lst (mkW cs)), some (.lst (bitsL (rws P s t))), some .non, none, none, none, none, none, none, none, none, none, none, none, none, none] st = .nx [some (.ro (ns.map W.int)), some (.cell 0), some (mdl 2 s t), some (bk cs n P s t), some (.int n), some (.lst (mkW cs)), some (.lst (bitsL (rws P s t))), some (bW cs (outB (dij P s t) (cs.length + 2) (cs.length + 2))), v8, none, none, none, none, v13, none, none, none, v17, none, none, none] st := by
  have hc10 := B.c10
  have hl : ∀ S : Sto, oLen [.lst (bitsL (rws P s t))] S = .ok (.int ((cs.length + 2 : Nat) : Int)) S := fun S => by rw [x_len_lst, bitsL_len, rws_len B]
  have hrl : (rngW 0 1 (((cs.length + 2 : Nat) : Int).toNat)).length = cs.length + 2 := by unfold rngW; simp; omega
  obtain ⟨fr', st', e1, v8, v13, v17, efr, est⟩ := x_for (f := (iRng rg1 (aCons (eN oLen (aCons (eVar 6) (aNil))) (aNil)))) (g := (gNm 8)) (b := (sFor (iRng rg2 (aCons (e2 oAdd (eVar 8) (eC (.int 1))) (aCons (eN oLen (aCons (eVar 6) (aNil))) (aNil)))) (gNm 13) (sSeq (sAsg (eCall F_law_count (aCons (e2 oIx (eVar 6) (eVar 8)) (aCons (e2 oIx (eVar 6) (eVar 13)) (aNil)))) (gNm 17)) (sIf (bOr (bOf (e2 oIs (eVar 7) (eC .non))) (bOf (e2 oLt (eVar 17) (e2 oIx (eVar 7) (eC (.int 0)))))) (sAsg (eN oTup (aCons (eVar 17) (aCons (e2 oIx (eVar 5) (eVar 8)) (aCons (e2 oIx (eVar 5) (eVar 13)) (aNil))))) (gNm 7)) (sNil)))))
    (fr := [some (.ro (ns.map W.int)), some (.cell 0), some (mdl 2 s t), some (bk cs n P s t), some (.int n), some (.lst (mkW cs)), some (.lst (bitsL (rws P s t))), some .non, none, none, none, none, none, none, none, none, none, none, none, none, none]) (st := st) (st1 := st) (x := .non) (all := rngW 0 1 (((cs.length + 2 : Nat) : Int).toNat))
    (x_rng1 (j := ((cs.length + 2 : Nat) : Int)) (by simp only [x_aCons, x_N, x_var, fg6, x_aNil, Out.bind_ok, hl]) (by omega) (by omega))
    (fun d fr S => ∃ v8 v13 v17, fr = [some (.ro (ns.map W.int)), some (.cell 0), some (mdl 2 s t), some (bk cs n P s t), some (.int n), some (.lst (mkW cs)), some (.lst (bitsL (rws P s t))), some (bW cs (outB (dij P s t) (cs.length + 2) d)), v8, none, none, none, none, v13, none, none, none, v17, none, none, none] ∧ S = st) ⟨none, none, none, rfl, rfl⟩ (fun _ _ _ _ => trivial) (by
      rintro d fr S w ⟨v8, v13, v17, rfl, rfl⟩ hw
      obtain ⟨hd, rfl⟩ := rngW_at hw
      have hd : d < cs.length + 2 := by omega
      obtain ⟨v13', v17', e⟩ := due_in (ns := ns) (st := S) B hd (outB (dij P s t) (cs.length + 2) d) v13 v17
      have ez : ((0 : Int) + (d : Int) * 1) = ((d : Nat) : Int) := by omega
      rw [ez]
      refine ⟨[some (.ro (ns.map W.int)), some (.cell 0), some (mdl 2 s t), some (bk cs n P s t), some (.int n), some (.lst (mkW cs)), some (.lst (bitsL (rws P s t))), some (bW cs (outB (dij P s t) (cs.length + 2) d)), some (.int (d : Nat)), none, none, none, none, v13, none, none, none, v17, none, none, none], _, S, rfl, .inl e, some (.int (d : Nat)), v13', v17', ?_, rfl⟩
      rw [outB_succ])
  rw [efr, est, hrl] at e1
  exact ⟨v8, v13, v17, e1⟩
theorem fz_strs (n : Nat) (f : Nat → Option W) : ∀ ws : List W, (∀ w ∈ ws, ∃ x, w = .str x) → fz0s n f ws = some ws
  | [], _ => rfl
  | a :: l, h => by
    obtain ⟨x, rfl⟩ := h a List.mem_cons_self
    rw [fz0s, fz_strs n f l fun w hw => h w (List.mem_cons_of_mem _ hw)]; rfl
/-- a row asked -/
theorem ask_one {S : Sto} {d : W} {r : List Int} {A : W} {u8 u11 u13 u14 u15 u16 u17 : Option W} (B : BkOk cs n P s t) (hr : r.length = n ∧ Bits r) (ho : ∀ m, S.all (oldW m) = true) :
    ∃ u14' u15' u16' E, (∀ m, List.all E (oldW m) = true) ∧ (sSeq (sAsg (eLc (iSeq (eVar 6)) (gNm 13) [13] (tTrue) (eCall F_law_count (aCons (eVar 10) (aCons (eVar 13) (aNil))))) (gNm 14)) (sSeq (sAsg (eLc (iRng rg1 (aCons (eN oLen (aCons (eVar 5) (aNil))) (aNil))) (gNm 11) [11] (bOf (e2 oEq (e2 oIx (eVar 14) (eVar 11)) (eN (oBestX IsMin) (aCons (eVar 14) (aNil))))) (e2 oIx (eVar 5) (eVar 11))) (gNm 15)) (sSeq (sAsg (eCall F_nearest (aCons (eVar 3) (aCons (eVar 10) (aNil)))) (gNm 16)) (sSeq (sIf (bNot (bOf (eCall (F_law_same 6) (aCons (eVar 16) (aCons (eVar 15) (aNil)))))) (sRet (eC (.bl false))) (sNil)) (sSeq (sExp (eM isLst mAppend (eVar 16) (aCons (eC (.str "")) (aNil)))) (sIf (bNot (bOf (eCall (F_law_same 6) (aCons (eCall F_nearest (aCons (eVar 3) (aCons (eVar 10) (aNil)))) (aCons (eVar 15) (aNil)))))) (sRet (eC (.bl false))) (sNil))))))) [some (.ro (ns.map W.int)), some (.cell 0), some (mdl 2 s t), some (bk cs n P s t), some (.int n), some (.lst (mkW cs)), some (.lst (bitsL (rws P s t))), some d, u8, some A, some (bits r), u11, none, u13, u14, u15, u16, u17, none, none, none] S = .nx [some (.ro (ns.map W.int)), some (.cell 0), some (mdl 2 s t), some (bk cs n P s t), some (.int n), some (.lst (mkW cs)), some (.lst (bitsL (rws P s t))), some d, u8, some A, some (bits r), u11, none, u13, u14', u15', u16', u17, none, none, none] (S ++ E) := by
  have hc10 := B.c10
  have hn6 := B.n6
  obtain ⟨m, hm⟩ := min_is _ (cnts_ne (cs := cs) (P := P) (s := s) (t := t) (r := r))
  have e1 : ∀ (fr : Fr), fr.length = 21 → fr[6]? = some (some (.lst (bitsL (rws P s t)))) → (∀ w, ((wipeF fr [13]).set 13 w)[10]? = some (some (bits r))) → (∀ w, ((wipeF fr [13]).set 13 w)[13]? = some w) → eLc (iSeq (eVar 6)) (gNm 13) [13] (tTrue) (eCall F_law_count (aCons (eVar 10) (aCons (eVar 13) (aNil)))) fr S = .ok (.lst ((cnts P s t (cs.length + 2) r).map W.int)) S := fun fr hl h6 h10 h13 => by
    refine x_lc (st1 := S) (x := .lst (bitsL (rws P s t))) (all := bitsL (rws P s t)) (by rw [x_iSeq, x_var, h6, Out.bind_ok, x_it_lst]) ?_
    have q : (cnts P s t (cs.length + 2) r).map W.int = (List.range (cs.length + 2)).map fun k => W.int (dist (rAt P s t k) r : Nat) := by unfold cnts; rw [List.map_map]; rfl
    have q1 : bitsL (rws P s t) = (List.range (cs.length + 2)).map fun k => bits (rAt P s t k) := by
      refine List.ext_getElem? fun i => ?_
      unfold bitsL
      rw [List.getElem?_map, List.getElem?_map]
      by_cases h : i < cs.length + 2
      · rw [r_at B h, List.getElem?_range h]; rfl
      · rw [List.getElem?_eq_none (by rw [rws_len B]; omega), List.getElem?_eq_none (by simp; omega)]; rfl
    have q2 : ∀ ws, ws = bitsL (rws P s t) → lcRun (.lst (bitsL (rws P s t))) ws (gNm 13) tTrue (eCall F_law_count (aCons (eVar 10) (aCons (eVar 13) (aNil)))) (wipeF fr [13]) ((List.range (cs.length + 2)).map fun k => bits (rAt P s t k)) S = .ok ((List.range (cs.length + 2)).map fun k => W.int (dist (rAt P s t k) r : Nat)) S := fun ws hws => by
      refine lc_mp (by trivial) _ fun k hk => ?_
      have hk : k < cs.length + 2 := List.mem_range.mp hk
      have a1 : F_law_count [bits r, bits (rAt P s t k)] S = .ok (.int (dist (rAt P s t k) r : Nat)) S := by
        rw [count_ok (by rw [(r_ok B hk).1, hr.1]) (by have := hr.1; omega), dist_comm (by rw [(r_ok B hk).1, hr.1])]
      refine ⟨(wipeF fr [13]).set 13 (some (bits (rAt P s t k))), rfl, rfl, ?_⟩
      simp only [x_call, x_aCons, x_var, h10, h13, x_aNil, Out.bind_ok, a1]
    rw [q]
    have q3 := q2 _ rfl
    rw [← q1] at q3
    exact q3
  have h14 := e1 [some (.ro (ns.map W.int)), some (.cell 0), some (mdl 2 s t), some (bk cs n P s t), some (.int n), some (.lst (mkW cs)), some (.lst (bitsL (rws P s t))), some d, u8, some A, some (bits r), u11, none, u13, u14, u15, u16, u17, none, none, none] rfl rfl (fun _ => rfl) (fun _ => rfl)
  have e3 : eLc (iRng rg1 (aCons (eN oLen (aCons (eVar 5) (aNil))) (aNil))) (gNm 11) [11] (bOf (e2 oEq (e2 oIx (eVar 14) (eVar 11)) (eN (oBestX IsMin) (aCons (eVar 14) (aNil))))) (e2 oIx (eVar 5) (eVar 11)) [some (.ro (ns.map W.int)), some (.cell 0), some (mdl 2 s t), some (bk cs n P s t), some (.int n), some (.lst (mkW cs)), some (.lst (bitsL (rws P s t))), some d, u8, some A, some (bits r), u11, none, u13, some (.lst ((cnts P s t (cs.length + 2) r).map W.int)), u15, u16, u17, none, none, none] S = .ok (.lst (nearW cs P s t r m)) S := by
    have hl : oLen [.lst (mkW cs)] S = .ok (.int ((cs.length + 2 : Nat) : Int)) S := by rw [x_len_lst, mkW_len]
    refine x_lc (st1 := S) (x := .non) (all := rngW 0 1 (((cs.length + 2 : Nat) : Int).toNat)) (x_rng1 (j := ((cs.length + 2 : Nat) : Int)) (by simp only [x_aCons, x_N, x_var, fg5, x_aNil, Out.bind_ok, hl]) (by omega) (by omega)) ?_
    rw [Int.toNat_natCast, rng_map1]
    unfold nearW
    refine lc_fm (by trivial) _ fun k hk => ?_
    have hk : k < cs.length + 2 := List.mem_range.mp hk
    have ik : oIx (.lst ((cnts P s t (cs.length + 2) r).map W.int)) (.int (k : Nat)) S = .ok (.int (dist (rAt P s t k) r : Nat)) S := by
      refine x_ixL (by omega) ?_
      unfold cnts
      rw [Int.toNat_natCast, List.getElem?_map, List.getElem?_map, List.getElem?_range hk]; rfl
    refine ⟨[some (.ro (ns.map W.int)), some (.cell 0), some (mdl 2 s t), some (bk cs n P s t), some (.int n), some (.lst (mkW cs)), some (.lst (bitsL (rws P s t))), some d, u8, some A, some (bits r), some (.int (k : Nat)), none, u13, some (.lst ((cnts P s t (cs.length + 2) r).map W.int)), u15, u16, u17, none, none, none], rfl, ?_, fun _ => ?_⟩
    · simp only [x_bOf, x_2, x_var, fg14, fg11, x_N, x_aCons, x_aNil, Out.bind_ok, ik, best_near hm, x_eqI]
    · simp only [x_2, x_var, fg5, fg11, Out.bind_ok, mkL_at hk]
  have n1 := nearest_ok (st := S) B hr hm (ho _)
  have st1 : ∀ w ∈ nearW cs P s t r m, ∃ x, w = .str x := fun w hw => by
    unfold nearW at hw
    obtain ⟨k, _, rfl⟩ := List.mem_map.mp hw
    exact ⟨_, rfl⟩
  have o2 : ∀ q, oldW q (.lst (nearW cs P s t r m ++ [.str ""])) = true := fun q => by
    show (fz0s q (fun _ => none) (nearW cs P s t r m ++ [.str ""])).isSome = true
    rw [fz_strs q _ _ fun w hw => by
      rcases List.mem_append.mp hw with h | h
      · exact st1 w h
      · simp at h; exact ⟨_, h⟩]
    rfl
  have hnl := near_len (cs := cs) (P := P) (s := s) (t := t) (r := r) (m := m)
  have n2 := nearest_ok (st := S ++ [.lst (nearW cs P s t r m ++ [.str ""])]) B hr hm (by rw [List.all_append, ho]; simp [o2])
  have s1 := same_near (st := S ++ [.lst (nearW cs P s t r m)]) B (k := S.length) get_new
  have s2 := same_near (st := S ++ [.lst (nearW cs P s t r m ++ [.str ""])] ++ [.lst (nearW cs P s t r m)]) B (k := (S ++ [Cel.lst (nearW cs P s t r m ++ [.str ""])]).length) get_new
  refine ⟨some (.lst ((cnts P s t (cs.length + 2) r).map W.int)), some (.lst (nearW cs P s t r m)), some (.cell S.length), [.lst (nearW cs P s t r m ++ [.str ""]), .lst (nearW cs P s t r m)], fun q => by simp [o2, old_near], ?_⟩
  refine asg_to h14 ?_
  simp only [fs14]
  refine asg_to e3 ?_
  simp only [fs15]
  refine asg_to (w := .cell S.length) (st1 := S ++ [.lst (nearW cs P s t r m)]) (by simp only [x_call, x_aCons, x_var, fg3, fg10, x_aNil, Out.bind_ok, n1]) ?_
  simp only [fs16]
  refine no_ret (nb ?_) ?_
  · simp only [x_call, x_aCons, x_var, fg15, fg16, x_aNil, Out.bind_ok, s1]
  refine exp_to (w := .non) (st1 := S ++ [.lst (nearW cs P s t r m ++ [.str ""])]) ?_ ?_
  · have q1 : isLst (S ++ [Cel.lst (nearW cs P s t r m)]) (.cell S.length) = true := by unfold isLst lstW; simp only [get_new]; rfl
    have q2 : mAppend (.cell S.length) [.str ""] (S ++ [Cel.lst (nearW cs P s t r m)]) = .ok .non (S ++ [Cel.lst (nearW cs P s t r m ++ [.str ""])]) := by
      have hlt : (nearW cs P s t r m).length < LINE := by unfold LINE; omega
      unfold mAppend
      simp only [get_new, if_pos hlt, set_new]
    simp only [x_eM, x_var, fg16, Out.bind_ok, q1, if_true, x_aCons, x_c, x_aNil, q2]
  have e9 : ∀ fr, fr[3]? = some (some (bk cs n P s t)) → fr[10]? = some (some (bits r)) → fr[15]? = some (some (.lst (nearW cs P s t r m))) → (eCall (F_law_same 6) (aCons (eCall F_nearest (aCons (eVar 3) (aCons (eVar 10) (aNil)))) (aCons (eVar 15) (aNil)))) fr (S ++ [.lst (nearW cs P s t r m ++ [.str ""])]) = .ok (.bl true) (S ++ [.lst (nearW cs P s t r m ++ [.str ""])] ++ [.lst (nearW cs P s t r m)]) := fun fr h3 h10 h15 => by
    simp only [x_call, x_aCons, x_var, h3, h10, h15, x_aNil, Out.bind_ok, n2, s2]
  simp only [x_if, x_bNot, x_bOf]
  rw [e9 _ rfl rfl rfl]
  simp only [Out.bind_ok, Bool.not_true, Out.stm_ok, x_nil]
  rw [List.append_assoc]; rfl
theorem asked_all {S0 : Sto} {d : W} {A : List (List Int)} {u8 u13 u17 : Option W} (B : BkOk cs n P s t) (hA : ∀ r ∈ A, r.length = n ∧ Bits r) (ho : ∀ m, S0.all (oldW m) = true) :
    ∃ v10 v14 v15 v16 E, (∀ m, List.all E (oldW m) = true) ∧ sFor (iSeq (eVar 9)) (gNm 10) (sSeq (sAsg (eLc (iSeq (eVar 6)) (gNm 13) [13] (tTrue) (eCall F_law_count (aCons (eVar 10) (aCons (eVar 13) (aNil))))) (gNm 14)) (sSeq (sAsg (eLc (iRng rg1 (aCons (eN oLen (aCons (eVar 5) (aNil))) (aNil))) (gNm 11) [11] (bOf (e2 oEq (e2 oIx (eVar 14) (eVar 11)) (eN (oBestX IsMin) (aCons (eVar 14) (aNil))))) (e2 oIx (eVar 5) (eVar 11))) (gNm 15)) (sSeq (sAsg (eCall F_nearest (aCons (eVar 3) (aCons (eVar 10) (aNil)))) (gNm 16)) (sSeq (sIf (bNot (bOf (eCall (F_law_same 6) (aCons (eVar 16) (aCons (eVar 15) (aNil)))))) (sRet (eC (.bl false))) (sNil)) (sSeq (sExp (eM isLst mAppend (eVar 16) (aCons (eC (.str "")) (aNil)))) (sIf (bNot (bOf (eCall (F_law_same 6) (aCons (eCall F_nearest (aCons (eVar 3) (aCons (eVar 10) (aNil)))) (aCons (eVar 15) (aNil)))))) (sRet (eC (.bl false))) (sNil))))))) [some (.ro (ns.map W.int)), some (.cell 0), some (mdl 2 s t), some (bk cs n P s t), some (.int n), some (.lst (mkW cs)), some (.lst (bitsL (rws P s t))), some d, u8, some (.lst (bitsL A)), none, none, none, u13, none, none, none, u17, none, none, none] S0 = .nx [some (.ro (ns.map W.int)), some (.cell 0), some (mdl 2 s t), some (bk cs n P s t), some (.int n), some (.lst (mkW cs)), some (.lst (bitsL (rws P s t))), some d, u8, some (.lst (bitsL A)), v10, none, none, u13, v14, v15, v16, u17, none, none, none] (S0 ++ E) := by
  obtain ⟨fr', st', e1, v10, v14, v15, v16, E, hE, efr, est⟩ := x_for (f := (iSeq (eVar 9))) (g := (gNm 10)) (b := (sSeq (sAsg (eLc (iSeq (eVar 6)) (gNm 13) [13] (tTrue) (eCall F_law_count (aCons (eVar 10) (aCons (eVar 13) (aNil))))) (gNm 14)) (sSeq (sAsg (eLc (iRng rg1 (aCons (eN oLen (aCons (eVar 5) (aNil))) (aNil))) (gNm 11) [11] (bOf (e2 oEq (e2 oIx (eVar 14) (eVar 11)) (eN (oBestX IsMin) (aCons (eVar 14) (aNil))))) (e2 oIx (eVar 5) (eVar 11))) (gNm 15)) (sSeq (sAsg (eCall F_nearest (aCons (eVar 3) (aCons (eVar 10) (aNil)))) (gNm 16)) (sSeq (sIf (bNot (bOf (eCall (F_law_same 6) (aCons (eVar 16) (aCons (eVar 15) (aNil)))))) (sRet (eC (.bl false))) (sNil)) (sSeq (sExp (eM isLst mAppend (eVar 16) (aCons (eC (.str "")) (aNil)))) (sIf (bNot (bOf (eCall (F_law_same 6) (aCons (eCall F_nearest (aCons (eVar 3) (aCons (eVar 10) (aNil)))) (aCons (eVar 15) (aNil)))))) (sRet (eC (.bl false))) (sNil))))))))
    (fr := [some (.ro (ns.map W.int)), some (.cell 0), some (mdl 2 s t), some (bk cs n P s t), some (.int n), some (.lst (mkW cs)), some (.lst (bitsL (rws P s t))), some d, u8, some (.lst (bitsL A)), none, none, none, u13, none, none, none, u17, none, none, none]) (st := S0) (st1 := S0) (x := .lst (bitsL A)) (all := bitsL A) rfl
    (fun _ fr S => ∃ v10 v14 v15 v16 E, (∀ m, List.all E (oldW m) = true) ∧ fr = [some (.ro (ns.map W.int)), some (.cell 0), some (mdl 2 s t), some (bk cs n P s t), some (.int n), some (.lst (mkW cs)), some (.lst (bitsL (rws P s t))), some d, u8, some (.lst (bitsL A)), v10, none, none, u13, v14, v15, v16, u17, none, none, none] ∧ S = S0 ++ E) ⟨none, none, none, none, [], fun _ => rfl, rfl, by rw [List.append_nil]⟩ (fun _ _ _ _ => trivial) (by
      rintro k fr S w ⟨v10, v14, v15, v16, E, hE, rfl, rfl⟩ hw
      unfold bitsL at hw
      rw [List.getElem?_map] at hw
      obtain ⟨r, hr, rfl⟩ := Option.map_eq_some_iff.mp hw
      obtain ⟨w14, w15, w16, E2, hE2, e⟩ := ask_one (ns := ns) (S := S0 ++ E) (d := d) (A := .lst (bitsL A)) (u8 := u8) (u11 := none) (u13 := u13) (u14 := v14) (u15 := v15) (u16 := v16) (u17 := u17) B (hA r (List.mem_of_getElem? hr)) (fun m => by rw [List.all_append, ho, hE]; rfl)
      exact ⟨_, _, _, rfl, .inl e, some (bits r), w14, w15, w16, E ++ E2, fun m => by rw [List.all_append, hE, hE2]; rfl, rfl, by rw [List.append_assoc]⟩)
  rw [efr, est] at e1
  exact ⟨v10, v14, v15, v16, E, hE, e1⟩
theorem pats_all {S0 : Sto} {d : W} {u8 u9 u10 u13 u14 u15 u16 u17 : Option W} (B : BkOk cs n P s t) (ho : ∀ m, S0.all (oldW m) = true) :
    ∃ v11 E, (∀ m, List.all E (oldW m) = true) ∧ sFor (iRng rg1 (aCons (eN oLen (aCons (eVar 5) (aNil))) (aNil))) (gNm 11) (sIf (bOf (e2 oNe (eCall F_nearest (aCons (eVar 3) (aCons (e2 oIx (eVar 6) (eVar 11)) (aNil)))) (eN oLst (aCons (e2 oIx (eVar 5) (eVar 11)) (aNil))))) (sRet (eC (.bl false))) (sNil)) [some (.ro (ns.map W.int)), some (.cell 0), some (mdl 2 s t), some (bk cs n P s t), some (.int n), some (.lst (mkW cs)), some (.lst (bitsL (rws P s t))), some d, u8, u9, u10, none, none, u13, u14, u15, u16, u17, none, none, none] S0 = .nx [some (.ro (ns.map W.int)), some (.cell 0), some (mdl 2 s t), some (bk cs n P s t), some (.int n), some (.lst (mkW cs)), some (.lst (bitsL (rws P s t))), some d, u8, u9, u10, v11, none, u13, u14, u15, u16, u17, none, none, none] (S0 ++ E) := by
  have hc10 := B.c10
  have hl : oLen [.lst (mkW cs)] S0 = .ok (.int ((cs.length + 2 : Nat) : Int)) S0 := by rw [x_len_lst, mkW_len]
  obtain ⟨fr', st', e1, v11, E, hE, efr, est⟩ := x_for (f := (iRng rg1 (aCons (eN oLen (aCons (eVar 5) (aNil))) (aNil)))) (g := (gNm 11)) (b := (sIf (bOf (e2 oNe (eCall F_nearest (aCons (eVar 3) (aCons (e2 oIx (eVar 6) (eVar 11)) (aNil)))) (eN oLst (aCons (e2 oIx (eVar 5) (eVar 11)) (aNil))))) (sRet (eC (.bl false))) (sNil)))
    (fr := [some (.ro (ns.map W.int)), some (.cell 0), some (mdl 2 s t), some (bk cs n P s t), some (.int n), some (.lst (mkW cs)), some (.lst (bitsL (rws P s t))), some d, u8, u9, u10, none, none, u13, u14, u15, u16, u17, none, none, none]) (st := S0) (st1 := S0) (x := .non) (all := rngW 0 1 (((cs.length + 2 : Nat) : Int).toNat)) (x_rng1 (j := ((cs.length + 2 : Nat) : Int)) (by simp only [x_aCons, x_N, x_var, fg5, x_aNil, Out.bind_ok, hl]) (by omega) (by omega))
    (fun _ fr S => ∃ v11 E, (∀ m, List.all E (oldW m) = true) ∧ fr = [some (.ro (ns.map W.int)), some (.cell 0), some (mdl 2 s t), some (bk cs n P s t), some (.int n), some (.lst (mkW cs)), some (.lst (bitsL (rws P s t))), some d, u8, u9, u10, v11, none, u13, u14, u15, u16, u17, none, none, none] ∧ S = S0 ++ E) ⟨none, [], fun _ => rfl, rfl, by rw [List.append_nil]⟩ (fun _ _ _ _ => trivial) (by
      rintro k fr S w ⟨v11, E, hE, rfl, rfl⟩ hw
      obtain ⟨hk, rfl⟩ := rngW_at hw
      have hk : k < cs.length + 2 := by omega
      rw [show (0 : Int) + (k : Int) * 1 = ((k : Nat) : Int) by omega]
      obtain ⟨h0, hnr⟩ := near_pat B hk
      have n1 := nearest_ok (st := S0 ++ E) B (r_ok B hk) h0 (by rw [List.all_append, ho, hE]; rfl)
      rw [hnr] at n1
      have n2 := ne_pat (st := S0 ++ E ++ [.lst [.str (mkAt cs k)]]) B hk (k := (S0 ++ E).length) get_new
      refine ⟨[some (.ro (ns.map W.int)), some (.cell 0), some (mdl 2 s t), some (bk cs n P s t), some (.int n), some (.lst (mkW cs)), some (.lst (bitsL (rws P s t))), some d, u8, u9, u10, some (.int (k : Nat)), none, u13, u14, u15, u16, u17, none, none, none], _, S0 ++ E ++ [.lst [.str (mkAt cs k)]], rfl, .inl ?_, some (.int (k : Nat)), E ++ [.lst [.str (mkAt cs k)]], fun m => by rw [List.all_append, hE]; rfl, rfl, by rw [List.append_assoc]⟩
      simp only [x_if, x_bOf, x_2, x_call, x_aCons, x_var, fg3, fg5, fg6, fg11, bitsL_at B hk, mkL_at hk, x_N, x_aNil, Out.bind_ok, n1, x_lst (ws := [W.str (mkAt cs k)]) (by simp), n2, Out.stm_ok]
      rfl)
  rw [efr, est] at e1
  exact ⟨v11, E, hE, e1⟩
end

end SL
namespace SL
open PySem PySem.Spec PyProof.Rows L2
theorem tup_app {a b : List W} {st : Sto} (h : a.length + b.length ≤ 1000) : oAdd (.tup a) (.tup b) st = .ok (.tup (a ++ b)) st := by
  show (if a.length + b.length ≤ LINE then Out.ok (W.tup (a ++ b)) st else .bad) = _
  rw [if_pos (by unfold LINE; omega)]
theorem lst_app {a b : List W} {st : Sto} (h : a.length + b.length ≤ 1000) : oAdd (.lst a) (.lst b) st = .ok (.lst (a ++ b)) st := by
  show (if a.length + b.length ≤ LINE then Out.ok (W.lst (a ++ b)) st else .bad) = _
  rw [if_pos (by unfold LINE; omega)]
theorem both_rows {n : Nat} : ∀ {ws ys : List W}, Both (fun (_ : W) y => ∃ r, y = bits r ∧ r.length = n ∧ Bits r) ws ys → ∃ A, (∀ r ∈ A, r.length = n ∧ Bits r) ∧ ys = bitsL A
  | _, _, .nil => ⟨[], fun _ h => (nomatch h), rfl⟩
  | _, _, .cons ⟨b, e, h1, h2⟩ r => by
    obtain ⟨A, h3, h4⟩ := both_rows r
    refine ⟨b :: A, fun r hr => ?_, by rw [e, h4]; rfl⟩
    rcases List.mem_cons.mp hr with rfl | hr
    · exact ⟨h1, h2⟩
    · exact h3 r hr
theorem bits_mix {x : List Int} {w : W} (h : plainW w = true) (hb : betw 0 1 w = false) : okRow (.tup (x.map W.int ++ [w])) = true ∧ rowW (.tup (x.map W.int ++ [w])) = false := by
  constructor
  · show (plainW (.tup (x.map W.int ++ [w])) && (x.map W.int ++ [w]).all plainW) = true
    rw [List.all_append, List.all_eq_true.mpr (fun y hy => by
      obtain ⟨i, _, rfl⟩ := List.mem_map.mp hy
      rfl)]
    show (true && (true && (plainW w && true))) = true
    rw [h]; rfl
  · show (x.map W.int ++ [w]).all (betw 0 1) = false
    rw [List.all_append]
    simp [hb]
section
variable {ns : List Int} {cs : List Nat} {n : Nat} {P : List (List Int)} {s t : List Int}
theorem rows_read {S : Sto} {fr : Fr} (B : BkOk cs n P s t) (hk : S[2]? = some (.dct (sgW cs) (bitsL P))) (h2 : fr[2]? = some (some (mdl 2 s t))) (h5 : fr[5]? = some (some (.lst (mkW cs)))) (hw : ∀ w, ((wipeF fr [19]).set 19 w)[2]? = some (some (mdl 2 s t))) (hw9 : ∀ w, ((wipeF fr [19]).set 19 w)[19]? = some w) : eLc (iSeq (eSl (eVar 5) (pNo) (pYes (e2 oSub (eN oLen (aCons (eVar 5) (aNil))) (eC (.int 2)))))) (gNm 19) [19] (tTrue) (e2 oDGet (e2 oIx (eVar 2) (eC (.int 0))) (eVar 19)) fr S = .ok (.lst (bitsL P)) S := by
  have hc10 := B.c10
  have q1 : sgW cs = (cs.zip P).map fun p => W.str (sg p.1) := by
    unfold sgW
    rw [show (fun (p : Nat × List Int) => W.str (sg p.1)) = (fun c => W.str (sg c)) ∘ Prod.fst from rfl, ← List.map_map, List.map_fst_zip (by rw [B.len]; exact Nat.le_refl _)]
  have q2 : bitsL P = (cs.zip P).map fun p => bits p.2 := by
    unfold bitsL
    rw [show (fun (p : Nat × List Int) => bits p.2) = bits ∘ Prod.snd from rfl, ← List.map_map, List.map_snd_zip (by rw [B.len]; exact Nat.le_refl _)]
  have sl : oSl (.lst (mkW cs)) none (some ((cs.length : Nat) : Int)) S = .ok (.lst (sgW cs)) S := by
    have c1 := cut_to (T := mkW cs) (a := cs.length) (by rw [mkW_len]; omega)
    have c2 : (mkW cs).take cs.length = sgW cs := by rw [mkW_eq, List.take_left' (sgW_len (cs := cs))]
    rw [← c2, ← c1]; rfl
  have hl : oLen [.lst (mkW cs)] S = .ok (.int ((cs.length + 2 : Nat) : Int)) S := by rw [x_len_lst, mkW_len]
  refine x_lc (st1 := S) (x := .lst (sgW cs)) (all := sgW cs) ?_ ?_
  · have e : ((cs.length + 2 : Nat) : Int) - 2 = ((cs.length : Nat) : Int) := by omega
    simp only [x_iSeq, x_sl, x_var, h5, x_pNo, x_pYes, x_2, x_N, x_aCons, x_aNil, x_c, Out.bind_ok, hl, x_sub, e, sl, x_it_lst]
  · have q3 : ∀ ws, lcRun (.lst (sgW cs)) ws (gNm 19) tTrue (e2 oDGet (e2 oIx (eVar 2) (eC (.int 0))) (eVar 19)) (wipeF fr [19]) ((cs.zip P).map fun p => W.str (sg p.1)) S = .ok ((cs.zip P).map fun p => bits p.2) S := fun ws => by
      refine lc_mp (by trivial) _ fun p hp => ?_
      obtain ⟨k, hk1, e⟩ := List.getElem_of_mem hp
      have e' : (cs.zip P)[k]? = some p := by rw [List.getElem?_eq_getElem hk1, e]
      obtain ⟨a1, a2⟩ := List.getElem?_zip_eq_some.mp e'
      have d1 := dget_cell hk (look_at (asc_nodup B.asc) a1 a2)
      refine ⟨(wipeF fr [19]).set 19 (some (.str (sg p.1))), rfl, rfl, ?_⟩
      simp only [x_2, x_var, hw, hw9, x_c, Out.bind_ok, ix_m0, d1]
    have q4 := q3 (sgW cs)
    rw [← q1, ← q2] at q4
    exact q4
theorem drawn_rows {c : Cel} {rest : Sto} {fr : Fr} (hp : Pool c) (h6 : n ≤ 6) (hw : ∀ w, ((wipeF fr [18]).set 18 w)[1]? = some (some (.cell 0))) (hw9 : ∀ w, ((wipeF fr [18]).set 18 w)[4]? = some (some (.int n))) :
    ∃ A c', Pool c' ∧ (∀ r ∈ A, r.length = n ∧ Bits r) ∧ eLc (iRng rg1 (aCons (eC (.int 20)) (aNil))) (gNm 18) [18] (tTrue) (eCall F_law_row (aCons (eVar 1) (aCons (eVar 4) (aNil)))) fr (c :: rest) = .ok (.lst (bitsL A)) (c' :: rest) := by
  obtain ⟨ys, st', e1, ⟨c', rfl, p'⟩, hb⟩ := lc_inv (x := .non) (all := rngW 0 1 20) (g := gNm 18) (t := tTrue) (e := (eCall F_law_row (aCons (eVar 1) (aCons (eVar 4) (aNil))))) (fr := wipeF fr [18]) (fun S => ∃ c', S = c' :: rest ∧ Pool c') (fun (_ : W) y => ∃ r, y = bits r ∧ r.length = n ∧ Bits r) (fun _ _ => trivial) (rngW 0 1 20) (c :: rest) ⟨c, rfl, hp⟩ (by
    rintro w _ st ⟨c, rfl, hc⟩
    obtain ⟨r, c1, b1, l1, p1, e⟩ := row_drawn (rest := rest) (n := (n : Int)) hc (by omega) (by omega)
    exact ⟨(wipeF fr [18]).set 18 (some w), bits r, c1 :: rest, rfl, rfl, by simp only [x_call, x_aCons, x_var, hw, hw9, x_aNil, Out.bind_ok, e], ⟨c1, rfl, p1⟩, r, rfl, by omega, b1⟩)
  obtain ⟨A, hA, rfl⟩ := both_rows hb
  exact ⟨A, c', p', hA, x_lc (st1 := c :: rest) (x_rng1 (j := 20) (by simp) (by decide) (by decide)) e1⟩
theorem all_rows {S : Sto} {fr : Fr} (h1 : 1 ≤ n) (h4 : n ≤ 4) (ho : S.all (oldW S.length) = true) (hf : fr[4]? = some (some (.int n))) (hw : ∀ w, ((wipeF fr [20]).set 20 w)[4]? = some (some (.int n))) (hw9 : ∀ w, ((wipeF fr [20]).set 20 w)[20]? = some w) :
    ∃ A, (∀ r ∈ A, r.length = n ∧ Bits r) ∧ eLc (iRng rg1 (aCons (e2 oIx (eN oLst (aCons (eC (.int 4)) (aCons (eC (.int 8)) (aCons (eC (.int 16)) (aNil))))) (e2 oSub (eVar 4) (eC (.int 2)))) (aNil))) (gNm 20) [20] (tTrue) (eCall F_law_row_of (aCons (eVar 20) (aCons (eVar 4) (aNil)))) fr S = .ok (.lst (bitsL A)) S := by
  obtain ⟨M, hM, hi⟩ : ∃ M : Nat, M ≤ 16 ∧ oIx (.lst [.int 4, .int 8, .int 16]) (.int ((n : Int) - 2)) S = .ok (.int M) S := by
    match n, h1, h4 with
    | 1, _, _ => exact ⟨16, by decide, rfl⟩
    | 2, _, _ => exact ⟨4, by decide, rfl⟩
    | 3, _, _ => exact ⟨8, by decide, rfl⟩
    | 4, _, _ => exact ⟨16, by decide, rfl⟩
    | k + 5, _, h => omega
  refine ⟨(List.range M).map (rowN n), fun r hr => ?_, ?_⟩
  · obtain ⟨k, _, rfl⟩ := List.mem_map.mp hr
    exact ⟨rowN_len _ _, rowN_bits _ _⟩
  refine x_lc (st1 := S) (x := .non) (all := rngW 0 1 ((M : Int).toNat)) (x_rng1 (j := (M : Int)) (by simp only [x_aCons, x_2, x_N, x_c, x_aNil, x_var, hf, Out.bind_ok, x_lst (ws := [W.int 4, W.int 8, W.int 16]) (by simp), x_sub, hi]) (by omega) (by omega)) ?_
  rw [Int.toNat_natCast, rng_map1]
  unfold bitsL
  rw [List.map_map]
  refine lc_mp (by trivial) _ fun k hk => ?_
  have e := row_of_ok (w := n) (x := k) (st := S) (by omega) ho
  refine ⟨(wipeF fr [20]).set 20 (some (.int (k : Nat))), rfl, rfl, ?_⟩
  simp only [x_call, x_aCons, x_var, hw, hw9, x_aNil, Out.bind_ok, e]
  rfl
end

end SL
namespace SL
open PySem PySem.Spec PyProof.Rows L2
theorem law_true (ns : List Int) (h63 : ns.length ≤ 63) (hb : ∀ z ∈ ns, Builtin.Int.intBits z ≤ 1048576) : ∃ st, F_law [.ro (ns.map W.int)] [] = .ok (.bl true) st := by
  obtain ⟨c0, p0, e0'⟩ := pool_ok ns
  obtain ⟨cs, n, P, s, t, c1, left, p1, B, e4⟩ := drawn_ok p0
  have hc1 := B.c1
  have hc10 := B.c10
  have hn1 := B.n1
  have hn6 := B.n6
  have e5 := law_book_ok (left := left) p1 B
  obtain ⟨R, hR⟩ : ∃ R : Sto, R = [.lst (bitsL left), .dct (sgW cs) (bitsL P)] := ⟨_, rfl⟩
  have hk : ∀ c : Cel, (c :: R)[2]? = some (.dct (sgW cs) (bitsL P)) := fun c => by rw [hR]; rfl
  rw [← hR] at e4 e5
  have ol : ∀ n, oldW n (.lst (bitsL left)) = true := fun n => by
    show (fz0s n (fun _ => none) (bitsL left)).isSome = true
    rw [fz_bitsL]; rfl
  have oo : ∀ (c : Cel), Pool c → ∀ m, List.all (c :: R) (oldW m) = true := fun c p m => by
    rw [hR]; simp [pool_old _ p, ol, old_dct]
  have i2 : ∀ st, oIx (mdl 2 s t) (.int 1) st = .ok (bits s) st := fun st => ix_m1
  have i3 : ∀ st, oIx (mdl 2 s t) (.int 2) st = .ok (bits t) st := fun st => ix_m2
  have lw : ∀ st, oLen [bits s] st = .ok (.int n) st := fun st => by unfold bits; rw [x_len_tup, List.length_map, B.rs.1]
  have lsL : oListD [.cell 2] (c1 :: R) = .ok (.lst (sgW cs)) (c1 :: R) := by
    unfold oListD
    simp only [dctKs_cell (hk c1), keys_sg]
  have lsS : ∀ st, oSortS [.lst (sgW cs)] st = .ok (.lst (sgW cs)) st := fun st => by
    unfold oSortS
    simp only [x_lst_lst, Option.bind_some, strsW_sg, List.length_map, if_pos (show cs.length < 64 by omega), sort_asc B.asc]
    congr 2
    unfold sgW; rw [List.map_map]; rfl
  have l2 : ∀ (a b : W) st, oLst [a, b] st = .ok (.lst [a, b]) st := fun a b st => x_lst (by simp)
  have am : ∀ st, oAdd (.lst (sgW cs)) (.lst [.str "start", .str "stop"]) st = .ok (.lst (mkW cs)) st := fun st => by rw [lst_app (by rw [sgW_len]; simp; omega), mkW_eq]
  have ar : ∀ st, oAdd (.lst (bitsL P)) (.lst [bits s, bits t]) st = .ok (.lst (bitsL (rws P s t))) st := fun st => by
    rw [lst_app (by rw [bitsL_len, B.len]; simp; omega)]
    unfold bitsL rws; rw [List.map_append]; rfl
  obtain ⟨v8, v13, v17, e6⟩ := due_all (ns := ns) (st := c1 :: R) B
  obtain ⟨d, hd⟩ : ∃ d, d = bW cs (outB (dij P s t) (cs.length + 2) (cs.length + 2)) := ⟨_, rfl⟩
  have la := least_ok (st := c1 :: R) B
  rw [← hd] at e6 la
  have sd : F_law_same 6 [d, d] (c1 :: R) = .ok (.bl true) (c1 :: R) := by
    refine same_refl 6 _ _ ?_
    have sk : ∀ k, PyData.strOk (mkAt cs k) = true := fun k => by
      by_cases h : k < cs.length + 2
      · exact mk_ok B h
      · unfold mkAt
        rw [List.getElem?_eq_none (by rw [mks_len]; omega)]
        decide +kernel
    rw [hd]
    cases outB (dij P s t) (cs.length + 2) (cs.length + 2) with
    | none => rfl
    | some p =>
      show (decide (3 ≤ 1000000) && (true && (PyData.strOk (mkAt cs p.2.1) && (PyData.strOk (mkAt cs p.2.2) && true)))) = true
      rw [sk, sk]; rfl
  obtain ⟨A1, c2, p2, hA1, e7⟩ := drawn_rows (n := n) (rest := R) (fr := [some (.ro (ns.map W.int)), some (.cell 0), some (mdl 2 s t), some (bk cs n P s t), some (.int n), some (.lst (mkW cs)), some (.lst (bitsL (rws P s t))), some d, v8, none, none, none, none, v13, none, none, none, v17, none, none, none]) p1 hn6 (fun _ => rfl) (fun _ => rfl)
  obtain ⟨A, hA, e8⟩ : ∃ A, (∀ r ∈ A, r.length = n ∧ Bits r) ∧ sIf (bOf (e2 oLe (eVar 4) (eC (.int 4)))) (sAsg (eLc (iRng rg1 (aCons (e2 oIx (eN oLst (aCons (eC (.int 4)) (aCons (eC (.int 8)) (aCons (eC (.int 16)) (aNil))))) (e2 oSub (eVar 4) (eC (.int 2)))) (aNil))) (gNm 20) [20] (tTrue) (eCall F_law_row_of (aCons (eVar 20) (aCons (eVar 4) (aNil))))) (gNm 9)) sNil [some (.ro (ns.map W.int)), some (.cell 0), some (mdl 2 s t), some (bk cs n P s t), some (.int n), some (.lst (mkW cs)), some (.lst (bitsL (rws P s t))), some d, v8, some (.lst (bitsL A1)), none, none, none, v13, none, none, none, v17, none, none, none] (c2 :: R) = .nx [some (.ro (ns.map W.int)), some (.cell 0), some (mdl 2 s t), some (bk cs n P s t), some (.int n), some (.lst (mkW cs)), some (.lst (bitsL (rws P s t))), some d, v8, some (.lst (bitsL A)), none, none, none, v13, none, none, none, v17, none, none, none] (c2 :: R) := by
    by_cases h4 : n ≤ 4
    · obtain ⟨A, hA, e⟩ := all_rows (n := n) (S := c2 :: R) (fr := [some (.ro (ns.map W.int)), some (.cell 0), some (mdl 2 s t), some (bk cs n P s t), some (.int n), some (.lst (mkW cs)), some (.lst (bitsL (rws P s t))), some d, v8, some (.lst (bitsL A1)), none, none, none, v13, none, none, none, v17, none, none, none]) hn1 h4 (oo c2 p2 _) rfl (fun _ => rfl) (fun _ => rfl)
      refine ⟨A, hA, ?_⟩
      have h4' : ((n : Nat) : Int) ≤ 4 := by omega
      simp only [x_if, x_bOf, x_2, x_var, fg4, x_c, Out.bind_ok, x_le, decide_eq_true h4', Out.stm_ok, if_true, x_asgN]
      rw [e]
      simp only [Out.stm_ok, fs9]
    · refine ⟨A1, hA1, ?_⟩
      have h4' : ¬ ((n : Nat) : Int) ≤ 4 := by omega
      simp only [x_if, x_bOf, x_2, x_var, fg4, x_c, Out.bind_ok, x_le, decide_eq_false h4', Out.stm_ok, x_nil]
      rfl
  obtain ⟨v10, v14, v15, v16, E1, hE1, e9⟩ := asked_all (ns := ns) (S0 := c2 :: R) (d := d) (A := A) (u8 := v8) (u13 := v13) (u17 := v17) B hA (oo c2 p2)
  obtain ⟨v11, E2, hE2, e10⟩ := pats_all (ns := ns) (S0 := c2 :: (R ++ E1)) (d := d) (u8 := v8) (u9 := some (.lst (bitsL A))) (u10 := v10) (u13 := v13) (u14 := v14) (u15 := v15) (u16 := v16) (u17 := v17) B (fun m => by
    have := oo c2 p2 m
    rw [List.all_cons, Bool.and_eq_true] at this
    rw [List.all_cons, List.all_append, this.1, this.2, hE1]; rfl)
  obtain ⟨T, hT⟩ : ∃ T : Sto, T = R ++ E1 ++ E2 := ⟨_, rfl⟩
  obtain ⟨dp, hdp⟩ := deep_ok (st := c2 :: T)
  obtain ⟨g, c3, p3, g0, g1, zg⟩ := draw_ok (m := 13) p2 (by decide) (log_small (by decide) (by decide))
  obtain ⟨ww, hww, iww⟩ := ix_mem (ws := [.non, .tup [], .int 0, .str "01", .lst (s.map W.int), bits (s ++ [0]), bits (s.drop 1), bits (s.drop 1 ++ [2]), .tup ((s.drop 1).map W.int ++ [.bl true]), .tup ((s.drop 1).map W.int ++ [.lst []]), .tup ((s.drop 1).map W.int ++ [.lst dp]), .lst dp, bk cs n P s t]) g0 (by simpa using g1)
  have bS : Bits (s.drop 1) := drop_bits B.rs.2
  have lS : (s.drop 1).length = n - 1 := by rw [List.length_drop, B.rs.1]
  have wnot : ∀ st, F_nearest [bk cs n P s t, ww] st = .err (rowEr "row") st := fun st => by
    simp only [List.mem_cons, List.not_mem_nil, or_false] at hww
    rcases hww with rfl | rfl | rfl | rfl | rfl | rfl | rfl | rfl | rfl | rfl | rfl | rfl | rfl
    · exact nearest_no B rfl rfl
    · exact nearest_noL B (y := []) (fun x h => by cases h) (by simp; omega)
    · exact nearest_no B rfl rfl
    · exact nearest_no B rfl rfl
    · exact nearest_no B rfl rfl
    · exact nearest_noL B (bits_cat B.rs.2 (fun x h => by simp at h; exact .inl h)) (by rw [List.length_append, B.rs.1]; simp)
    · exact nearest_noL B bS (by omega)
    · have z := bits_mix (x := s.drop 1) (w := .int 2) rfl (by rw [betw_int]; decide)
      rw [show bits (s.drop 1 ++ [2]) = .tup ((s.drop 1).map W.int ++ [.int 2]) by unfold bits; rw [List.map_append]; rfl]
      exact nearest_no B z.1 z.2
    · have z := bits_mix (x := s.drop 1) (w := .bl true) rfl rfl
      exact nearest_no B z.1 z.2
    · have z := bits_mix (x := s.drop 1) (w := .lst []) rfl rfl
      exact nearest_no B z.1 z.2
    · have z := bits_mix (x := s.drop 1) (w := .lst dp) rfl rfl
      exact nearest_no B z.1 z.2
    · exact nearest_no B rfl rfl
    · exact nearest_no B rfl rfl
  have rf := fun st => refused_row (wnot st)
  have eqr : ∀ st, oEq (.str "row") (.str "row") st = .ok (.bl true) st := fun st => eq_str (by decide +kernel)
  have hrr := rows_read (cs := cs) (P := P) (s := s) (t := t) (S := c1 :: R) (fr := [some (.ro (ns.map W.int)), some (.cell 0), some (mdl 2 s t), some (bk cs n P s t), some (.int n), some (.lst (mkW cs)), none, none, none, none, none, none, none, none, none, none, none, none, none, none, none]) B (hk c1) rfl rfl (fun _ => rfl) (fun _ => rfl)
  refine ⟨[], mk_rt2 (st := []) (ex := c3 :: T) ?_ (fun _ _ => rfl) rfl⟩
  show B_law [some (.ro (ns.map W.int)), none, none, none, none, none, none, none, none, none, none, none, none, none, none, none, none, none, none, none, none] [] = .rt (.bl true) (c3 :: T)
  unfold B_law
  refine asg_to (w := .cell 0) (st1 := [c0]) (by simp only [x_call, x_aCons, x_aNil, x_var, fg0, Out.bind_ok, e0']) ?_
  simp only [fs1]
  refine asg_to (w := mdl 2 s t) (st1 := c1 :: R) (by simp only [x_call, x_aCons, x_aNil, x_var, fg1, Out.bind_ok, e4]) ?_
  simp only [fs2]
  refine asg_to (w := bk cs n P s t) (st1 := c1 :: R) (by simp only [x_call, x_aCons, x_aNil, x_var, fg2, Out.bind_ok, e5]) ?_
  simp only [fs3]
  refine asg_to (w := .int n) (st1 := c1 :: R) (by simp only [x_N, x_aCons, x_aNil, x_2, x_var, x_c, fg2, Out.bind_ok, i2, lw]) ?_
  simp only [fs4]
  refine asg_to (w := .lst (mkW cs)) (st1 := c1 :: R) (by simp only [x_N, x_aCons, x_aNil, x_2, x_var, x_c, fg2, Out.bind_ok, ix_m0, lsL, lsS, l2, am]) ?_
  simp only [fs5]
  refine asg_to (w := .lst (bitsL (rws P s t))) (st1 := c1 :: R) ?_ ?_
  · rw [x_2, hrr]
    simp only [x_N, x_aCons, x_aNil, x_2, x_var, x_c, fg2, Out.bind_ok, i2, i3, l2, ar]
  simp only [fs6]
  refine asg_to (w := .non) (st1 := c1 :: R) rfl ?_
  simp only [fs7]
  refine seq_to e6 ?_
  refine no_ret (nb ?_) ?_
  · simp only [x_call, x_aCons, x_aNil, x_var, fg3, fg7, Out.bind_ok, la, sd]
  refine asg_to e7 ?_
  simp only [fs9]
  refine seq_to e8 ?_
  refine seq_to e9 ?_
  rw [List.cons_append]
  refine seq_to e10 ?_
  rw [List.cons_append, ← hT]
  have sl1 : ∀ st, oSl (bits s) (some 1) none st = .ok (bits (s.drop 1)) st := fun st => sl_from (k := 1) (by rw [B.rs.1]; exact hn1)
  have o0 : ∀ st, oList [bits s] st = .ok (.lst (s.map W.int)) st := fun st => rfl
  have o3 : ∀ (w : W) st, oTup [w] st = .ok (.tup [w]) st := fun w st => rfl
  have o4 : ∀ st, oTup [] st = .ok (.tup []) st := fun st => rfl
  have o5 : ∀ st, oLst [] st = .ok (.lst []) st := fun st => x_lst (by simp)
  have b1 : ∀ st, oAdd (bits s) (.tup [.int 0]) st = .ok (bits (s ++ [0])) st := fun st => bits_app (y := [0]) (by rw [B.rs.1]; simp; omega)
  have b2 : ∀ st, oAdd (bits (s.drop 1)) (.tup [.int 2]) st = .ok (bits (s.drop 1 ++ [2])) st := fun st => bits_app (y := [2]) (by rw [lS]; simp; omega)
  have b3 : ∀ (w : W) st, oAdd (bits (s.drop 1)) (.tup [w]) st = .ok (.tup ((s.drop 1).map W.int ++ [w])) st := fun w st => tup_app (by rw [List.length_map, lS]; simp; omega)
  have l9 : ∀ (a1 a2 a3 a4 a5 a6 a7 a8 a9 : W) st, oLst [a1, a2, a3, a4, a5, a6, a7, a8, a9] st = .ok (.lst [a1, a2, a3, a4, a5, a6, a7, a8, a9]) st := fun _ _ _ _ _ _ _ _ _ st => x_lst (by simp)
  have l4 : ∀ (a1 a2 a3 a4 : W) st, oLst [a1, a2, a3, a4] st = .ok (.lst [a1, a2, a3, a4]) st := fun _ _ _ _ st => x_lst (by simp)
  have aW : ∀ (a1 a2 a3 a4 a5 a6 a7 a8 a9 b1 b2 b3 b4 : W) st, oAdd (.lst [a1, a2, a3, a4, a5, a6, a7, a8, a9]) (.lst [b1, b2, b3, b4]) st = .ok (.lst [a1, a2, a3, a4, a5, a6, a7, a8, a9, b1, b2, b3, b4]) st := fun _ _ _ _ _ _ _ _ _ _ _ _ _ st => lst_app (by simp)
  refine asg_to (w := .lst [.non, .tup [], .int 0, .str "01", .lst (s.map W.int), bits (s ++ [0]), bits (s.drop 1), bits (s.drop 1 ++ [2]), .tup ((s.drop 1).map W.int ++ [.bl true])]) (st1 := c2 :: T) ?_ ?_
  · simp only [x_N, x_aCons, x_aNil, x_2, x_var, x_c, fg2, Out.bind_ok, i2, x_sl, x_pNo, x_pYes, sl1, o0, o3, o4, b1, b2, b3, l9]
  simp only [fs12]
  refine asg_to (w := .lst [.non, .tup [], .int 0, .str "01", .lst (s.map W.int), bits (s ++ [0]), bits (s.drop 1), bits (s.drop 1 ++ [2]), .tup ((s.drop 1).map W.int ++ [.bl true]), .tup ((s.drop 1).map W.int ++ [.lst []]), .tup ((s.drop 1).map W.int ++ [.lst dp]), .lst dp, bk cs n P s t]) (st1 := c2 :: T) ?_ ?_
  · simp only [x_N, x_call, x_aCons, x_aNil, x_2, x_var, x_c, fg2, fg3, fg12, Out.bind_ok, i2, x_sl, x_pNo, x_pYes, sl1, o3, o5, b3, hdp, l4, aW]
  simp only [fs12]
  simp only [x_ret, x_2, x_call, x_aCons, x_aNil, x_var, x_c, fg1, fg3, fg12, Out.bind_ok, zg, iww, rf, eqr, Out.stm_ok]

end SL
namespace SL
open PySem PySem.Spec PyProof.Rows L2
theorem exT_ok {K : PySem.W.Frag} {mg : Str → Option Value} {C_BadBook C_LabelError C_BadRow C_NoSign : Addr} (g_BadBook : mg "BadBook" = some (.ref C_BadBook)) (g_LabelError : mg "LabelError" = some (.ref C_LabelError)) (g_BadRow : mg "BadRow" = some (.ref C_BadRow)) (g_NoSign : mg "NoSign" = some (.ref C_NoSign)) (p_BadBook_BadRow : PySem.W.exmOne K (.ref C_BadBook) (.ref C_BadRow) = some false) (p_BadBook_LabelError : PySem.W.exmOne K (.ref C_BadBook) (.ref C_LabelError) = some true) (p_BadRow_BadRow : PySem.W.exmOne K (.ref C_BadRow) (.ref C_BadRow) = some true) (p_BadRow_LabelError : PySem.W.exmOne K (.ref C_BadRow) (.ref C_LabelError) = some true) (p_NoSign_BadRow : PySem.W.exmOne K (.ref C_NoSign) (.ref C_BadRow) = some false) (p_NoSign_LabelError : PySem.W.exmOne K (.ref C_NoSign) (.ref C_LabelError) = some true) : ExTOk K mg exT := by
  intro c c2 b h C C2 hc hc2
  unfold exT at h
  repeat' split at h
  all_goals first
    | (cases h; done)
    | (cases h; subst_vars; cases hc.symm.trans g_BadBook; cases hc2.symm.trans g_BadRow; exact p_BadBook_BadRow)
    | (cases h; subst_vars; cases hc.symm.trans g_BadBook; cases hc2.symm.trans g_LabelError; exact p_BadBook_LabelError)
    | (cases h; subst_vars; cases hc.symm.trans g_BadRow; cases hc2.symm.trans g_BadRow; exact p_BadRow_BadRow)
    | (cases h; subst_vars; cases hc.symm.trans g_BadRow; cases hc2.symm.trans g_LabelError; exact p_BadRow_LabelError)
    | (cases h; subst_vars; cases hc.symm.trans g_NoSign; cases hc2.symm.trans g_BadRow; exact p_NoSign_BadRow)
    | (cases h; subst_vars; cases hc.symm.trans g_NoSign; cases hc2.symm.trans g_LabelError; exact p_NoSign_LabelError)
def spLaw (K : PySem.W.Frag) : Sp := fun vs H Q _ => ∃ (a : Addr) (ns : List Int), vs = [.ref a] ∧ SqL K H a (ns.map V.int) ∧ ns.length ≤ 63 ∧ (∀ z ∈ ns, Builtin.Int.intBits z ≤ 1048576) ∧ ∀ H', Q (.bl true) H'
theorem sp_law {K : PySem.W.Frag} {mg : Str → Option Value} (hl : ∀ ns : List Int, ns.length ≤ 63 → (∀ z ∈ ns, Builtin.Int.intBits z ≤ 1048576) → ∃ st, F_law [.ro (ns.map W.int)] [] = .ok (.bl true) st) : ∀ vs H Q E, spLaw K vs H Q E → spF K mg 1 F_law vs H Q E := by
  intro vs H Q E ⟨a, ns, e, hS, h1, h2, hq⟩
  obtain ⟨st, e2⟩ := hl ns h1 h2
  subst e
  exact spF_of hS e2 hq
theorem all_mk {l : PySem.W.OpenLaw} {w : World} {K : PySem.W.Frag} {h : Heap} {mg : Str → Option Value} {fa : Addr} (X : K.In h) (G : h.Ns mainGlobals mg) (hfa : mg "law" = some (.ref fa))
    {f0 : Addr} {od0 an0 : Option Addr} {sl0 : Array (Option Value)} {oc0 kV0 dc0 pm0 cd0 ct0 : Value}
    {f1 : Addr} {od1 an1 : Option Addr} {sl1 : Array (Option Value)} {oc1 kV1 dc1 pm1 cd1 ct1 : Value}
    {f2 : Addr} {od2 an2 : Option Addr} {sl2 : Array (Option Value)} {oc2 kV2 dc2 pm2 cd2 ct2 : Value}
    {f3 : Addr} {od3 an3 : Option Addr} {sl3 : Array (Option Value)} {oc3 kV3 dc3 pm3 cd3 ct3 : Value}
    {f4 : Addr} {od4 an4 : Option Addr} {sl4 : Array (Option Value)} {oc4 kV4 dc4 pm4 cd4 ct4 : Value}
    {f5 : Addr} {od5 an5 : Option Addr} {sl5 : Array (Option Value)} {oc5 kV5 dc5 pm5 cd5 ct5 : Value}
    {f6 : Addr} {od6 an6 : Option Addr} {sl6 : Array (Option Value)} {oc6 kV6 dc6 pm6 cd6 ct6 : Value}
    {f7 : Addr} {od7 an7 : Option Addr} {sl7 : Array (Option Value)} {oc7 kV7 dc7 pm7 cd7 ct7 : Value}
    {f8 : Addr} {od8 an8 : Option Addr} {sl8 : Array (Option Value)} {oc8 kV8 dc8 pm8 cd8 ct8 : Value}
    {f9 : Addr} {od9 an9 : Option Addr} {sl9 : Array (Option Value)} {oc9 kV9 dc9 pm9 cd9 ct9 : Value}
    {f10 : Addr} {od10 an10 : Option Addr} {sl10 : Array (Option Value)} {oc10 kV10 dc10 pm10 cd10 ct10 : Value}
    {f11 : Addr} {od11 an11 : Option Addr} {sl11 : Array (Option Value)} {oc11 kV11 dc11 pm11 cd11 ct11 : Value}
    {f12 : Addr} {od12 an12 : Option Addr} {sl12 : Array (Option Value)} {oc12 kV12 dc12 pm12 cd12 ct12 : Value}
    {f13 : Addr} {od13 an13 : Option Addr} {sl13 : Array (Option Value)} {oc13 kV13 dc13 pm13 cd13 ct13 : Value}
    {f14 : Addr} {od14 an14 : Option Addr} {sl14 : Array (Option Value)} {oc14 kV14 dc14 pm14 cd14 ct14 : Value}
    {f15 : Addr} {od15 an15 : Option Addr} {sl15 : Array (Option Value)} {oc15 kV15 dc15 pm15 cd15 ct15 : Value}
    {f16 : Addr} {od16 an16 : Option Addr} {sl16 : Array (Option Value)} {oc16 kV16 dc16 pm16 cd16 ct16 : Value}
    {f17 : Addr} {od17 an17 : Option Addr} {sl17 : Array (Option Value)} {oc17 kV17 dc17 pm17 cd17 ct17 : Value}
    {f18 : Addr} {od18 an18 : Option Addr} {sl18 : Array (Option Value)} {oc18 kV18 dc18 pm18 cd18 ct18 : Value}
    {f19 : Addr} {od19 an19 : Option Addr} {sl19 : Array (Option Value)} {oc19 kV19 dc19 pm19 cd19 ct19 : Value}
    {f20 : Addr} {od20 an20 : Option Addr} {sl20 : Array (Option Value)} {oc20 kV20 dc20 pm20 cd20 ct20 : Value}
    {f21 : Addr} {od21 an21 : Option Addr} {sl21 : Array (Option Value)} {oc21 kV21 dc21 pm21 cd21 ct21 : Value}
    {f22 : Addr} {od22 an22 : Option Addr} {sl22 : Array (Option Value)} {oc22 kV22 dc22 pm22 cd22 ct22 : Value}
    {f23 : Addr} {od23 an23 : Option Addr} {sl23 : Array (Option Value)} {oc23 kV23 dc23 pm23 cd23 ct23 : Value}
    {f24 : Addr} {od24 an24 : Option Addr} {sl24 : Array (Option Value)} {oc24 kV24 dc24 pm24 cd24 ct24 : Value}
    {f25 : Addr} {od25 an25 : Option Addr} {sl25 : Array (Option Value)} {oc25 kV25 dc25 pm25 cd25 ct25 : Value}
    {f26 : Addr} {od26 an26 : Option Addr} {sl26 : Array (Option Value)} {oc26 kV26 dc26 pm26 cd26 ct26 : Value}
    {t_MOST_SIGNS : Tok}
    {t_SIGNS : Tok}
    {t_START : Tok}
    {t_STOP : Tok}
    {t_WIDEST_BLOCK : Tok}
    {C_Book : Addr}
    {C_BadBook : Addr}
    {C_LabelError : Addr}
    {C_BadRow : Addr}
    {C_NoSign : Addr}
    {nm_BadBook qn_BadBook : Str} {N_BadBook : Addr} {bs_BadBook : List Value} {sn_BadBook : List Str} {sub_BadBook : List Value} {ab_BadBook : Bool} {col_BadBook : Option Bool} {dd_BadBook : Option Addr} {m0_BadBook m1_BadBook m2_BadBook m3_BadBook m5_BadBook : Option Value}
    {fi_BadBook : Addr} {odi_BadBook ani_BadBook : Option Addr} {sli_BadBook : Array (Option Value)} {oci_BadBook kVi_BadBook dci_BadBook pmi_BadBook cdi_BadBook cti_BadBook : Value}
    {nm_BadRow qn_BadRow : Str} {N_BadRow : Addr} {bs_BadRow : List Value} {sn_BadRow : List Str} {sub_BadRow : List Value} {ab_BadRow : Bool} {col_BadRow : Option Bool} {dd_BadRow : Option Addr} {m0_BadRow m1_BadRow m2_BadRow m3_BadRow m5_BadRow : Option Value}
    {fi_BadRow : Addr} {odi_BadRow ani_BadRow : Option Addr} {sli_BadRow : Array (Option Value)} {oci_BadRow kVi_BadRow dci_BadRow pmi_BadRow cdi_BadRow cti_BadRow : Value}
    {nm_NoSign qn_NoSign : Str} {N_NoSign : Addr} {bs_NoSign : List Value} {sn_NoSign : List Str} {sub_NoSign : List Value} {ab_NoSign : Bool} {col_NoSign : Option Bool} {dd_NoSign : Option Addr} {m0_NoSign m1_NoSign m2_NoSign m3_NoSign m5_NoSign : Option Value}
    {fi_NoSign : Addr} {odi_NoSign ani_NoSign : Option Addr} {sli_NoSign : Array (Option Value)} {oci_NoSign kVi_NoSign dci_NoSign pmi_NoSign cdi_NoSign cti_NoSign : Value}
    (g_Book : PySem.W.nsIn K mainGlobals "Book" = some (some (.ref C_Book)))
    (g_BadBook : PySem.W.nsIn K mainGlobals "BadBook" = some (some (.ref C_BadBook)))
    (g_LabelError : PySem.W.nsIn K mainGlobals "LabelError" = some (some (.ref C_LabelError)))
    (g_BadRow : PySem.W.nsIn K mainGlobals "BadRow" = some (some (.ref C_BadRow)))
    (g_NoSign : PySem.W.nsIn K mainGlobals "NoSign" = some (some (.ref C_NoSign)))
    (a0 : PySem.W.nsIn K mainGlobals "is_integer" = some (some (.ref f0)))
    (l0 : K.lookup f0 = some ⟨oc0, od0, .func (PySem.W.fnOf "is_integer" "is_integer" (defArgs s_is_integer) (defBody s_is_integer) (defScope s_is_integer) .none kV0 dc0 pm0 an0 cd0 ct0), sl0⟩)
    (c0 : PySem.W.codeIn K cd0 "is_integer" = true)
    (k0 : PySem.W.keepIn K (.ref f0) = true)
    (a1 : PySem.W.nsIn K mainGlobals "is_between" = some (some (.ref f1)))
    (l1 : K.lookup f1 = some ⟨oc1, od1, .func (PySem.W.fnOf "is_between" "is_between" (defArgs s_is_between) (defBody s_is_between) (defScope s_is_between) .none kV1 dc1 pm1 an1 cd1 ct1), sl1⟩)
    (c1 : PySem.W.codeIn K cd1 "is_between" = true)
    (k1 : PySem.W.keepIn K (.ref f1) = true)
    (a2 : PySem.W.nsIn K mainGlobals "is_row" = some (some (.ref f2)))
    (l2 : K.lookup f2 = some ⟨oc2, od2, .func (PySem.W.fnOf "is_row" "is_row" (defArgs s_is_row) (defBody s_is_row) (defScope s_is_row) .none kV2 dc2 pm2 an2 cd2 ct2), sl2⟩)
    (c2 : PySem.W.codeIn K cd2 "is_row" = true)
    (k2 : PySem.W.keepIn K (.ref f2) = true)
    (a3 : PySem.W.nsIn K mainGlobals "is_sign" = some (some (.ref f3)))
    (l3 : K.lookup f3 = some ⟨oc3, od3, .func (PySem.W.fnOf "is_sign" "is_sign" (defArgs s_is_sign) (defBody s_is_sign) (defScope s_is_sign) .none kV3 dc3 pm3 an3 cd3 ct3), sl3⟩)
    (c3 : PySem.W.codeIn K cd3 "is_sign" = true)
    (k3 : PySem.W.keepIn K (.ref f3) = true)
    (a4 : PySem.W.nsIn K mainGlobals "are_patterns" = some (some (.ref f4)))
    (l4 : K.lookup f4 = some ⟨oc4, od4, .func (PySem.W.fnOf "are_patterns" "are_patterns" (defArgs s_are_patterns) (defBody s_are_patterns) (defScope s_are_patterns) .none kV4 dc4 pm4 an4 cd4 ct4), sl4⟩)
    (c4 : PySem.W.codeIn K cd4 "are_patterns" = true)
    (k4 : PySem.W.keepIn K (.ref f4) = true)
    (a5 : PySem.W.nsIn K mainGlobals "is_row_of" = some (some (.ref f5)))
    (l5 : K.lookup f5 = some ⟨oc5, od5, .func (PySem.W.fnOf "is_row_of" "is_row_of" (defArgs s_is_row_of) (defBody s_is_row_of) (defScope s_is_row_of) .none kV5 dc5 pm5 an5 cd5 ct5), sl5⟩)
    (c5 : PySem.W.codeIn K cd5 "is_row_of" = true)
    (k5 : PySem.W.keepIn K (.ref f5) = true)
    (a6 : PySem.W.findIn K (.ref C_Book) "__init__" = some (some (.ref f6)))
    (i6 : PySem.W.isFn K (.ref f6) = true)
    (l6 : K.lookup f6 = some ⟨oc6, od6, .func (PySem.W.fnOf "__init__" "Book.__init__" (defArgs s_Book___init__) (defBody s_Book___init__) (defScope s_Book___init__) .none kV6 dc6 pm6 an6 cd6 ct6), sl6⟩)
    (c6 : PySem.W.codeIn K cd6 "Book.__init__" = true)
    (k6 : PySem.W.keepIn K (.ref f6) = true)
    (a7 : PySem.W.nsIn K mainGlobals "_law_book" = some (some (.ref f7)))
    (l7 : K.lookup f7 = some ⟨oc7, od7, .func (PySem.W.fnOf "_law_book" "_law_book" (defArgs s_law_book) (defBody s_law_book) (defScope s_law_book) .none kV7 dc7 pm7 an7 cd7 ct7), sl7⟩)
    (c7 : PySem.W.codeIn K cd7 "_law_book" = true)
    (k7 : PySem.W.keepIn K (.ref f7) = true)
    (a8 : PySem.W.nsIn K mainGlobals "_law_count" = some (some (.ref f8)))
    (l8 : K.lookup f8 = some ⟨oc8, od8, .func (PySem.W.fnOf "_law_count" "_law_count" (defArgs s_law_count) (defBody s_law_count) (defScope s_law_count) .none kV8 dc8 pm8 an8 cd8 ct8), sl8⟩)
    (c8 : PySem.W.codeIn K cd8 "_law_count" = true)
    (k8 : PySem.W.keepIn K (.ref f8) = true)
    (a9 : PySem.W.nsIn K mainGlobals "_law_deep" = some (some (.ref f9)))
    (l9 : K.lookup f9 = some ⟨oc9, od9, .func (PySem.W.fnOf "_law_deep" "_law_deep" (defArgs s_law_deep) (defBody s_law_deep) (defScope s_law_deep) .none kV9 dc9 pm9 an9 cd9 ct9), sl9⟩)
    (c9 : PySem.W.codeIn K cd9 "_law_deep" = true)
    (k9 : PySem.W.keepIn K (.ref f9) = true)
    (a10 : PySem.W.nsIn K mainGlobals "_law_draw" = some (some (.ref f10)))
    (l10 : K.lookup f10 = some ⟨oc10, od10, .func (PySem.W.fnOf "_law_draw" "_law_draw" (defArgs s_law_draw) (defBody s_law_draw) (defScope s_law_draw) .none kV10 dc10 pm10 an10 cd10 ct10), sl10⟩)
    (c10 : PySem.W.codeIn K cd10 "_law_draw" = true)
    (k10 : PySem.W.keepIn K (.ref f10) = true)
    (a11 : PySem.W.nsIn K mainGlobals "_law_power" = some (some (.ref f11)))
    (l11 : K.lookup f11 = some ⟨oc11, od11, .func (PySem.W.fnOf "_law_power" "_law_power" (defArgs s_law_power) (defBody s_law_power) (defScope s_law_power) .none kV11 dc11 pm11 an11 cd11 ct11), sl11⟩)
    (c11 : PySem.W.codeIn K cd11 "_law_power" = true)
    (k11 : PySem.W.keepIn K (.ref f11) = true)
    (a12 : PySem.W.nsIn K mainGlobals "_law_row_of" = some (some (.ref f12)))
    (l12 : K.lookup f12 = some ⟨oc12, od12, .func (PySem.W.fnOf "_law_row_of" "_law_row_of" (defArgs s_law_row_of) (defBody s_law_row_of) (defScope s_law_row_of) .none kV12 dc12 pm12 an12 cd12 ct12), sl12⟩)
    (c12 : PySem.W.codeIn K cd12 "_law_row_of" = true)
    (k12 : PySem.W.keepIn K (.ref f12) = true)
    (a13 : PySem.W.nsIn K mainGlobals "_law_signs" = some (some (.ref f13)))
    (l13 : K.lookup f13 = some ⟨oc13, od13, .func (PySem.W.fnOf "_law_signs" "_law_signs" (defArgs s_law_signs) (defBody s_law_signs) (defScope s_law_signs) .none kV13 dc13 pm13 an13 cd13 ct13), sl13⟩)
    (c13 : PySem.W.codeIn K cd13 "_law_signs" = true)
    (k13 : PySem.W.keepIn K (.ref f13) = true)
    (a14 : PySem.W.nsIn K mainGlobals "_law_book_model" = some (some (.ref f14)))
    (l14 : K.lookup f14 = some ⟨oc14, od14, .func (PySem.W.fnOf "_law_book_model" "_law_book_model" (defArgs s_law_book_model) (defBody s_law_book_model) (defScope s_law_book_model) .none kV14 dc14 pm14 an14 cd14 ct14), sl14⟩)
    (c14 : PySem.W.codeIn K cd14 "_law_book_model" = true)
    (k14 : PySem.W.keepIn K (.ref f14) = true)
    (a15 : PySem.W.nsIn K mainGlobals "_law_drawn_book" = some (some (.ref f15)))
    (l15 : K.lookup f15 = some ⟨oc15, od15, .func (PySem.W.fnOf "_law_drawn_book" "_law_drawn_book" (defArgs s_law_drawn_book) (defBody s_law_drawn_book) (defScope s_law_drawn_book) .none kV15 dc15 pm15 an15 cd15 ct15), sl15⟩)
    (c15 : PySem.W.codeIn K cd15 "_law_drawn_book" = true)
    (k15 : PySem.W.keepIn K (.ref f15) = true)
    (a16 : PySem.W.nsIn K mainGlobals "_law_pool" = some (some (.ref f16)))
    (l16 : K.lookup f16 = some ⟨oc16, od16, .func (PySem.W.fnOf "_law_pool" "_law_pool" (defArgs s_law_pool) (defBody s_law_pool) (defScope s_law_pool) .none kV16 dc16 pm16 an16 cd16 ct16), sl16⟩)
    (c16 : PySem.W.codeIn K cd16 "_law_pool" = true)
    (k16 : PySem.W.keepIn K (.ref f16) = true)
    (a17 : PySem.W.findIn K (.ref C_Book) "all_marks" = some (some (.ref f17)))
    (i17 : PySem.W.isFn K (.ref f17) = true)
    (l17 : K.lookup f17 = some ⟨oc17, od17, .func (PySem.W.fnOf "all_marks" "Book.all_marks" (defArgs s_Book_all_marks) (defBody s_Book_all_marks) (defScope s_Book_all_marks) .none kV17 dc17 pm17 an17 cd17 ct17), sl17⟩)
    (c17 : PySem.W.codeIn K cd17 "Book.all_marks" = true)
    (k17 : PySem.W.keepIn K (.ref f17) = true)
    (a18 : PySem.W.findIn K (.ref C_Book) "pattern" = some (some (.ref f18)))
    (i18 : PySem.W.isFn K (.ref f18) = true)
    (l18 : K.lookup f18 = some ⟨oc18, od18, .func (PySem.W.fnOf "pattern" "Book.pattern" (defArgs s_Book_pattern) (defBody s_Book_pattern) (defScope s_Book_pattern) .none kV18 dc18 pm18 an18 cd18 ct18), sl18⟩)
    (c18 : PySem.W.codeIn K cd18 "Book.pattern" = true)
    (k18 : PySem.W.keepIn K (.ref f18) = true)
    (a19 : PySem.W.nsIn K mainGlobals "check_row" = some (some (.ref f19)))
    (l19 : K.lookup f19 = some ⟨oc19, od19, .func (PySem.W.fnOf "check_row" "check_row" (defArgs s_check_row) (defBody s_check_row) (defScope s_check_row) .none kV19 dc19 pm19 an19 cd19 ct19), sl19⟩)
    (c19 : PySem.W.codeIn K cd19 "check_row" = true)
    (k19 : PySem.W.keepIn K (.ref f19) = true)
    (a20 : PySem.W.nsIn K mainGlobals "apart" = some (some (.ref f20)))
    (l20 : K.lookup f20 = some ⟨oc20, od20, .func (PySem.W.fnOf "apart" "apart" (defArgs s_apart) (defBody s_apart) (defScope s_apart) .none kV20 dc20 pm20 an20 cd20 ct20), sl20⟩)
    (c20 : PySem.W.codeIn K cd20 "apart" = true)
    (k20 : PySem.W.keepIn K (.ref f20) = true)
    (a21 : PySem.W.nsIn K mainGlobals "nearest" = some (some (.ref f21)))
    (l21 : K.lookup f21 = some ⟨oc21, od21, .func (PySem.W.fnOf "nearest" "nearest" (defArgs s_nearest) (defBody s_nearest) (defScope s_nearest) .none kV21 dc21 pm21 an21 cd21 ct21), sl21⟩)
    (c21 : PySem.W.codeIn K cd21 "nearest" = true)
    (k21 : PySem.W.keepIn K (.ref f21) = true)
    (a22 : PySem.W.nsIn K mainGlobals "_law_refused" = some (some (.ref f22)))
    (l22 : K.lookup f22 = some ⟨oc22, od22, .func (PySem.W.fnOf "_law_refused" "_law_refused" (defArgs s_law_refused) (defBody s_law_refused) (defScope s_law_refused) .none kV22 dc22 pm22 an22 cd22 ct22), sl22⟩)
    (c22 : PySem.W.codeIn K cd22 "_law_refused" = true)
    (k22 : PySem.W.keepIn K (.ref f22) = true)
    (a23 : PySem.W.nsIn K mainGlobals "_law_row" = some (some (.ref f23)))
    (l23 : K.lookup f23 = some ⟨oc23, od23, .func (PySem.W.fnOf "_law_row" "_law_row" (defArgs s_law_row) (defBody s_law_row) (defScope s_law_row) .none kV23 dc23 pm23 an23 cd23 ct23), sl23⟩)
    (c23 : PySem.W.codeIn K cd23 "_law_row" = true)
    (k23 : PySem.W.keepIn K (.ref f23) = true)
    (a24 : PySem.W.nsIn K mainGlobals "_law_same" = some (some (.ref f24)))
    (l24 : K.lookup f24 = some ⟨oc24, od24, .func (PySem.W.fnOf "_law_same" "_law_same" (defArgs s_law_same) (defBody s_law_same) (defScope s_law_same) .none kV24 dc24 pm24 an24 cd24 ct24), sl24⟩)
    (c24 : PySem.W.codeIn K cd24 "_law_same" = true)
    (k24 : PySem.W.keepIn K (.ref f24) = true)
    (a25 : PySem.W.nsIn K mainGlobals "least_apart" = some (some (.ref f25)))
    (l25 : K.lookup f25 = some ⟨oc25, od25, .func (PySem.W.fnOf "least_apart" "least_apart" (defArgs s_least_apart) (defBody s_least_apart) (defScope s_least_apart) .none kV25 dc25 pm25 an25 cd25 ct25), sl25⟩)
    (c25 : PySem.W.codeIn K cd25 "least_apart" = true)
    (k25 : PySem.W.keepIn K (.ref f25) = true)
    (a26 : PySem.W.nsIn K mainGlobals "law" = some (some (.ref f26)))
    (l26 : K.lookup f26 = some ⟨oc26, od26, .func (PySem.W.fnOf "law" "law" (defArgs s_law) (defBody s_law) (defScope s_law) .none kV26 dc26 pm26 an26 cd26 ct26), sl26⟩)
    (c26 : PySem.W.codeIn K cd26 "law" = true)
    (k26 : PySem.W.keepIn K (.ref f26) = true)
    (z_all : PySem.W.nsIn K mainGlobals "all" = some none)
    (z_bool : PySem.W.nsIn K mainGlobals "bool" = some none)
    (z_dict : PySem.W.nsIn K mainGlobals "dict" = some none)
    (z_enumerate : PySem.W.nsIn K mainGlobals "enumerate" = some none)
    (z_int : PySem.W.nsIn K mainGlobals "int" = some none)
    (z_isinstance : PySem.W.nsIn K mainGlobals "isinstance" = some none)
    (z_len : PySem.W.nsIn K mainGlobals "len" = some none)
    (z_list : PySem.W.nsIn K mainGlobals "list" = some none)
    (z_max : PySem.W.nsIn K mainGlobals "max" = some none)
    (z_min : PySem.W.nsIn K mainGlobals "min" = some none)
    (z_range : PySem.W.nsIn K mainGlobals "range" = some none)
    (z_set : PySem.W.nsIn K mainGlobals "set" = some none)
    (z_sorted : PySem.W.nsIn K mainGlobals "sorted" = some none)
    (z_str : PySem.W.nsIn K mainGlobals "str" = some none)
    (z_tuple : PySem.W.nsIn K mainGlobals "tuple" = some none)
    (z_zip : PySem.W.nsIn K mainGlobals "zip" = some none)
    (q_MOST_SIGNS : PySem.W.nsIn K mainGlobals "MOST_SIGNS" = some (some (.int 10 t_MOST_SIGNS)))
    (q_SIGNS : PySem.W.nsIn K mainGlobals "SIGNS" = some (some (.str "0123456789abcdefghijklmnopqrstuvwxyz" t_SIGNS)))
    (q_START : PySem.W.nsIn K mainGlobals "START" = some (some (.str "start" t_START)))
    (q_STOP : PySem.W.nsIn K mainGlobals "STOP" = some (some (.str "stop" t_STOP)))
    (q_WIDEST_BLOCK : PySem.W.nsIn K mainGlobals "WIDEST_BLOCK" = some (some (.int 6 t_WIDEST_BLOCK)))
    (pg_Book : PySem.W.plainGet K C_Book Str.empty = true)
    (d_Book : PySem.W.hasDictIn K C_Book = true)
    (po_Book : PySem.W.plainOver K C_Book = true)
    (sa_Book : PySem.W.findIn K (.ref C_Book) "__setattr__" = some (some (.builtin "object.__setattr__")))
    (ha_Book : PySem.W.findIn K (.ref C_Book) "__class__" = some (some (.builtin "object.__class__")))
    (mo_Book : PySem.W.mroIn K C_Book (.type "object") = some true)
    (ic_Book : PySem.W.isClsIn K C_Book = true)
    (y_Book : PySem.W.typeIn K (.ref C_Book) = some (.type "type"))
    (mk_Book : PySem.W.makesIn K C_Book = true)
    (kc_Book : PySem.W.keepIn K (.ref C_Book) = true)
    (nt_Book_int : PySem.W.mroIn K C_Book (.type "int") = some false)
    (nt_Book_bool : PySem.W.mroIn K C_Book (.type "bool") = some false)
    (nt_Book_str : PySem.W.mroIn K C_Book (.type "str") = some false)
    (nt_Book_tuple : PySem.W.mroIn K C_Book (.type "tuple") = some false)
    (nt_Book_list : PySem.W.mroIn K C_Book (.type "list") = some false)
    (nt_Book_dict : PySem.W.mroIn K C_Book (.type "dict") = some false)
    (nt_Book_NoneType : PySem.W.mroIn K C_Book (.type "NoneType") = some false)
    (nf_Book__rows : PySem.W.findIn K (.ref C_Book) "_rows" = some none)
    (nf_Book_signs : PySem.W.findIn K (.ref C_Book) "signs" = some none)
    (nf_Book_start : PySem.W.findIn K (.ref C_Book) "start" = some none)
    (nf_Book_stop : PySem.W.findIn K (.ref C_Book) "stop" = some none)
    (nf_Book_width : PySem.W.findIn K (.ref C_Book) "width" = some none)
    (ocn : PySem.W.specialIn K (.builtin "object.__class__") "__get__" = some (some (.builtin "getset_descriptor.__get__")))
    (oct : PySem.W.takesIn K (.builtin "object.__class__") = some true)
    (e_BadBook : PySem.W.subIn K (.ref C_BadBook) (.type "BaseException") = some true)
    (y_BadBook : PySem.W.typeIn K (.ref C_BadBook) = some (.type "type"))
    (d_BadBook : PySem.W.hasDictIn K C_BadBook = true)
    (e_LabelError : PySem.W.subIn K (.ref C_LabelError) (.type "BaseException") = some true)
    (y_LabelError : PySem.W.typeIn K (.ref C_LabelError) = some (.type "type"))
    (d_LabelError : PySem.W.hasDictIn K C_LabelError = true)
    (e_BadRow : PySem.W.subIn K (.ref C_BadRow) (.type "BaseException") = some true)
    (y_BadRow : PySem.W.typeIn K (.ref C_BadRow) = some (.type "type"))
    (d_BadRow : PySem.W.hasDictIn K C_BadRow = true)
    (e_NoSign : PySem.W.subIn K (.ref C_NoSign) (.type "BaseException") = some true)
    (y_NoSign : PySem.W.typeIn K (.ref C_NoSign) = some (.type "type"))
    (d_NoSign : PySem.W.hasDictIn K C_NoSign = true)
    (x_BadBook : K.lookup C_BadBook = some (excClassObj nm_BadBook qn_BadBook C_BadBook N_BadBook bs_BadBook [.ref C_LabelError, .type "ValueError", .type "Exception", .type "BaseException", .type "object"] true sn_BadBook sub_BadBook ab_BadBook col_BadBook dd_BadBook m0_BadBook m1_BadBook m2_BadBook m3_BadBook m5_BadBook "ValueError.__new__"))
    (sa_BadBook : PySem.W.findIn K (.ref C_BadBook) "__setattr__" = some (some (.builtin "object.__setattr__")))
    (kC_BadBook : PySem.W.keepIn K (.ref C_BadBook) = true)
    (nb_BadBook_part : PySem.W.findIn K (.ref C_BadBook) "part" = some none)
    (ia_BadBook : PySem.W.findIn K (.ref C_BadBook) "__init__" = some (some (.ref fi_BadBook)))
    (it_BadBook : PySem.W.typeIn K (.ref fi_BadBook) = some (.type "function"))
    (il_BadBook : K.lookup fi_BadBook = some ⟨oci_BadBook, odi_BadBook, .func (PySem.W.fnOf "__init__" "BadBook.__init__" (defArgs s_init_BadBook) (defBody s_init_BadBook) (defScope s_init_BadBook) .none kVi_BadBook dci_BadBook pmi_BadBook ani_BadBook cdi_BadBook cti_BadBook), sli_BadBook⟩)
    (ic_BadBook : PySem.W.codeIn K cdi_BadBook "BadBook.__init__" = true)
    (ik_BadBook : PySem.W.keepIn K (.ref fi_BadBook) = true)
    (x_BadRow : K.lookup C_BadRow = some (excClassObj nm_BadRow qn_BadRow C_BadRow N_BadRow bs_BadRow [.ref C_LabelError, .type "ValueError", .type "Exception", .type "BaseException", .type "object"] true sn_BadRow sub_BadRow ab_BadRow col_BadRow dd_BadRow m0_BadRow m1_BadRow m2_BadRow m3_BadRow m5_BadRow "ValueError.__new__"))
    (sa_BadRow : PySem.W.findIn K (.ref C_BadRow) "__setattr__" = some (some (.builtin "object.__setattr__")))
    (kC_BadRow : PySem.W.keepIn K (.ref C_BadRow) = true)
    (nb_BadRow_part : PySem.W.findIn K (.ref C_BadRow) "part" = some none)
    (ia_BadRow : PySem.W.findIn K (.ref C_BadRow) "__init__" = some (some (.ref fi_BadRow)))
    (it_BadRow : PySem.W.typeIn K (.ref fi_BadRow) = some (.type "function"))
    (il_BadRow : K.lookup fi_BadRow = some ⟨oci_BadRow, odi_BadRow, .func (PySem.W.fnOf "__init__" "BadRow.__init__" (defArgs s_init_BadRow) (defBody s_init_BadRow) (defScope s_init_BadRow) .none kVi_BadRow dci_BadRow pmi_BadRow ani_BadRow cdi_BadRow cti_BadRow), sli_BadRow⟩)
    (ic_BadRow : PySem.W.codeIn K cdi_BadRow "BadRow.__init__" = true)
    (ik_BadRow : PySem.W.keepIn K (.ref fi_BadRow) = true)
    (x_NoSign : K.lookup C_NoSign = some (excClassObj nm_NoSign qn_NoSign C_NoSign N_NoSign bs_NoSign [.ref C_LabelError, .type "ValueError", .type "Exception", .type "BaseException", .type "object"] true sn_NoSign sub_NoSign ab_NoSign col_NoSign dd_NoSign m0_NoSign m1_NoSign m2_NoSign m3_NoSign m5_NoSign "ValueError.__new__"))
    (sa_NoSign : PySem.W.findIn K (.ref C_NoSign) "__setattr__" = some (some (.builtin "object.__setattr__")))
    (kC_NoSign : PySem.W.keepIn K (.ref C_NoSign) = true)
    (nb_NoSign_sign : PySem.W.findIn K (.ref C_NoSign) "sign" = some none)
    (ia_NoSign : PySem.W.findIn K (.ref C_NoSign) "__init__" = some (some (.ref fi_NoSign)))
    (it_NoSign : PySem.W.typeIn K (.ref fi_NoSign) = some (.type "function"))
    (il_NoSign : K.lookup fi_NoSign = some ⟨oci_NoSign, odi_NoSign, .func (PySem.W.fnOf "__init__" "NoSign.__init__" (defArgs s_init_NoSign) (defBody s_init_NoSign) (defScope s_init_NoSign) .none kVi_NoSign dci_NoSign pmi_NoSign ani_NoSign cdi_NoSign cti_NoSign), sli_NoSign⟩)
    (ic_NoSign : PySem.W.codeIn K cdi_NoSign "NoSign.__init__" = true)
    (ik_NoSign : PySem.W.keepIn K (.ref fi_NoSign) = true)
    (ga_BadRow : PySem.W.findIn K (.ref C_BadRow) "__getattribute__" = some (some (.builtin "BaseException.__getattribute__")))
    (gg_BadRow : PySem.W.findIn K (.ref C_BadRow) "__getattr__" = some none)
    (p_BadBook_BadRow : PySem.W.subIn K (.ref C_BadBook) (.ref C_BadRow) = some false)
    (p_BadBook_LabelError : PySem.W.subIn K (.ref C_BadBook) (.ref C_LabelError) = some true)
    (p_BadRow_BadRow : PySem.W.subIn K (.ref C_BadRow) (.ref C_BadRow) = some true)
    (p_BadRow_LabelError : PySem.W.subIn K (.ref C_BadRow) (.ref C_LabelError) = some true)
    (p_NoSign_BadRow : PySem.W.subIn K (.ref C_NoSign) (.ref C_BadRow) = some false)
    (p_NoSign_LabelError : PySem.W.subIn K (.ref C_NoSign) (.ref C_LabelError) = some true)
    : ∃ fd : FuncData, (∀ (s : Shared) (v : Value), BindsTo s fd ⟨[v], []⟩ [("_law_script", v)]) ∧ ∀ base : Heap, K.In base → base.Ns mainGlobals mg → FnOk l.prog w K mg base (L2.CX l.prog w) 8 fa fd ["_law_script"] (spLaw K) := by
  have e := hfa.symm.trans (PySem.W.mg_of X G a26)
  cases e
  have gg_BadBook_ := PySem.W.mg_of X G g_BadBook
  have gg_LabelError_ := PySem.W.mg_of X G g_LabelError
  have gg_BadRow_ := PySem.W.mg_of X G g_BadRow
  have gg_NoSign_ := PySem.W.mg_of X G g_NoSign
  have gg_Book_ := PySem.W.mg_of X G g_Book
  have xt : ExTOk K mg exT := exT_ok gg_BadBook_ gg_LabelError_ gg_BadRow_ gg_NoSign_ (PySem.W.exm_ref e_BadRow d_BadRow y_BadRow p_BadBook_BadRow) (PySem.W.exm_ref e_LabelError d_LabelError y_LabelError p_BadBook_LabelError) (PySem.W.exm_ref e_BadRow d_BadRow y_BadRow p_BadRow_BadRow) (PySem.W.exm_ref e_LabelError d_LabelError y_LabelError p_BadRow_LabelError) (PySem.W.exm_ref e_BadRow d_BadRow y_BadRow p_NoSign_BadRow) (PySem.W.exm_ref e_LabelError d_LabelError y_LabelError p_NoSign_LabelError)
  have T : ∀ base : Heap, Txt l.prog w K mg base C_BadBook C_LabelError C_BadRow C_NoSign C_Book := fun base =>
    { n_all := PySem.W.mg_none_of X G z_all,
      n_bool := PySem.W.mg_none_of X G z_bool,
      n_dict := PySem.W.mg_none_of X G z_dict,
      n_enumerate := PySem.W.mg_none_of X G z_enumerate,
      n_int := PySem.W.mg_none_of X G z_int,
      n_isinstance := PySem.W.mg_none_of X G z_isinstance,
      n_len := PySem.W.mg_none_of X G z_len,
      n_list := PySem.W.mg_none_of X G z_list,
      n_max := PySem.W.mg_none_of X G z_max,
      n_min := PySem.W.mg_none_of X G z_min,
      n_range := PySem.W.mg_none_of X G z_range,
      n_set := PySem.W.mg_none_of X G z_set,
      n_sorted := PySem.W.mg_none_of X G z_sorted,
      n_str := PySem.W.mg_none_of X G z_str,
      n_tuple := PySem.W.mg_none_of X G z_tuple,
      n_zip := PySem.W.mg_none_of X G z_zip,
      c_MOST_SIGNS := ⟨_, PySem.W.mg_of X G q_MOST_SIGNS⟩,
      c_SIGNS := ⟨_, PySem.W.mg_of X G q_SIGNS⟩,
      c_START := ⟨_, PySem.W.mg_of X G q_START⟩,
      c_STOP := ⟨_, PySem.W.mg_of X G q_STOP⟩,
      c_WIDEST_BLOCK := ⟨_, PySem.W.mg_of X G q_WIDEST_BLOCK⟩,
      g_BadBook := gg_BadBook_,
      g_LabelError := gg_LabelError_,
      g_BadRow := gg_BadRow_,
      g_NoSign := gg_NoSign_,
      g_Book := gg_Book_,
      k_Book := ⟨⟨pg_Book, d_Book, po_Book, sa_Book⟩, ha_Book, ocn, oct, mo_Book, ic_Book, y_Book⟩,
      nt_Book := noTy_of nt_Book_int nt_Book_bool nt_Book_str nt_Book_tuple nt_Book_list nt_Book_dict nt_Book_NoneType,
      nf_Book__rows := nf_Book__rows,
      nf_Book_signs := nf_Book_signs,
      nf_Book_start := nf_Book_start,
      nf_Book_stop := nf_Book_stop,
      nf_Book_width := nf_Book_width,
      E_BadBook := ⟨⟨_, _, _, _, ⟨⟨_, _, _, _, _, _, _, _, _, _, _, _, _, _, _, x_BadBook, rfl⟩, sa_BadBook, e_BadBook, y_BadBook, kC_BadBook⟩, ia_BadBook, it_BadBook, init1 (fun_mk (st := s_init_BadBook) il_BadBook ic_BadBook ik_BadBook) ⟨rfl, rfl, rfl, by decide +kernel, rfl, by decide +kernel, by decide +kernel⟩ rfl ⟨⟨_, _, _, _, _, _, _, _, _, _, _, _, _, _, _, x_BadBook, rfl⟩, sa_BadBook, e_BadBook, y_BadBook, kC_BadBook⟩ nb_BadBook_part (by decide) (by decide), (fun_mk (st := s_init_BadBook) il_BadBook ic_BadBook ik_BadBook).binds (fun _ _ _ _ _ _ us hl => match us, hl with | [_, _], _ => rfl), gg_BadBook_⟩⟩,
      E_BadRow := ⟨⟨_, _, _, _, ⟨⟨_, _, _, _, _, _, _, _, _, _, _, _, _, _, _, x_BadRow, rfl⟩, sa_BadRow, e_BadRow, y_BadRow, kC_BadRow⟩, ia_BadRow, it_BadRow, init1 (fun_mk (st := s_init_BadRow) il_BadRow ic_BadRow ik_BadRow) ⟨rfl, rfl, rfl, by decide +kernel, rfl, by decide +kernel, by decide +kernel⟩ rfl ⟨⟨_, _, _, _, _, _, _, _, _, _, _, _, _, _, _, x_BadRow, rfl⟩, sa_BadRow, e_BadRow, y_BadRow, kC_BadRow⟩ nb_BadRow_part (by decide) (by decide), (fun_mk (st := s_init_BadRow) il_BadRow ic_BadRow ik_BadRow).binds (fun _ _ _ _ _ _ us hl => match us, hl with | [_, _], _ => rfl), gg_BadRow_⟩⟩,
      E_NoSign := ⟨⟨_, _, _, _, ⟨⟨_, _, _, _, _, _, _, _, _, _, _, _, _, _, _, x_NoSign, rfl⟩, sa_NoSign, e_NoSign, y_NoSign, kC_NoSign⟩, ia_NoSign, it_NoSign, init1 (fun_mk (st := s_init_NoSign) il_NoSign ic_NoSign ik_NoSign) ⟨rfl, rfl, rfl, by decide +kernel, rfl, by decide +kernel, by decide +kernel⟩ rfl ⟨⟨_, _, _, _, _, _, _, _, _, _, _, _, _, _, _, x_NoSign, rfl⟩, sa_NoSign, e_NoSign, y_NoSign, kC_NoSign⟩ nb_NoSign_sign (by decide) (by decide), (fun_mk (st := s_init_NoSign) il_NoSign ic_NoSign ik_NoSign).binds (fun _ _ _ _ _ _ us hl => match us, hl with | [_, _], _ => rfl), gg_NoSign_⟩⟩,
      xf_BadRow := ⟨ga_BadRow, gg_BadRow, e_BadRow, d_BadRow⟩,
      xn_BadRow_part := nb_BadRow_part,
      ext := xt }
  have I0 := fun base => I_is_integer (T base) (fun_mk (st := s_is_integer) l0 c0 k0) (PySem.W.mg_of X G a0) ((fun_mk (st := s_is_integer) l0 c0 k0).binds (ps := ["value"]) fun _ _ _ _ _ _ us hl => match us, hl with | [_], _ => rfl)
  have I1 := fun base => I_is_between (T base) (I0 base) (fun_mk (st := s_is_between) l1 c1 k1) (PySem.W.mg_of X G a1) ((fun_mk (st := s_is_between) l1 c1 k1).binds (ps := ["value", "low", "high"]) fun _ _ _ _ _ _ us hl => match us, hl with | [_, _, _], _ => rfl)
  have I2 := fun base => I_is_row (T base) (I1 base) (fun_mk (st := s_is_row) l2 c2 k2) (PySem.W.mg_of X G a2) ((fun_mk (st := s_is_row) l2 c2 k2).binds (ps := ["thing"]) fun _ _ _ _ _ _ us hl => match us, hl with | [_], _ => rfl)
  have I3 := fun base => I_is_sign (T base) (fun_mk (st := s_is_sign) l3 c3 k3) (PySem.W.mg_of X G a3) ((fun_mk (st := s_is_sign) l3 c3 k3).binds (ps := ["value"]) fun _ _ _ _ _ _ us hl => match us, hl with | [_], _ => rfl)
  have I4 := fun base => I_are_patterns (T base) (I2 base) (I3 base) (fun_mk (st := s_are_patterns) l4 c4 k4) (PySem.W.mg_of X G a4) ((fun_mk (st := s_are_patterns) l4 c4 k4).binds (ps := ["value"]) fun _ _ _ _ _ _ us hl => match us, hl with | [_], _ => rfl)
  have I5 := fun base => I_is_row_of (T base) (I2 base) (fun_mk (st := s_is_row_of) l5 c5 k5) (PySem.W.mg_of X G a5) ((fun_mk (st := s_is_row_of) l5 c5 k5).binds (ps := ["thing", "width"]) fun _ _ _ _ _ _ us hl => match us, hl with | [_, _], _ => rfl)
  have I6 := fun base => MK_Book (T base) (I4 base) (I5 base) (fun_mk (st := s_Book___init__) l6 c6 k6) ⟨mk_Book, a6, i6, kc_Book⟩ ((fun_mk (st := s_Book___init__) l6 c6 k6).binds (ps := ["self", "patterns", "start", "stop"]) fun _ _ _ _ _ _ us hl => match us, hl with | [_, _, _, _], _ => rfl)
  have I7 := fun base => I_law_book (T base) (I6 base) (fun_mk (st := s_law_book) l7 c7 k7) (PySem.W.mg_of X G a7) ((fun_mk (st := s_law_book) l7 c7 k7).binds (ps := ["_law_model"]) fun _ _ _ _ _ _ us hl => match us, hl with | [_], _ => rfl)
  have I8 := fun base => I_law_count (T base) (fun_mk (st := s_law_count) l8 c8 k8) (PySem.W.mg_of X G a8) ((fun_mk (st := s_law_count) l8 c8 k8).binds (ps := ["_law_one", "_law_other"]) fun _ _ _ _ _ _ us hl => match us, hl with | [_, _], _ => rfl)
  have I9 := fun base => I_law_deep (T base) (fun_mk (st := s_law_deep) l9 c9 k9) (PySem.W.mg_of X G a9) ((fun_mk (st := s_law_deep) l9 c9 k9).binds (ps := []) fun _ _ _ _ _ _ us hl => match us, hl with | [], _ => rfl)
  have I10 := fun base => I_law_draw (T base) (fun_mk (st := s_law_draw) l10 c10 k10) (PySem.W.mg_of X G a10) ((fun_mk (st := s_law_draw) l10 c10 k10).binds (ps := ["_law_pool_here", "_law_many"]) fun _ _ _ _ _ _ us hl => match us, hl with | [_, _], _ => rfl)
  have I11 := fun base => I_law_power (T base) (fun_mk (st := s_law_power) l11 c11 k11) (PySem.W.mg_of X G a11) ((fun_mk (st := s_law_power) l11 c11 k11).binds (ps := ["_law_many"]) fun _ _ _ _ _ _ us hl => match us, hl with | [_], _ => rfl)
  have I12 := fun base => I_law_row_of (T base) (fun_mk (st := s_law_row_of) l12 c12 k12) (PySem.W.mg_of X G a12) ((fun_mk (st := s_law_row_of) l12 c12 k12).binds (ps := ["_law_number", "_law_width"]) fun _ _ _ _ _ _ us hl => match us, hl with | [_, _], _ => rfl)
  have I13 := fun base => I_law_signs (T base) (I10 base) (fun_mk (st := s_law_signs) l13 c13 k13) (PySem.W.mg_of X G a13) ((fun_mk (st := s_law_signs) l13 c13 k13).binds (ps := ["_law_pool_here", "_law_many"]) fun _ _ _ _ _ _ us hl => match us, hl with | [_, _], _ => rfl)
  have I14 := fun base => I_law_book_model (T base) (I10 base) (I11 base) (I12 base) (I13 base) (fun_mk (st := s_law_book_model) l14 c14 k14) (PySem.W.mg_of X G a14) ((fun_mk (st := s_law_book_model) l14 c14 k14).binds (ps := ["_law_pool_here", "_law_width", "_law_many"]) fun _ _ _ _ _ _ us hl => match us, hl with | [_, _, _], _ => rfl)
  have I15 := fun base => I_law_drawn_book (T base) (I14 base) (I10 base) (fun_mk (st := s_law_drawn_book) l15 c15 k15) (PySem.W.mg_of X G a15) ((fun_mk (st := s_law_drawn_book) l15 c15 k15).binds (ps := ["_law_pool_here"]) fun _ _ _ _ _ _ us hl => match us, hl with | [_], _ => rfl)
  have I16 := fun base => I_law_pool (T base) (fun_mk (st := s_law_pool) l16 c16 k16) (PySem.W.mg_of X G a16) ((fun_mk (st := s_law_pool) l16 c16 k16).binds (ps := ["_law_script"]) fun _ _ _ _ _ _ us hl => match us, hl with | [_], _ => rfl)
  have I17 := fun base => ME_Book_all_marks (T base) (fun_mk (st := s_Book_all_marks) l17 c17 k17) a17 i17 ((fun_mk (st := s_Book_all_marks) l17 c17 k17).binds (ps := ["self"]) fun _ _ _ _ _ _ us hl => match us, hl with | [_], _ => rfl)
  have I18 := fun base => ME_Book_pattern (T base) (fun_mk (st := s_Book_pattern) l18 c18 k18) a18 i18 ((fun_mk (st := s_Book_pattern) l18 c18 k18).binds (ps := ["self", "mark"]) fun _ _ _ _ _ _ us hl => match us, hl with | [_, _], _ => rfl)
  have I19 := fun base => I_check_row (T base) (I2 base) (fun_mk (st := s_check_row) l19 c19 k19) (PySem.W.mg_of X G a19) ((fun_mk (st := s_check_row) l19 c19 k19).binds (ps := ["row", "part"]) fun _ _ _ _ _ _ us hl => match us, hl with | [_, _], _ => rfl)
  have I20 := fun base => I_apart (T base) (I19 base) (fun_mk (st := s_apart) l20 c20 k20) (PySem.W.mg_of X G a20) ((fun_mk (st := s_apart) l20 c20 k20).binds (ps := ["one", "other"]) fun _ _ _ _ _ _ us hl => match us, hl with | [_, _], _ => rfl)
  have I21 := fun base => I_nearest (T base) (I17 base) (I18 base) (I20 base) (I5 base) (fun_mk (st := s_nearest) l21 c21 k21) (PySem.W.mg_of X G a21) ((fun_mk (st := s_nearest) l21 c21 k21).binds (ps := ["book", "row"]) fun _ _ _ _ _ _ us hl => match us, hl with | [_, _], _ => rfl)
  have I22 := fun base => I_law_refused (T base) (I21 base) (fun_mk (st := s_law_refused) l22 c22 k22) (PySem.W.mg_of X G a22) ((fun_mk (st := s_law_refused) l22 c22 k22).binds (ps := ["_law_book_here", "_law_row_here"]) fun _ _ _ _ _ _ us hl => match us, hl with | [_, _], _ => rfl)
  have I23 := fun base => I_law_row (T base) (I10 base) (fun_mk (st := s_law_row) l23 c23 k23) (PySem.W.mg_of X G a23) ((fun_mk (st := s_law_row) l23 c23 k23).binds (ps := ["_law_pool_here", "_law_length"]) fun _ _ _ _ _ _ us hl => match us, hl with | [_, _], _ => rfl)
  have I24 := fun base => I_law_same (T base) (fun_mk (st := s_law_same) l24 c24 k24) (PySem.W.mg_of X G a24) ((fun_mk (st := s_law_same) l24 c24 k24).binds (ps := ["_law_actual", "_law_due"]) fun _ _ _ _ _ _ us hl => match us, hl with | [_, _], _ => rfl) 6
  have I25 := fun base => I_least_apart (T base) (I17 base) (I18 base) (I20 base) (fun_mk (st := s_least_apart) l25 c25 k25) (PySem.W.mg_of X G a25) ((fun_mk (st := s_least_apart) l25 c25 k25).binds (ps := ["book"]) fun _ _ _ _ _ _ us hl => match us, hl with | [_], _ => rfl)
  exact ⟨_, fun s v => .of_eq rfl, fun base _ _ => FnOk.imp (ok_law (T base) (I7 base) (I8 base) (I9 base) (I10 base) (I15 base) (I16 base) (I22 base) (I23 base) (I12 base) (I24 base) (I25 base) (I21 base) (fun_mk (st := s_law) l26 c26 k26)) (sp_law law_true)⟩
end SL
open PySem PySem.W PyProof.Rows
set_option maxRecDepth 100000 in
set_option maxHeartbeats 0 in
theorem PySem.Challenge.cw_surelabels_k06_patterns_apart_holds : PySem.Challenge.rw_surelabels_k06_patterns_apart.Holds := by
  w_on; o_law; k_head; (case hw => w_witness2)
  k_fill
  refine L2.walk_ofB (l := PySem.Challenge.rw_surelabels_k06_patterns_apart) (n := 63) (k := 8) (x := "_law_script") (CX := fun w => L2.CX (PySem.Challenge.rw_surelabels_k06_patterns_apart).prog w) (sp := fun w => SL.spLaw _) rfl (by decide) rfl ⟨rfl, by decide, by decide⟩ (fun w h Y => PySem.W.kIn_of Y) ?F (fun w H a ns h1 h2 _ hS => ⟨a, ns, rfl, hS, h1, h2, fun _ => rfl⟩) SL.cx_no
  case F =>
    intro w mg fa h KX G hmg
    refine' SL.all_mk KX G hmg ?g_Book ?g_BadBook ?g_LabelError ?g_BadRow ?g_NoSign ?a0 ?l0 ?c0 ?k0 ?a1 ?l1 ?c1 ?k1 ?a2 ?l2 ?c2 ?k2 ?a3 ?l3 ?c3 ?k3 ?a4 ?l4 ?c4 ?k4 ?a5 ?l5 ?c5 ?k5 ?a6 ?i6 ?l6 ?c6 ?k6 ?a7 ?l7 ?c7 ?k7 ?a8 ?l8 ?c8 ?k8 ?a9 ?l9 ?c9 ?k9 ?a10 ?l10 ?c10 ?k10 ?a11 ?l11 ?c11 ?k11 ?a12 ?l12 ?c12 ?k12 ?a13 ?l13 ?c13 ?k13 ?a14 ?l14 ?c14 ?k14 ?a15 ?l15 ?c15 ?k15 ?a16 ?l16 ?c16 ?k16 ?a17 ?i17 ?l17 ?c17 ?k17 ?a18 ?i18 ?l18 ?c18 ?k18 ?a19 ?l19 ?c19 ?k19 ?a20 ?l20 ?c20 ?k20 ?a21 ?l21 ?c21 ?k21 ?a22 ?l22 ?c22 ?k22 ?a23 ?l23 ?c23 ?k23 ?a24 ?l24 ?c24 ?k24 ?a25 ?l25 ?c25 ?k25 ?a26 ?l26 ?c26 ?k26 ?z_all ?z_bool ?z_dict ?z_enumerate ?z_int ?z_isinstance ?z_len ?z_list ?z_max ?z_min ?z_range ?z_set ?z_sorted ?z_str ?z_tuple ?z_zip ?q_MOST_SIGNS ?q_SIGNS ?q_START ?q_STOP ?q_WIDEST_BLOCK ?pg_Book ?d_Book ?po_Book ?sa_Book ?ha_Book ?mo_Book ?ic_Book ?y_Book ?mk_Book ?kc_Book ?nt_Book_int ?nt_Book_bool ?nt_Book_str ?nt_Book_tuple ?nt_Book_list ?nt_Book_dict ?nt_Book_NoneType ?nf_Book__rows ?nf_Book_signs ?nf_Book_start ?nf_Book_stop ?nf_Book_width ?ocn ?oct ?e_BadBook ?y_BadBook ?d_BadBook ?e_LabelError ?y_LabelError ?d_LabelError ?e_BadRow ?y_BadRow ?d_BadRow ?e_NoSign ?y_NoSign ?d_NoSign ?x_BadBook ?sa_BadBook ?kC_BadBook ?nb_BadBook_part ?ia_BadBook ?it_BadBook ?il_BadBook ?ic_BadBook ?ik_BadBook ?x_BadRow ?sa_BadRow ?kC_BadRow ?nb_BadRow_part ?ia_BadRow ?it_BadRow ?il_BadRow ?ic_BadRow ?ik_BadRow ?x_NoSign ?sa_NoSign ?kC_NoSign ?nb_NoSign_sign ?ia_NoSign ?it_NoSign ?il_NoSign ?ic_NoSign ?ik_NoSign ?ga_BadRow ?gg_BadRow ?p_BadBook_BadRow ?p_BadBook_LabelError ?p_BadRow_BadRow ?p_BadRow_LabelError ?p_NoSign_BadRow ?p_NoSign_LabelError
    (case g_Book => k_is)
    (case g_BadBook => k_is)
    (case g_LabelError => k_is)
    (case g_BadRow => k_is)
    (case g_NoSign => k_is)
    (case a0 => k_is)
    (case l0 => k_is)
    (case c0 => k_is)
    (case k0 => k_is)
    (case a1 => k_is)
    (case l1 => k_is)
    (case c1 => k_is)
    (case k1 => k_is)
    (case a2 => k_is)
    (case l2 => k_is)
    (case c2 => k_is)
    (case k2 => k_is)
    (case a3 => k_is)
    (case l3 => k_is)
    (case c3 => k_is)
    (case k3 => k_is)
    (case a4 => k_is)
    (case l4 => k_is)
    (case c4 => k_is)
    (case k4 => k_is)
    (case a5 => k_is)
    (case l5 => k_is)
    (case c5 => k_is)
    (case k5 => k_is)
    (case a6 => k_is)
    (case i6 => k_is)
    (case l6 => k_is)
    (case c6 => k_is)
    (case k6 => k_is)
    (case a7 => k_is)
    (case l7 => k_is)
    (case c7 => k_is)
    (case k7 => k_is)
    (case a8 => k_is)
    (case l8 => k_is)
    (case c8 => k_is)
    (case k8 => k_is)
    (case a9 => k_is)
    (case l9 => k_is)
    (case c9 => k_is)
    (case k9 => k_is)
    (case a10 => k_is)
    (case l10 => k_is)
    (case c10 => k_is)
    (case k10 => k_is)
    (case a11 => k_is)
    (case l11 => k_is)
    (case c11 => k_is)
    (case k11 => k_is)
    (case a12 => k_is)
    (case l12 => k_is)
    (case c12 => k_is)
    (case k12 => k_is)
    (case a13 => k_is)
    (case l13 => k_is)
    (case c13 => k_is)
    (case k13 => k_is)
    (case a14 => k_is)
    (case l14 => k_is)
    (case c14 => k_is)
    (case k14 => k_is)
    (case a15 => k_is)
    (case l15 => k_is)
    (case c15 => k_is)
    (case k15 => k_is)
    (case a16 => k_is)
    (case l16 => k_is)
    (case c16 => k_is)
    (case k16 => k_is)
    (case a17 => k_is)
    (case i17 => k_is)
    (case l17 => k_is)
    (case c17 => k_is)
    (case k17 => k_is)
    (case a18 => k_is)
    (case i18 => k_is)
    (case l18 => k_is)
    (case c18 => k_is)
    (case k18 => k_is)
    (case a19 => k_is)
    (case l19 => k_is)
    (case c19 => k_is)
    (case k19 => k_is)
    (case a20 => k_is)
    (case l20 => k_is)
    (case c20 => k_is)
    (case k20 => k_is)
    (case a21 => k_is)
    (case l21 => k_is)
    (case c21 => k_is)
    (case k21 => k_is)
    (case a22 => k_is)
    (case l22 => k_is)
    (case c22 => k_is)
    (case k22 => k_is)
    (case a23 => k_is)
    (case l23 => k_is)
    (case c23 => k_is)
    (case k23 => k_is)
    (case a24 => k_is)
    (case l24 => k_is)
    (case c24 => k_is)
    (case k24 => k_is)
    (case a25 => k_is)
    (case l25 => k_is)
    (case c25 => k_is)
    (case k25 => k_is)
    (case a26 => k_is)
    (case l26 => k_is)
    (case c26 => k_is)
    (case k26 => k_is)
    (case z_all => k_is)
    (case z_bool => k_is)
    (case z_dict => k_is)
    (case z_enumerate => k_is)
    (case z_int => k_is)
    (case z_isinstance => k_is)
    (case z_len => k_is)
    (case z_list => k_is)
    (case z_max => k_is)
    (case z_min => k_is)
    (case z_range => k_is)
    (case z_set => k_is)
    (case z_sorted => k_is)
    (case z_str => k_is)
    (case z_tuple => k_is)
    (case z_zip => k_is)
    (case q_MOST_SIGNS => k_is)
    (case q_SIGNS => k_is)
    (case q_START => k_is)
    (case q_STOP => k_is)
    (case q_WIDEST_BLOCK => k_is)
    (case pg_Book => k_is)
    (case d_Book => k_is)
    (case po_Book => k_is)
    (case sa_Book => k_is)
    (case ha_Book => k_is)
    (case mo_Book => k_is)
    (case ic_Book => k_is)
    (case y_Book => k_is)
    (case mk_Book => k_is)
    (case kc_Book => k_is)
    (case nt_Book_int => k_is)
    (case nt_Book_bool => k_is)
    (case nt_Book_str => k_is)
    (case nt_Book_tuple => k_is)
    (case nt_Book_list => k_is)
    (case nt_Book_dict => k_is)
    (case nt_Book_NoneType => k_is)
    (case nf_Book__rows => k_is)
    (case nf_Book_signs => k_is)
    (case nf_Book_start => k_is)
    (case nf_Book_stop => k_is)
    (case nf_Book_width => k_is)
    (case ocn => k_is)
    (case oct => k_is)
    (case e_BadBook => k_is)
    (case y_BadBook => k_is)
    (case d_BadBook => k_is)
    (case e_LabelError => k_is)
    (case y_LabelError => k_is)
    (case d_LabelError => k_is)
    (case e_BadRow => k_is)
    (case y_BadRow => k_is)
    (case d_BadRow => k_is)
    (case e_NoSign => k_is)
    (case y_NoSign => k_is)
    (case d_NoSign => k_is)
    (case x_BadBook => k_is)
    (case sa_BadBook => k_is)
    (case kC_BadBook => k_is)
    (case nb_BadBook_part => k_is)
    (case ia_BadBook => k_is)
    (case it_BadBook => k_is)
    (case il_BadBook => k_is)
    (case ic_BadBook => k_is)
    (case ik_BadBook => k_is)
    (case x_BadRow => k_is)
    (case sa_BadRow => k_is)
    (case kC_BadRow => k_is)
    (case nb_BadRow_part => k_is)
    (case ia_BadRow => k_is)
    (case it_BadRow => k_is)
    (case il_BadRow => k_is)
    (case ic_BadRow => k_is)
    (case ik_BadRow => k_is)
    (case x_NoSign => k_is)
    (case sa_NoSign => k_is)
    (case kC_NoSign => k_is)
    (case nb_NoSign_sign => k_is)
    (case ia_NoSign => k_is)
    (case it_NoSign => k_is)
    (case il_NoSign => k_is)
    (case ic_NoSign => k_is)
    (case ik_NoSign => k_is)
    (case ga_BadRow => k_is)
    (case gg_BadRow => k_is)
    (case p_BadBook_BadRow => k_is)
    (case p_BadBook_LabelError => k_is)
    (case p_BadRow_BadRow => k_is)
    (case p_BadRow_LabelError => k_is)
    (case p_NoSign_BadRow => k_is)
    (case p_NoSign_LabelError => k_is)
