import PyProof.Rows.All
import Wide.All
import OpenK.AllK
import Wide.FinOn
import PyProof.EqAt
import PyProof.EqKinds
import PyProof.TupleCall
import HandS.ForMost
import HandS.ForExc
import HandS.TryMany
import HandS.CallSlots
import HandS.Wide
import HandS.EndBits
import HandS.ExcInit
import HandS.IsInst
import HandS.TupAny
import HandS.Rev
import HandS.TupMul
import HandS.Conv
import HandS.Style
import HandS.More
import HandS.ExcField
import HandS.ExcIs
import HandS.OwnEq
import HandS.Codes
import HandS.TupSets
import HandS.SortOrd
import HandS.SortRule
import PyProof.WalksMore
import PyProof.SumWalkG
import HandS.SortInts
import PyProof.Rows.SortShell
import HandS.NoneIn
import PyProof.EnumMake
import HandS.Small
import HandS.Iter
import PyProof.DictFindH
import PyProof.DictTable
import HandS.Strs
import HandS.Deep
import PyProof.ListStr
import HandS.Defaults
import HandS.SortKw
import PyProof.Rows.SortKeyStr
import PyProof.ExcBaseAll.ValueError
import HandS.Zip
import HandS.TupLe
import HandS.SetFor
import PyProof.FString5
import PyProof.StrBlock2
import HandS.ListItems
import HandS.DeepEq
import HandS.Finally
import HandS.Property
import KE.KExcIs
import KE.KDictCopyH
import HandS.TupLen
import HandS.DictComp
import KE.DatumOrd
import KE.KDictKeyed
import HandS.DictTup
import PySem.Challenge.RW_surelabels_k36_readers_told
set_option Elab.async false
set_option linter.all false
set_option maxRecDepth 100000
set_option maxHeartbeats 4000000
/-! # Values without addresses, and what stands for them in the heap -/
namespace SL
open PySem PySem.Spec PyProof.Rows L2

/-- a value of a running def: data, or the k-th cell of the store (an object that may change) -/
inductive W where
  | non | bl (b : Bool) | int (i : Int) | str (x : Str)
  | tup (xs : List W) | lst (xs : List W) | dct (ks vs : List W)
  | ins (c : Str) (ns : List Str) (vs : List W)
  | cell (k : Nat)
  /-- a list that is locked (the script); a built-in class; an own class -/
  | ro (xs : List W) | ty (n : String) | cls (c : Str)
  /-- a tuple that is known to be plain -/
  | tpn (xs : List W)
  deriving Inhabited

inductive Cel where
  | lst (ws : List W) | dct (ks vs : List W) | ins (c : Str) (ns : List Str) (ws : List W) | frz (w : W)
def Cel.live : Cel → Bool
  | .frz _ => false
  | _ => true
abbrev Sto := List Cel
abbrev Fr := List (Option W)

/-- an exception: its class and its fields -/
structure Exc where
  c : Str
  ns : List Str
  vs : List W

inductive Out (α : Type) where
  | ok (a : α) (st : Sto) | err (x : Exc) (st : Sto) | bad
abbrev Sem := Fr → Sto → Out W
abbrev SemL := Fr → Sto → Out (List W)
abbrev SemB := Fr → Sto → Out Bool
abbrev Fn := List W → Sto → Out W
def Out.bind {α β : Type} (o : Out α) (f : α → Sto → Out β) : Out β := match o with
  | .ok a st => f a st
  | .err x st => .err x st
  | .bad => .bad
@[simp] theorem Out.bind_ok {α β : Type} (a : α) (st : Sto) (f : α → Sto → Out β) : (Out.ok a st).bind f = f a st := rfl
@[simp] theorem Out.bind_err {α β : Type} (x : Exc) (st : Sto) (f : α → Sto → Out β) : (Out.err x st).bind f = .err x st := rfl
@[simp] theorem Out.bind_bad {α β : Type} (f : α → Sto → Out β) : (Out.bad).bind f = .bad := rfl

/-! ## what stands for a value -/
def keyW : W → Option Key
  | .int i => some (.inl i)
  | .str x => some (.inr x)
  | _ => none
def keysW : List W → Option (List Key)
  | [] => some []
  | w :: r => match keyW w, keysW r with
    | some k, some ks => some (k :: ks)
    | _, _ => none
def keyT : W → Option (List Key)
  | .tup ws => keysW ws
  | _ => none
def mapO {α β : Type} (f : α → Option β) : List α → Option (List β)
  | [] => some []
  | a :: r => match f a, mapO f r with
    | some b, some bs => some (b :: bs)
    | _, _ => none
/-- how the keys of a dict are told: "L": it is locked (walked); "T": its keys are tuples; "TL": both -/
def kindW : List W → Option (Bool × (List Key ⊕ List (List Key)))
  | .ty t :: ks => if t = "L" then (mapO keyW ks).map fun kk => (true, .inl kk) else if t = "T" then (mapO keyT ks).map fun kk => (false, .inr kk) else if t = "TL" then (mapO keyT ks).map fun kk => (true, .inr kk) else none
  | ks => (mapO keyW ks).map fun kk => (false, .inl kk)
def dObj : (List Key ⊕ List (List Key)) → List V → HO
  | .inl kk, vs => .dK (kk.zip vs)
  | .inr kk, vs => .dT (kk.zip vs)
def dLen : (List Key ⊕ List (List Key)) → Nat
  | .inl kk => kk.length
  | .inr kk => kk.length
/-- a dict of these keys and values stands at a -/
def DctAt (F : Hp) (a : Addr) (ks : List W) (vs : List V) : Prop := ∃ l q, kindW ks = some (l, q) ∧ dLen q = vs.length ∧ Rd F a (dObj q vs) ∧ (l = false → ∀ kk, q = .inr kk → F a = some (.dT (kk.zip vs)))

/-- a tuple: tracked -/
def TupAt (K : PySem.W.Frag) (F : Hp) (a : Addr) (xs : List V) : Prop :=
  F a = some (.tup xs)
/-- a plain tuple, known to the object -/
def TpnAt (F : Hp) (a : Addr) (xs : List V) : Prop := ∃ o : Obj, o.dict = none ∧ F a = some (.frz o (.tup xs))
theorem TpnAt.sq {K : PySem.W.Frag} {F : Hp} {a : Addr} {xs : List V} (h : TpnAt F a xs) : SqT K F a xs := let ⟨o, _, e⟩ := h; .inl (.inr ⟨o, e⟩)
theorem TupAt.sq {K : PySem.W.Frag} {F : Hp} {a : Addr} {xs : List V} (h : TupAt K F a xs) : SqT K F a xs := .inl (.inl h)

section
variable (K : PySem.W.Frag) (mg : Str → Option Value) (F : Hp) (μ : List Addr)
mutual
def Rep : W → V → Prop
  | .non, v => v = .non
  | .bl b, v => v = .bl b
  | .int i, v => v = .int i
  | .str x, v => v = .str x
  | .tup ws, v => ∃ a vs, v = .ref a ∧ TupAt K F a vs ∧ Reps ws vs
  | .lst ws, v => ∃ a vs, v = .ref a ∧ F a = some (.lst vs) ∧ Reps ws vs
  | .ro ws, v => ∃ a vs, v = .ref a ∧ SqL K F a vs ∧ Reps ws vs
  | .tpn ws, v => ∃ a vs, v = .ref a ∧ TpnAt F a vs ∧ Reps ws vs
  | .ty n, v => v = .ty n
  | .cls c, v => ∃ C, mg c = some (.ref C) ∧ v = .ref C
  | .dct ks ws, v => ∃ a vs, v = .ref a ∧ DctAt F a ks vs ∧ Reps ws vs
  | .ins c ns ws, v => ∃ a C dx vs, v = .ref a ∧ mg c = some (.ref C) ∧ ns.length = vs.length ∧ F a = some (.ins C dx (ns.zip vs)) ∧ Reps ws vs
  | .cell k, v => ∃ a, μ[k]? = some a ∧ v = .ref a
def Reps : List W → List V → Prop
  | [], vs => vs = []
  | w :: ws, vs => ∃ v r, vs = v :: r ∧ Rep w v ∧ Reps ws r
end
end

/-- what is never locked -/
def Fix : HO → Prop
  | .dK _ => False
  | .frz _ (.tup _) => True
  | .frz _ _ => False
  | _ => True
/-- what could be read can be read; all but dicts stands as it stood -/
structure Le (F F' : Hp) : Prop where
  rd : ∀ a u, Rd F a u → Rd F' a u
  fix : ∀ a u, Fix u → F a = some u → F' a = some u
theorem Le.refl (F : Hp) : Le F F := ⟨fun _ _ h => h, fun _ _ _ h => h⟩
theorem Le.trans {F F' F'' : Hp} (x : Le F F') (y : Le F' F'') : Le F F'' := ⟨fun a u h => y.rd a u (x.rd a u h), fun a u f h => y.fix a u f (x.fix a u f h)⟩
theorem Le.of {F F' : Hp} (h : ∀ a o, F a = some o → F' a = some o) : Le F F' := by
  refine ⟨fun a u r => ?_, fun a u _ q => h _ _ q⟩
  rcases r with r | ⟨o, r⟩
  · exact .inl (h _ _ r)
  · exact .inr ⟨o, h _ _ r⟩
theorem Le.lst {F F' : Hp} (x : Le F F') {a : Addr} {vs : List V} (h : F a = some (.lst vs)) : F' a = some (.lst vs) := x.fix _ _ trivial h
theorem Le.ins {F F' : Hp} (x : Le F F') {a C dx : Addr} {fs : List (Str × V)} (h : F a = some (.ins C dx fs)) : F' a = some (.ins C dx fs) := x.fix _ _ trivial h
theorem Le.xd {F F' : Hp} (x : Le F F') {a : Addr} {fs : List (Str × V)} (h : F a = some (.xd fs)) : F' a = some (.xd fs) := x.fix _ _ trivial h
theorem TupAt.le {K : PySem.W.Frag} {F F' : Hp} {a : Addr} {xs : List V} (x : Le F F') (h : TupAt K F a xs) : TupAt K F' a xs := x.fix _ _ trivial h
theorem TpnAt.le {F F' : Hp} {a : Addr} {xs : List V} (x : Le F F') (h : TpnAt F a xs) : TpnAt F' a xs := let ⟨o, d, e⟩ := h; ⟨o, d, x.fix _ _ trivial e⟩
theorem SqT.le {K : PySem.W.Frag} {F F' : Hp} {a : Addr} {xs : List V} (x : Le F F') (h : SqT K F a xs) : SqT K F' a xs := by
  rcases h with h | h
  · exact .inl (x.rd _ _ h)
  · exact .inr h
theorem SqL.le {K : PySem.W.Frag} {F F' : Hp} {a : Addr} {xs : List V} (x : Le F F') (h : SqL K F a xs) : SqL K F' a xs := by
  rcases h with h | h
  · exact .inl (x.rd _ _ h)
  · exact .inr h
theorem DctAt.le {F F' : Hp} {a : Addr} {ks : List W} {vs : List V} (x : Le F F') (h : DctAt F a ks vs) : DctAt F' a ks vs := by
  obtain ⟨l, q, h1, h2, h3, h4⟩ := h
  exact ⟨l, q, h1, h2, x.rd _ _ h3, fun e kk eq => x.fix _ _ trivial (h4 e kk eq)⟩

def Pre (μ μ' : List Addr) : Prop := ∃ e, μ' = μ ++ e
theorem Pre.refl (μ : List Addr) : Pre μ μ := ⟨[], by simp⟩
theorem Pre.trans {a b c : List Addr} (x : Pre a b) (y : Pre b c) : Pre a c := by
  obtain ⟨e, rfl⟩ := x
  obtain ⟨f, rfl⟩ := y
  exact ⟨e ++ f, by simp⟩
theorem Pre.get {a b : List Addr} (x : Pre a b) {k : Nat} {p : Addr} (h : a[k]? = some p) : b[k]? = some p := by
  obtain ⟨e, rfl⟩ := x
  have hk : k < a.length := by
    rcases Nat.lt_or_ge k a.length with q | q
    · exact q
    · rw [List.getElem?_eq_none q] at h; cases h
  rw [List.getElem?_append_left hk]
  exact h

section
variable {K : PySem.W.Frag} {mg : Str → Option Value} {F F' : Hp} {μ μ' : List Addr}
mutual
theorem Rep.mono (x : Le F F') (p : Pre μ μ') : ∀ (w : W) (v : V), Rep K mg F μ w v → Rep K mg F' μ' w v
  | .non, v, h => by unfold Rep at h ⊢; exact h
  | .bl b, v, h => by unfold Rep at h ⊢; exact h
  | .int i, v, h => by unfold Rep at h ⊢; exact h
  | .str s, v, h => by unfold Rep at h ⊢; exact h
  | .tup ws, v, h => by
    unfold Rep at h ⊢
    obtain ⟨a, vs, e, s, r⟩ := h
    exact ⟨a, vs, e, s.le x, Reps.mono x p ws vs r⟩
  | .lst ws, v, h => by
    unfold Rep at h ⊢
    obtain ⟨a, vs, e, s, r⟩ := h
    exact ⟨a, vs, e, x.lst s, Reps.mono x p ws vs r⟩
  | .ro ws, v, h => by
    unfold Rep at h ⊢
    obtain ⟨a, vs, e, s, r⟩ := h
    exact ⟨a, vs, e, SqL.le x s, Reps.mono x p ws vs r⟩
  | .tpn ws, v, h => by
    unfold Rep at h ⊢
    obtain ⟨a, vs, e, s, r⟩ := h
    exact ⟨a, vs, e, s.le x, Reps.mono x p ws vs r⟩
  | .ty n, v, h => by unfold Rep at h ⊢; exact h
  | .cls c, v, h => by unfold Rep at h ⊢; exact h
  | .dct ks ws, v, h => by
    unfold Rep at h ⊢
    obtain ⟨a, vs, e, s, r⟩ := h
    exact ⟨a, vs, e, s.le x, Reps.mono x p ws vs r⟩
  | .ins c ns ws, v, h => by
    unfold Rep at h ⊢
    obtain ⟨a, C, dx, vs, e, g, l, s, r⟩ := h
    exact ⟨a, C, dx, vs, e, g, l, x.ins s, Reps.mono x p ws vs r⟩
  | .cell k, v, h => by
    unfold Rep at h ⊢
    obtain ⟨a, g, e⟩ := h
    exact ⟨a, p.get g, e⟩
theorem Reps.mono (x : Le F F') (p : Pre μ μ') : ∀ (ws : List W) (vs : List V), Reps K mg F μ ws vs → Reps K mg F' μ' ws vs
  | [], vs, h => by unfold Reps at h ⊢; exact h
  | w :: ws, vs, h => by
    unfold Reps at h ⊢
    obtain ⟨v, r, e, h1, h2⟩ := h
    exact ⟨v, r, e, Rep.mono x p w v h1, Reps.mono x p ws r h2⟩
end
theorem Reps.length : ∀ {ws : List W} {vs : List V}, Reps K mg F μ ws vs → ws.length = vs.length
  | [], vs, h => by unfold Reps at h; subst h; rfl
  | w :: ws, vs, h => by
    unfold Reps at h
    obtain ⟨v, r, rfl, _, h2⟩ := h
    simp [Reps.length h2]
theorem Reps.nil_iff {vs : List V} : Reps K mg F μ [] vs ↔ vs = [] := by unfold Reps; exact Iff.rfl
theorem Reps.nil : Reps K mg F μ [] [] := by unfold Reps; rfl
theorem Reps.cons {w : W} {ws : List W} {v : V} {vs : List V} (h : Rep K mg F μ w v) (r : Reps K mg F μ ws vs) : Reps K mg F μ (w :: ws) (v :: vs) := by
  unfold Reps; exact ⟨v, vs, rfl, h, r⟩
theorem Reps.cons_inv {w : W} {ws : List W} {vs : List V} (h : Reps K mg F μ (w :: ws) vs) : ∃ v r, vs = v :: r ∧ Rep K mg F μ w v ∧ Reps K mg F μ ws r := by
  unfold Reps at h; exact h
theorem Reps.get : ∀ {ws : List W} {vs : List V} {i : Nat} {w : W}, Reps K mg F μ ws vs → ws[i]? = some w → ∃ v, vs[i]? = some v ∧ Rep K mg F μ w v
  | [], _, _, _, _, e => by simp at e
  | w0 :: ws, vs, 0, w, h, e => by
    obtain ⟨v, r, rfl, h1, _⟩ := h.cons_inv
    simp at e; subst e; exact ⟨v, rfl, h1⟩
  | w0 :: ws, vs, i + 1, w, h, e => by
    obtain ⟨v, r, rfl, _, h2⟩ := h.cons_inv
    obtain ⟨v', e1, e2⟩ := Reps.get (i := i) h2 (by simpa using e)
    exact ⟨v', by simpa using e1, e2⟩
theorem Reps.get' : ∀ {ws : List W} {vs : List V} {i : Nat} {v : V}, Reps K mg F μ ws vs → vs[i]? = some v → ∃ w, ws[i]? = some w ∧ Rep K mg F μ w v := fun {ws vs i v} h e => by
  have hl := h.length
  have hi : i < vs.length := by
    rcases Nat.lt_or_ge i vs.length with q | q
    · exact q
    · rw [List.getElem?_eq_none q] at e; cases e
  have hw : ws[i]? = some (ws[i]'(by omega)) := by simp
  obtain ⟨v', e1, e2⟩ := h.get hw
  rw [e] at e1; cases e1
  exact ⟨_, hw, e2⟩
theorem Reps.append : ∀ {ws us : List W} {vs xs : List V}, Reps K mg F μ ws vs → Reps K mg F μ us xs → Reps K mg F μ (ws ++ us) (vs ++ xs)
  | [], us, vs, xs, h, r => by rw [Reps.nil_iff] at h; subst h; exact r
  | w :: ws, us, vs, xs, h, r => by
    obtain ⟨v, t, rfl, h1, h2⟩ := h.cons_inv
    exact .cons h1 (h2.append r)
theorem Reps.set : ∀ {ws : List W} {vs : List V} {w : W} {v : V} (i : Nat), Reps K mg F μ ws vs → Rep K mg F μ w v → Reps K mg F μ (ws.set i w) (vs.set i v)
  | [], vs, _, _, _, h, _ => by rw [Reps.nil_iff] at h; subst h; exact .nil
  | w0 :: ws, vs, _, _, 0, h, r => by
    obtain ⟨v, t, rfl, h1, h2⟩ := h.cons_inv
    exact .cons r h2
  | w0 :: ws, vs, _, _, i + 1, h, r => by
    obtain ⟨v, t, rfl, h1, h2⟩ := h.cons_inv
    exact .cons h1 (h2.set i r)
theorem Reps.take : ∀ {ws : List W} {vs : List V} (n : Nat), Reps K mg F μ ws vs → Reps K mg F μ (ws.take n) (vs.take n)
  | ws, vs, 0, h => by simp; exact .nil
  | [], vs, n + 1, h => by rw [Reps.nil_iff] at h; subst h; exact .nil
  | w :: ws, vs, n + 1, h => by
    obtain ⟨v, t, rfl, h1, h2⟩ := h.cons_inv
    exact .cons h1 (h2.take n)
theorem Reps.drop : ∀ {ws : List W} {vs : List V} (n : Nat), Reps K mg F μ ws vs → Reps K mg F μ (ws.drop n) (vs.drop n)
  | ws, vs, 0, h => h
  | [], vs, n + 1, h => by rw [Reps.nil_iff] at h; subst h; exact .nil
  | w :: ws, vs, n + 1, h => by
    obtain ⟨v, t, rfl, h1, h2⟩ := h.cons_inv
    exact h2.drop n
theorem Reps.reverse : ∀ {ws : List W} {vs : List V}, Reps K mg F μ ws vs → Reps K mg F μ ws.reverse vs.reverse
  | [], vs, h => by rw [Reps.nil_iff] at h; subst h; exact .nil
  | w :: ws, vs, h => by
    obtain ⟨v, t, rfl, h1, h2⟩ := h.cons_inv
    rw [List.reverse_cons, List.reverse_cons]
    exact h2.reverse.append (.cons h1 .nil)
theorem Reps.of_get {ws : List W} {vs : List V} (hl : ws.length = vs.length) (h : ∀ (i : Nat) w v, ws[i]? = some w → vs[i]? = some v → Rep K mg F μ w v) : Reps K mg F μ ws vs := by
  induction ws generalizing vs with
  | nil => cases vs with
    | nil => exact .nil
    | cons => simp at hl
  | cons w ws ih => cases vs with
    | nil => simp at hl
    | cons v vs => exact .cons (h 0 w v rfl rfl) (ih (by simpa using hl) fun i w v a b => h (i + 1) w v (by simpa using a) (by simpa using b))
end

/-! ## the store -/
def LiveA (μ : List Addr) (st : Sto) (hid : List Addr) (a : Addr) : Prop := a ∈ hid ∨ ∃ (k : Nat) (c : Cel), μ[k]? = some a ∧ st[k]? = some c ∧ c.live = true
open Classical in
/-- what no cell of the store holds: read, never changed -/
noncomputable def Fz (μ : List Addr) (st : Sto) (hid : List Addr) (H : Hp) : Hp := fun a => if LiveA μ st hid a then none else H a
theorem Fz.sub {μ : List Addr} {st : Sto} {hid : List Addr} {H : Hp} {a : Addr} {o : HO} (h : Fz μ st hid H a = some o) : H a = some o ∧ ¬ LiveA μ st hid a := by
  unfold Fz at h
  split at h
  · cases h
  · rename_i n; exact ⟨h, n⟩
theorem Fz.mk {μ : List Addr} {st : Sto} {hid : List Addr} {H : Hp} {a : Addr} {o : HO} (h : H a = some o) (n : ¬ LiveA μ st hid a) : Fz μ st hid H a = some o := by
  unfold Fz
  rw [if_neg n]; exact h
theorem Fz.le {μ : List Addr} {st : Sto} {hid : List Addr} {H : Hp} : Le (Fz μ st hid H) H := Le.of fun _ _ h => (Fz.sub h).1

/-- a dict that may be changed -/
def DctM (H : Hp) (a : Addr) (ks : List W) (vs : List V) : Prop := ∃ l q, kindW ks = some (l, q) ∧ dLen q = vs.length ∧ (if l = true then ∃ o, H a = some (.frz o (dObj q vs)) else H a = some (dObj q vs))
theorem DctM.rd {H : Hp} {a : Addr} {ks : List W} {vs : List V} (h : DctM H a ks vs) : DctAt H a ks vs := by
  obtain ⟨l, q, h1, h2, h3⟩ := h
  refine ⟨l, q, h1, h2, ?_⟩
  cases l with
  | true => exact ⟨.inr h3, fun e => nomatch e⟩
  | false => exact ⟨.inl h3, fun _ kk e => by subst e; exact h3⟩
theorem DctM.at {H F : Hp} {a : Addr} {ks : List W} {vs : List V} (h : DctM H a ks vs) (e : F a = H a) : DctAt F a ks vs := by
  obtain ⟨l, q, h1, h2, h3, h4⟩ := h.rd
  refine ⟨l, q, h1, h2, ?_⟩
  unfold Rd at h3 ⊢
  rw [e]; exact ⟨h3, h4⟩
theorem DctM.some {H : Hp} {a : Addr} {ks : List W} {vs : List V} (h : DctM H a ks vs) : ∃ o, H a = .some o := by
  obtain ⟨l, q, h1, h2, h3⟩ := h
  cases l with
  | true => obtain ⟨o, h3⟩ := h3; exact ⟨_, h3⟩
  | false => exact ⟨_, h3⟩
theorem DctM.of_eq {H H' : Hp} {a : Addr} {ks : List W} {vs : List V} (h : DctM H a ks vs) (e : H' a = H a) : DctM H' a ks vs := by
  obtain ⟨l, q, h1, h2, h3⟩ := h
  exact ⟨l, q, h1, h2, by rw [e]; exact h3⟩

section
variable (K : PySem.W.Frag) (mg : Str → Option Value)
def CelOk (F : Hp) (μ : List Addr) (H : Hp) (a : Addr) : Cel → Prop
  | .lst ws => ∃ vs, H a = some (.lst vs) ∧ Reps K mg F μ ws vs
  | .dct ks ws => ∃ vs, DctM H a ks vs ∧ Reps K mg F μ ws vs
  | .ins c ns ws => ∃ C dx vs, mg c = some (.ref C) ∧ ns.length = vs.length ∧ H a = some (.ins C dx (ns.zip vs)) ∧ Reps K mg F μ ws vs
  | .frz w => Rep K mg F μ w (.ref a)
structure StOk (μ : List Addr) (st : Sto) (hid : List Addr) (H : Hp) : Prop where
  len : μ.length = st.length
  inj : ∀ (j k : Nat) (a : Addr) (c d : Cel), μ[j]? = some a → μ[k]? = some a → st[j]? = some c → st[k]? = some d → c.live = true → d.live = true → j = k
  hidn : ∀ (k : Nat) (a : Addr) (c : Cel), μ[k]? = some a → st[k]? = some c → c.live = true → a ∉ hid
  hidt : ∀ a ∈ hid, H a ≠ none ∧ ∀ vs, H a ≠ some (.tup vs)
  ok : ∀ (k : Nat) (a : Addr) (c : Cel), μ[k]? = some a → st[k]? = some c → CelOk K mg (Fz μ st hid H) μ H a c
end
/-- what is locked stays as it is -/
def Lk (H H' : Hp) : Prop := ∀ a o u, H a = some (.frz o u) → H' a = some (.frz o u)
theorem Lk.refl (H : Hp) : Lk H H := fun _ _ _ h => h
theorem Lk.trans {H H' H'' : Hp} (x : Lk H H') (y : Lk H' H'') : Lk H H'' := fun a o u h => y a o u (x a o u h)
/-- from one state to a later one: what stands beside the cells stands -/
structure Grow (hid : List Addr) (μ : List Addr) (st : Sto) (H : Hp) (μ' : List Addr) (st' : Sto) (H' : Hp) : Prop where
  pre : Pre μ μ'
  le : Le (Fz μ st hid H) (Fz μ' st' hid H')
  hid : ∀ a ∈ hid, H' a = H a
  lck : Lk H H'
theorem Grow.refl {hid μ : List Addr} {st : Sto} {H : Hp} : Grow hid μ st H μ st H := ⟨.refl _, .refl _, fun _ _ => rfl, fun _ _ _ h => h⟩
theorem Grow.trans {hid μ μ' μ'' : List Addr} {st st' st'' : Sto} {H H' H'' : Hp} (x : Grow hid μ st H μ' st' H') (y : Grow hid μ' st' H' μ'' st'' H'') : Grow hid μ st H μ'' st'' H'' :=
  ⟨x.pre.trans y.pre, x.le.trans y.le, fun a h => (y.hid a h).trans (x.hid a h), fun a o u h => y.lck a o u (x.lck a o u h)⟩

section
variable {K : PySem.W.Frag} {mg : Str → Option Value} {μ μ' : List Addr} {st st' : Sto} {hid : List Addr} {H H' : Hp}
theorem CelOk.there {F : Hp} {a : Addr} {c : Cel} (h : CelOk K mg F μ H a c) (l : c.live = true) : ∃ o, H a = some o := by
  cases c with
  | lst ws => obtain ⟨vs, h, _⟩ := h; exact ⟨_, h⟩
  | dct ks ws => obtain ⟨vs, h, _⟩ := h; exact h.some
  | ins c ns ws => obtain ⟨C, dx, vs, _, _, h, _⟩ := h; exact ⟨_, h⟩
  | frz w => cases l
theorem StOk.liveT (s : StOk K mg μ st hid H) {a : Addr} (h : LiveA μ st hid a) : H a ≠ none := by
  rcases h with h | ⟨k, c, h1, h2, h3⟩
  · exact (s.hidt a h).1
  · obtain ⟨o, e⟩ := (s.ok k a c h1 h2).there h3
    rw [e]; exact fun z => nomatch z
theorem StOk.notLive (s : StOk K mg μ st hid H) {a : Addr} (h : H a = none) : ¬ LiveA μ st hid a := fun z => s.liveT z h
/-- a new object beside the cells -/
theorem StOk.laid (s : StOk K mg μ st hid H) {p : Addr} {o : HO} (hp : H p = none) : StOk K mg μ st hid (upd H p o) ∧ Grow hid μ st H μ st (upd H p o) ∧ Fz μ st hid (upd H p o) p = some o := by
  have nl := s.notLive hp
  have hne : ∀ a, LiveA μ st hid a → a ≠ p := fun a h e => nl (e ▸ h)
  have le : Le (Fz μ st hid H) (Fz μ st hid (upd H p o)) := Le.of fun a u h => by
    obtain ⟨h1, h2⟩ := Fz.sub h
    exact Fz.mk (by rw [upd_ne (ne_of_none h1 hp)]; exact h1) h2
  refine ⟨⟨s.len, s.inj, s.hidn, fun a h => ?_, fun k a c h1 h2 => ?_⟩, ⟨.refl _, le, fun a h => ?_, fun a o u h => by rw [upd_ne (ne_of_none h hp)]; exact h⟩, Fz.mk upd_same nl⟩
  · rw [upd_ne (hne a (Or.inl h))]; exact s.hidt a h
  · have q := s.ok k a c h1 h2
    cases c with
    | lst ws =>
      obtain ⟨vs, e, r⟩ := q
      exact ⟨vs, by rw [upd_ne (ne_of_none e hp)]; exact e, r.mono le (.refl _)⟩
    | dct ks ws =>
      obtain ⟨vs, e, r⟩ := q
      exact ⟨vs, e.of_eq (upd_ne (hne a (Or.inr ⟨k, _, h1, h2, rfl⟩))), r.mono le (.refl _)⟩
    | ins c ns ws =>
      obtain ⟨C, dx, vs, g, l, e, r⟩ := q
      exact ⟨C, dx, vs, g, l, by rw [upd_ne (ne_of_none e hp)]; exact e, r.mono le (.refl _)⟩
    | frz w => exact Rep.mono le (.refl _) _ _ q
  · rw [upd_ne (hne a (Or.inl h))]
end

/-! ## a body's state -/
/-- what is wished of an exception, and what is known besides (of a caught one) -/
structure Wish where
  w : WX
  /-- slots that stay as they are -/
  lock : List Nat
  y : L2.St → Hp → List Addr → Prop
  mono : ∀ σ F F' μ μ', Le F F' → Pre μ μ' → y σ F μ → y σ F' μ'
  slot : ∀ σ σ' F μ, (∀ i ∈ lock, σ'[i]? = σ[i]?) → y σ F μ → y σ' F μ
def Wish.of (w : WX) : Wish := ⟨w, [], fun _ _ _ => True, fun _ _ _ _ _ _ _ _ => trivial, fun _ _ _ _ _ _ => trivial⟩
structure SI (K : PySem.W.Frag) (mg : Str → Option Value) (Wx : Wish) (μ : List Addr) (st : Sto) (hid : List Addr) (fr : Fr) (σ : L2.St) (H : Hp) : Prop where
  sto : StOk K mg μ st hid H
  len : fr.length = σ.length
  loc : ∀ (i : Nat) (w : W), fr[i]? = some (some w) → ∃ v, σ[i]? = some (some v) ∧ Rep K mg (Fz μ st hid H) μ w v
  ex : Wx.y σ (Fz μ st hid H) μ
theorem SI.next {Wx : Wish} {K : PySem.W.Frag} {mg : Str → Option Value} {μ μ' : List Addr} {st st' : Sto} {hid : List Addr} {fr : Fr} {σ : L2.St} {H H' : Hp} (s : SI K mg Wx μ st hid fr σ H) (k : StOk K mg μ' st' hid H') (x : Grow hid μ st H μ' st' H') : SI K mg Wx μ' st' hid fr σ H' :=
  ⟨k, s.len, fun i w h => by
    obtain ⟨v, e, r⟩ := s.loc i w h
    exact ⟨v, e, Rep.mono x.le x.pre _ _ r⟩, Wx.mono _ _ _ _ _ x.le x.pre s.ex⟩
theorem SI.set {Wx : Wish} {K : PySem.W.Frag} {mg : Str → Option Value} {μ : List Addr} {st : Sto} {hid : List Addr} {fr : Fr} {σ : L2.St} {H : Hp} (s : SI K mg Wx μ st hid fr σ H) {w : W} {v : V} (i : Nat) (hi : i ∉ Wx.lock) (r : Rep K mg (Fz μ st hid H) μ w v) : SI K mg Wx μ st hid (fr.set i (some w)) (σ.set i (some v)) H :=
  ⟨s.sto, by simpa using s.len, fun j u h => by
    by_cases e : i = j
    · subst e
      have hi : i < fr.length := by
        rcases Nat.lt_or_ge i fr.length with q | q
        · exact q
        · rw [List.set_eq_of_length_le q, List.getElem?_eq_none q] at h; cases h
      rw [List.getElem?_set_self hi] at h
      cases h
      exact ⟨v, by rw [List.getElem?_set_self (by rw [← s.len]; exact hi)], r⟩
    · rw [List.getElem?_set_ne e] at h
      rw [List.getElem?_set_ne e]
      exact s.loc j u h, Wx.slot _ _ _ _ (fun j hj => List.getElem?_set_ne (fun z : i = j => hi (z ▸ hj))) s.ex⟩

/-- an exception's own part -/
def XRep (K : PySem.W.Frag) (mg : Str → Option Value) (F : Hp) (μ : List Addr) (x : Exc) (c : Value) (d : Option Addr) : Prop :=
  ∃ C, mg x.c = some (.ref C) ∧ c = .ref C ∧ (x.ns = [] ∨ ∃ dx vs, d = some dx ∧ x.ns.length = vs.length ∧ F dx = some (.xd (x.ns.zip vs)) ∧ Reps K mg F μ x.vs vs)

section
variable (K : PySem.W.Frag) (mg : Str → Option Value)
/-- what is wanted behind an expression -/
def EPost (Wx : WX) (hid μ : List Addr) (st : Sto) (σ : L2.St) (H : Hp) (Q : VK) : Out W → Prop
  | .ok w st' => ∀ μ' H' v, StOk K mg μ' st' hid H' → Grow hid μ st H μ' st' H' → Rep K mg (Fz μ' st' hid H') μ' w v → Q v H'
  | .err x st' => ∀ μ' H' c d, StOk K mg μ' st' hid H' → Grow hid μ st H μ' st' H' → XRep K mg (Fz μ' st' hid H') μ' x c d → Wx c d σ H'
  | .bad => False
def LPost (Wx : WX) (hid μ : List Addr) (st : Sto) (σ : L2.St) (H : Hp) (Q : List V → Hp → Prop) : Out (List W) → Prop
  | .ok ws st' => ∀ μ' H' vs, StOk K mg μ' st' hid H' → Grow hid μ st H μ' st' H' → Reps K mg (Fz μ' st' hid H') μ' ws vs → Q vs H'
  | .err x st' => ∀ μ' H' c d, StOk K mg μ' st' hid H' → Grow hid μ st H μ' st' H' → XRep K mg (Fz μ' st' hid H') μ' x c d → Wx c d σ H'
  | .bad => False
def BPost (Wx : WX) (hid μ : List Addr) (st : Sto) (σ : L2.St) (H : Hp) (Q : Bool → Hp → Prop) : Out Bool → Prop
  | .ok b st' => ∀ μ' H', StOk K mg μ' st' hid H' → Grow hid μ st H μ' st' H' → Q b H'
  | .err x st' => ∀ μ' H' c d, StOk K mg μ' st' hid H' → Grow hid μ st H μ' st' H' → XRep K mg (Fz μ' st' hid H') μ' x c d → Wx c d σ H'
  | .bad => False
def tE (Wx : Wish) (f : Sem) : TE := fun σ H Q => ∃ μ st hid fr, SI K mg Wx μ st hid fr σ H ∧ EPost K mg Wx.w hid μ st σ H Q (f fr st)
def tA (Wx : Wish) (f : SemL) : TA := fun σ H Q => ∃ μ st hid fr, SI K mg Wx μ st hid fr σ H ∧ LPost K mg Wx.w hid μ st σ H Q (f fr st)
def tB' (Wx : Wish) (f : SemB) : TT := fun σ H Q => ∃ μ st hid fr, SI K mg Wx μ st hid fr σ H ∧ BPost K mg Wx.w hid μ st σ H Q (f fr st)
end
section
variable {K : PySem.W.Frag} {mg : Str → Option Value} {Wx : WX} {hid μ μ' : List Addr} {st st' : Sto} {σ : L2.St} {H H' : Hp}
theorem EPost.from {Q : VK} {o : Out W} (x : Grow hid μ st H μ' st' H') (h : EPost K mg Wx hid μ st σ H Q o) : EPost K mg Wx hid μ' st' σ H' Q o := by
  cases o with
  | ok w s => exact fun μ2 H2 v a b c => h μ2 H2 v a (x.trans b) c
  | err e s => exact fun μ2 H2 c d a b r => h μ2 H2 c d a (x.trans b) r
  | bad => exact h
theorem LPost.from {Q : List V → Hp → Prop} {o : Out (List W)} (x : Grow hid μ st H μ' st' H') (h : LPost K mg Wx hid μ st σ H Q o) : LPost K mg Wx hid μ' st' σ H' Q o := by
  cases o with
  | ok w s => exact fun μ2 H2 v a b c => h μ2 H2 v a (x.trans b) c
  | err e s => exact fun μ2 H2 c d a b r => h μ2 H2 c d a (x.trans b) r
  | bad => exact h
theorem BPost.from {Q : Bool → Hp → Prop} {o : Out Bool} (x : Grow hid μ st H μ' st' H') (h : BPost K mg Wx hid μ st σ H Q o) : BPost K mg Wx hid μ' st' σ H' Q o := by
  cases o with
  | ok w s => exact fun μ2 H2 a b => h μ2 H2 a (x.trans b)
  | err e s => exact fun μ2 H2 c d a b r => h μ2 H2 c d a (x.trans b) r
  | bad => exact h
end
theorem PEm {X : Cx} {e : Expr} {t t' : TE} (h : PE X e t) (i : ∀ σ H Q, t' σ H Q → t σ H Q) : PE X e t' := ⟨fun pins s σ H Q I q => h.run pins s σ H Q I (i σ H Q q)⟩
theorem PTm {X : Cx} {e : Expr} {t t' : TT} (h : PT X e t) (i : ∀ σ H Q, t' σ H Q → t σ H Q) : PT X e t' := ⟨fun pins s σ H Q I q => h.run pins s σ H Q I (i σ H Q q)⟩
theorem PWm {X : Cx} {e : Expr} {t t' : TT} (h : PW X e t) (i : ∀ σ H Q, t' σ H Q → t σ H Q) : PW X e t' := ⟨fun wh pins s σ H Q I q => h.run wh pins s σ H Q I (i σ H Q q)⟩
theorem PAm {X : Cx} {e : List Expr} {t t' : TA} (h : PA X e t) (i : ∀ σ H Q, t' σ H Q → t σ H Q) : PA X e t' := ⟨fun pos pins s σ H Q I q => h.run pos pins s σ H Q I (i σ H Q q)⟩
theorem PSm {X : Cx} {e : Stmt} {t t' : TS} (h : PS X e t) (i : ∀ D σ H, t' D σ H → t D σ H) : PS X e t' := ⟨fun pins s σ H D I q => h.run pins s σ H D I (i D σ H q)⟩
theorem PSsm {X : Cx} {e : List Stmt} {t t' : TS} (h : PSs X e t) (i : ∀ D σ H, t' D σ H → t D σ H) : PSs X e t' := ⟨fun pins s σ H D I q => h.run pins s σ H D I (i D σ H q)⟩

/-- the judgements: Wx is what is wished of an exception -/
abbrev EV (X : Cx) (Wx : Wish) (e : Expr) (f : Sem) : Prop := PE X e (tE X.K X.mg Wx f)
abbrev TV (X : Cx) (Wx : Wish) (e : Expr) (f : SemB) : Prop := PT X e (tB' X.K X.mg Wx f)
abbrev AV (X : Cx) (Wx : Wish) (es : List Expr) (f : SemL) : Prop := PA X es (tA X.K X.mg Wx f)
end SL

namespace SL
open PySem PySem.Spec PyProof.Rows L2
section
variable {X : Cx} {Wx : Wish}

/-! ## names and constants -/
def eVar (i : Nat) : Sem := fun fr st => match fr[i]? with
  | some (some w) => .ok w st
  | _ => .bad
theorem ev_var {i : Nat} {x : Str} {pos : Pos} (hN : X.N[i]? = some x := by rfl) (hv : Vis X.env.scope x := by first | exact Or.inl rfl | exact Or.inr (Or.inl rfl) | exact Or.inr (Or.inr rfl)) (hd : (x == ("__debug__" : Str)) = false := by decide)
    (hcd : (x == ("__classdict__" : Str)) = false := by decide) : EV X Wx (.Name x pos) (eVar i) :=
  PEm (pe_var hN hv hd hcd) fun σ H Q ⟨μ, st, hid, fr, S, P⟩ => by
    unfold eVar at P
    split at P
    · rename_i w h
      obtain ⟨v, e, r⟩ := S.loc i w h
      exact ⟨v, e, P μ H v S.sto .refl r⟩
    · exact P.elim
def eC (w : W) : Sem := fun _ st => .ok w st
theorem ev_c {e : Expr} {w : W} {v : V} (h : PE X e (tC v)) (r : ∀ F μ, Rep X.K X.mg F μ w v) : EV X Wx e (eC w) :=
  PEm h fun σ H Q ⟨μ, st, hid, fr, S, P⟩ => P μ H v S.sto .refl (r _ _)
theorem ev_int {i : Int} {j pos} : EV X Wx (.Constant (.int i) j pos) (eC (.int i)) := ev_c pe_int fun F μ => by unfold Rep; rfl
theorem ev_bl {i : Bool} {j pos} : EV X Wx (.Constant (.bool i) j pos) (eC (.bl i)) := ev_c pe_bl fun F μ => by unfold Rep; rfl
theorem ev_str {i : Str} {j pos} : EV X Wx (.Constant (.str i) j pos) (eC (.str i)) := ev_c pe_str fun F μ => by unfold Rep; rfl
theorem ev_non {j pos} : EV X Wx (.Constant .none j pos) (eC .non) := ev_c pe_non fun F μ => by unfold Rep; rfl
theorem ev_globI {x : Str} {i : Int} {t : Tok} {pos : Pos} (hm : X.mg x = some (.int i t)) (hg : Gl X x := by rfl) (hd : (x == ("__debug__" : Str)) = false := by decide) : EV X Wx (.Name x pos) (eC (.int i)) := ev_c (v := .int i) (pe_glob hg hm ⟨t, rfl⟩ hd) fun F μ => by unfold Rep; rfl
theorem ev_globS {x : Str} {i : Str} {t : Tok} {pos : Pos} (hm : X.mg x = some (.str i t)) (hg : Gl X x := by rfl) (hd : (x == ("__debug__" : Str)) = false := by decide) : EV X Wx (.Name x pos) (eC (.str i)) := ev_c (v := .str i) (pe_glob hg hm ⟨t, rfl⟩ hd) fun F μ => by unfold Rep; rfl

/-! ## operations by values -/
abbrev Op2 := W → W → Sto → Out W
abbrev Op1 := W → Sto → Out W
abbrev OpN := List W → Sto → Out W
def Op2S (X : Cx) (op : Op2) (r : R2) : Prop := ∀ (Wx : WX) (hid μ : List Addr) (st : Sto) (σ : L2.St) (H : Hp) (Q : VK) (w u : W) (x y : V), StOk X.K X.mg μ st hid H → Rep X.K X.mg (Fz μ st hid H) μ w x → Rep X.K X.mg (Fz μ st hid H) μ u y →
  EPost X.K X.mg Wx hid μ st σ H Q (op w u st) → r x y H Q
def e2 (op : Op2) (f g : Sem) : Sem := fun fr st => (f fr st).bind fun w st1 => (g fr st1).bind fun u st2 => op w u st2
theorem e2_read {op : Op2} {r : R2} {f g : Sem} (hs : Op2S X op r) : ∀ σ H Q, tE X.K X.mg Wx (e2 op f g) σ H Q → tOp r (tE X.K X.mg Wx f) (tE X.K X.mg Wx g) σ H Q := fun σ H Q ⟨μ, st, hid, fr, S, P⟩ => by
  refine ⟨μ, st, hid, fr, S, ?_⟩
  unfold e2 at P
  cases h : f fr st with
  | bad => rw [h] at P; exact P
  | err x s => rw [h] at P; exact P
  | ok w st1 =>
    rw [h] at P
    intro μ1 H1 v k1 g1 r1
    refine ⟨μ1, st1, hid, fr, S.next k1 g1, ?_⟩
    have P1 := EPost.from g1 P
    rw [Out.bind_ok] at P1
    cases h2 : g fr st1 with
    | bad => rw [h2] at P1; exact P1
    | err x s => rw [h2] at P1; exact P1
    | ok u st2 =>
      rw [h2] at P1
      intro μ2 H2 y k2 g2 r2
      exact hs Wx.w hid μ2 st2 σ H2 Q w u v y k2 (Rep.mono g2.le g2.pre _ _ r1) r2 (EPost.from g2 P1)
theorem ev_op {op : Operator} {o : Op2} {r : R2} {a b : Expr} {f g : Sem} {pos : Pos} (ho : OpR X (binaryOp op) r) (hs : Op2S X o r) (ha : EV X Wx a f) (hb : EV X Wx b g) : EV X Wx (.BinOp a op b pos) (e2 o f g) :=
  PEm (pe_op ho ha hb) (e2_read hs)
theorem ev_cmp {op : CmpOp} {o : Op2} {r : R2} {a b : Expr} {f g : Sem} {pos : Pos} (ho : OpR X (compareOp op) r) (hs : Op2S X o r) (ha : EV X Wx a f) (hb : EV X Wx b g) (hm : behindInMarks op b = false) : EV X Wx (.Compare a [op] [b] pos) (e2 o f g) :=
  PEm (pe_cmpR ho ha hb hm) (e2_read hs)
theorem ev_ix {o : Op2} {r : R2} {a b : Expr} {f g : Sem} {pos : Pos} (ho : IxR X r) (hs : Op2S X o r) (ha : EV X Wx a f) (hb : EV X Wx b g) (hp : PlainIx b) : EV X Wx (.Subscript a b pos) (e2 o f g) :=
  PEm (pe_ix ho ha hb hp) (e2_read hs)
/-- a value as a test -/
def bOf (f : Sem) : SemB := fun fr st => (f fr st).bind fun w st1 => match w with
  | .bl b => .ok b st1
  | _ => .bad
theorem bOf_read {f : Sem} {t : TE} (ht : ∀ σ H Q, tE X.K X.mg Wx f σ H Q → t σ H Q) : ∀ σ H Q, tB' X.K X.mg Wx (bOf f) σ H Q → tTest t σ H Q := fun σ H Q ⟨μ, st, hid, fr, S, P⟩ => by
  refine ht σ H _ ⟨μ, st, hid, fr, S, ?_⟩
  unfold bOf at P
  cases h : f fr st with
  | bad => rw [h] at P; exact P
  | err x s => rw [h] at P; exact P
  | ok w st1 =>
    rw [h, Out.bind_ok] at P
    intro μ1 H1 v k1 g1 r1
    cases w with
    | bl b =>
      unfold Rep at r1
      exact ⟨b, r1, P μ1 H1 k1 g1⟩
    | _ => exact P.elim
theorem tv_cmp {op : CmpOp} {o : Op2} {r : R2} {a b : Expr} {f g : Sem} {pos : Pos} (ho : OpR X (compareOp op) r) (hs : Op2S X o r) (ha : EV X Wx a f) (hb : EV X Wx b g) (hm : behindInMarks op b = false) : TV X Wx (.Compare a [op] [b] pos) (bOf (e2 o f g)) :=
  PTm (pt_cmpR ho ha hb hm) (bOf_read (e2_read hs))
theorem tv_val {e : Expr} {f : Sem} (h : EV X Wx e f) (he : ∀ whole, isTrue e X.env whole = (do let v ← whole; standAt e.pos; holding [v] (truthy v)) := by intro _; rfl) : TV X Wx e (bOf f) :=
  PTm (pt_val h he) fun σ H Q P => bOf_read (fun _ _ _ z => z) σ H Q P
/-! ### not, and, or -/
def bNot (f : SemB) : SemB := fun fr st => (f fr st).bind fun b st1 => .ok (!b) st1
theorem tv_not {a : Expr} {f : SemB} {pos : Pos} (ha : TV X Wx a f) : TV X Wx (.UnaryOp .Not a pos) (bNot f) := PTm (pt_not ha) fun σ H Q ⟨μ, st, hid, fr, S, P⟩ => by
  refine ⟨μ, st, hid, fr, S, ?_⟩
  unfold bNot at P
  cases h : f fr st with
  | bad => rw [h] at P; exact P
  | err x s => rw [h] at P; exact P
  | ok w st1 => rw [h] at P; exact P
def bAnd (f g : SemB) : SemB := fun fr st => (f fr st).bind fun b st1 => if b = true then g fr st1 else .ok false st1
def bOr (f g : SemB) : SemB := fun fr st => (f fr st).bind fun b st1 => if b = true then .ok true st1 else g fr st1
theorem bAnd_read {f g : SemB} : ∀ σ H Q, tB' X.K X.mg Wx (bAnd f g) σ H Q → tAnd (tB' X.K X.mg Wx f) (tB' X.K X.mg Wx g) σ H Q := fun σ H Q ⟨μ, st, hid, fr, S, P⟩ => by
  refine ⟨μ, st, hid, fr, S, ?_⟩
  unfold bAnd at P
  cases h : f fr st with
  | bad => rw [h] at P; exact P
  | err x s => rw [h] at P; exact P
  | ok b st1 =>
    rw [h, Out.bind_ok] at P
    intro μ1 H1 k1 g1
    cases b with
    | true => exact iteT ⟨μ1, st1, hid, fr, S.next k1 g1, BPost.from g1 (by simpa using P)⟩
    | false => exact iteF ((by simpa using P : BPost X.K X.mg Wx.w hid μ st σ H Q (.ok false st1)) μ1 H1 k1 g1)
theorem bOr_read {f g : SemB} : ∀ σ H Q, tB' X.K X.mg Wx (bOr f g) σ H Q → tOr (tB' X.K X.mg Wx f) (tB' X.K X.mg Wx g) σ H Q := fun σ H Q ⟨μ, st, hid, fr, S, P⟩ => by
  refine ⟨μ, st, hid, fr, S, ?_⟩
  unfold bOr at P
  cases h : f fr st with
  | bad => rw [h] at P; exact P
  | err x s => rw [h] at P; exact P
  | ok b st1 =>
    rw [h, Out.bind_ok] at P
    intro μ1 H1 k1 g1
    cases b with
    | false => exact iteF ⟨μ1, st1, hid, fr, S.next k1 g1, BPost.from g1 (by simpa using P)⟩
    | true => exact iteT ((by simpa using P : BPost X.K X.mg Wx.w hid μ st σ H Q (.ok true st1)) μ1 H1 k1 g1)
abbrev WV (X : Cx) (Wx : Wish) (e : Expr) (f : SemB) : Prop := PW X e (tB' X.K X.mg Wx f)
theorem wv_and1 {a : Expr} {f : SemB} {pos : Pos} (ha : TV X Wx a f) : WV X Wx (.BoolOp .And [a] pos) f := pw_and1 ha
theorem wv_or1 {a : Expr} {f : SemB} {pos : Pos} (ha : TV X Wx a f) : WV X Wx (.BoolOp .Or [a] pos) f := pw_or1 ha
theorem wv_and {a b : Expr} {rest : List Expr} {f g : SemB} {pos : Pos} (ha : TV X Wx a f) (hb : WV X Wx (.BoolOp .And (b :: rest) pos) g) : WV X Wx (.BoolOp .And (a :: b :: rest) pos) (bAnd f g) := PWm (pw_and ha hb) bAnd_read
theorem wv_or {a b : Expr} {rest : List Expr} {f g : SemB} {pos : Pos} (ha : TV X Wx a f) (hb : WV X Wx (.BoolOp .Or (b :: rest) pos) g) : WV X Wx (.BoolOp .Or (a :: b :: rest) pos) (bOr f g) := PWm (pw_or ha hb) bOr_read
theorem tv_w {e : Expr} {f : SemB} (h : WV X Wx e f) : TV X Wx e f := h.pt
/-- .. as values -/
def eAnd (f g : Sem) : Sem := fun fr st => (f fr st).bind fun w st1 => match w with
  | .bl b => if b = true then g fr st1 else .ok (.bl false) st1
  | _ => .bad
def eOr (f g : Sem) : Sem := fun fr st => (f fr st).bind fun w st1 => match w with
  | .bl b => if b = true then .ok (.bl true) st1 else g fr st1
  | _ => .bad
def eNot (f : Sem) : Sem := fun fr st => (f fr st).bind fun w st1 => match w with
  | .bl b => .ok (.bl (!b)) st1
  | _ => .bad
theorem rep_bl {K : PySem.W.Frag} {mg : Str → Option Value} {F : Hp} {μ : List Addr} {b : Bool} : Rep K mg F μ (.bl b) (.bl b) := by unfold Rep; rfl
theorem rep_int {K : PySem.W.Frag} {mg : Str → Option Value} {F : Hp} {μ : List Addr} {b : Int} : Rep K mg F μ (.int b) (.int b) := by unfold Rep; rfl
theorem rep_str {K : PySem.W.Frag} {mg : Str → Option Value} {F : Hp} {μ : List Addr} {b : Str} : Rep K mg F μ (.str b) (.str b) := by unfold Rep; rfl
theorem rep_non {K : PySem.W.Frag} {mg : Str → Option Value} {F : Hp} {μ : List Addr} : Rep K mg F μ .non .non := by unfold Rep; rfl
theorem rep_bl_inv {K : PySem.W.Frag} {mg : Str → Option Value} {F : Hp} {μ : List Addr} {b : Bool} {v : V} (h : Rep K mg F μ (.bl b) v) : v = .bl b := by unfold Rep at h; exact h
theorem rep_int_inv {K : PySem.W.Frag} {mg : Str → Option Value} {F : Hp} {μ : List Addr} {b : Int} {v : V} (h : Rep K mg F μ (.int b) v) : v = .int b := by unfold Rep at h; exact h
theorem rep_str_inv {K : PySem.W.Frag} {mg : Str → Option Value} {F : Hp} {μ : List Addr} {b : Str} {v : V} (h : Rep K mg F μ (.str b) v) : v = .str b := by unfold Rep at h; exact h
theorem rep_non_inv {K : PySem.W.Frag} {mg : Str → Option Value} {F : Hp} {μ : List Addr} {v : V} (h : Rep K mg F μ .non v) : v = .non := by unfold Rep at h; exact h
theorem rep_tup_inv {K : PySem.W.Frag} {mg : Str → Option Value} {F : Hp} {μ : List Addr} {ws : List W} {v : V} (h : Rep K mg F μ (.tup ws) v) : ∃ a vs, v = .ref a ∧ TupAt K F a vs ∧ Reps K mg F μ ws vs := by unfold Rep at h; exact h
theorem rep_tpn_inv {K : PySem.W.Frag} {mg : Str → Option Value} {F : Hp} {μ : List Addr} {ws : List W} {v : V} (h : Rep K mg F μ (.tpn ws) v) : ∃ a vs, v = .ref a ∧ TpnAt F a vs ∧ Reps K mg F μ ws vs := by unfold Rep at h; exact h
theorem rep_lst_inv {K : PySem.W.Frag} {mg : Str → Option Value} {F : Hp} {μ : List Addr} {ws : List W} {v : V} (h : Rep K mg F μ (.lst ws) v) : ∃ a vs, v = .ref a ∧ F a = some (.lst vs) ∧ Reps K mg F μ ws vs := by unfold Rep at h; exact h
theorem rep_ro_inv {K : PySem.W.Frag} {mg : Str → Option Value} {F : Hp} {μ : List Addr} {ws : List W} {v : V} (h : Rep K mg F μ (.ro ws) v) : ∃ a vs, v = .ref a ∧ SqL K F a vs ∧ Reps K mg F μ ws vs := by unfold Rep at h; exact h
theorem rep_ty_inv {K : PySem.W.Frag} {mg : Str → Option Value} {F : Hp} {μ : List Addr} {n : String} {v : V} (h : Rep K mg F μ (.ty n) v) : v = .ty n := by unfold Rep at h; exact h
theorem rep_cls_inv {K : PySem.W.Frag} {mg : Str → Option Value} {F : Hp} {μ : List Addr} {n : Str} {v : V} (h : Rep K mg F μ (.cls n) v) : ∃ C, mg n = some (.ref C) ∧ v = .ref C := by unfold Rep at h; exact h
theorem rep_cell_inv {K : PySem.W.Frag} {mg : Str → Option Value} {F : Hp} {μ : List Addr} {k : Nat} {v : V} (h : Rep K mg F μ (.cell k) v) : ∃ a, μ[k]? = some a ∧ v = .ref a := by unfold Rep at h; exact h
theorem rep_tup {K : PySem.W.Frag} {mg : Str → Option Value} {F : Hp} {μ : List Addr} {ws : List W} {a : Addr} {vs : List V} (h : F a = some (.tup vs)) (r : Reps K mg F μ ws vs) : Rep K mg F μ (.tup ws) (.ref a) := by unfold Rep; exact ⟨a, vs, rfl, h, r⟩
theorem rep_tpn {K : PySem.W.Frag} {mg : Str → Option Value} {F : Hp} {μ : List Addr} {ws : List W} {a : Addr} {vs : List V} (h : TpnAt F a vs) (r : Reps K mg F μ ws vs) : Rep K mg F μ (.tpn ws) (.ref a) := by unfold Rep; exact ⟨a, vs, rfl, h, r⟩
theorem rep_lst {K : PySem.W.Frag} {mg : Str → Option Value} {F : Hp} {μ : List Addr} {ws : List W} {a : Addr} {vs : List V} (h : F a = some (.lst vs)) (r : Reps K mg F μ ws vs) : Rep K mg F μ (.lst ws) (.ref a) := by unfold Rep; exact ⟨a, vs, rfl, h, r⟩
theorem ev_and {a b : Expr} {rest : List Expr} {f g : Sem} {pos : Pos} (ha : EV X Wx a f) (hb : EV X Wx (.BoolOp .And (b :: rest) pos) g) : EV X Wx (.BoolOp .And (a :: b :: rest) pos) (eAnd f g) := PEm (pe_and ha hb) fun σ H Q ⟨μ, st, hid, fr, S, P⟩ => by
  refine ⟨μ, st, hid, fr, S, ?_⟩
  unfold eAnd at P
  cases h : f fr st with
  | bad => rw [h] at P; exact P
  | err x s => rw [h] at P; exact P
  | ok w st1 =>
    rw [h, Out.bind_ok] at P
    intro μ1 H1 v k1 g1 r1
    cases w with
    | bl c =>
      refine ⟨c, rep_bl_inv r1, ?_⟩
      cases c with
      | true => exact iteT ⟨μ1, st1, hid, fr, S.next k1 g1, EPost.from g1 (by simpa using P)⟩
      | false => exact iteF ((by simpa using P : EPost X.K X.mg Wx.w hid μ st σ H Q (.ok (.bl false) st1)) μ1 H1 _ k1 g1 rep_bl)
    | _ => exact P.elim
theorem ev_or {a b : Expr} {rest : List Expr} {f g : Sem} {pos : Pos} (ha : EV X Wx a f) (hb : EV X Wx (.BoolOp .Or (b :: rest) pos) g) : EV X Wx (.BoolOp .Or (a :: b :: rest) pos) (eOr f g) := PEm (pe_or ha hb) fun σ H Q ⟨μ, st, hid, fr, S, P⟩ => by
  refine ⟨μ, st, hid, fr, S, ?_⟩
  unfold eOr at P
  cases h : f fr st with
  | bad => rw [h] at P; exact P
  | err x s => rw [h] at P; exact P
  | ok w st1 =>
    rw [h, Out.bind_ok] at P
    intro μ1 H1 v k1 g1 r1
    cases w with
    | bl c =>
      refine ⟨c, rep_bl_inv r1, ?_⟩
      cases c with
      | false => exact iteF ⟨μ1, st1, hid, fr, S.next k1 g1, EPost.from g1 (by simpa using P)⟩
      | true => exact iteT ((by simpa using P : EPost X.K X.mg Wx.w hid μ st σ H Q (.ok (.bl true) st1)) μ1 H1 _ k1 g1 rep_bl)
    | _ => exact P.elim
theorem ev_one {op : BoolOp} {a : Expr} {f : Sem} {pos : Pos} (ha : EV X Wx a f) : EV X Wx (.BoolOp op [a] pos) f := pe_one ha
theorem ev_not {a : Expr} {f : Sem} {pos : Pos} (ha : EV X Wx a f) : EV X Wx (.UnaryOp .Not a pos) (eNot f) := PEm (pe_not ha) fun σ H Q ⟨μ, st, hid, fr, S, P⟩ => by
  refine ⟨μ, st, hid, fr, S, ?_⟩
  unfold eNot at P
  cases h : f fr st with
  | bad => rw [h] at P; exact P
  | err x s => rw [h] at P; exact P
  | ok w st1 =>
    rw [h, Out.bind_ok] at P
    intro μ1 H1 v k1 g1 r1
    cases w with
    | bl c => exact ⟨c, rep_bl_inv r1, P μ1 H1 _ k1 g1 rep_bl⟩
    | _ => exact P.elim
def eIf (c : SemB) (f g : Sem) : Sem := fun fr st => (c fr st).bind fun b st1 => if b = true then f fr st1 else g fr st1
theorem ev_if {c a b : Expr} {fc : SemB} {f g : Sem} {pos : Pos} (hc : TV X Wx c fc) (ha : EV X Wx a f) (hb : EV X Wx b g) : EV X Wx (.IfExp c a b pos) (eIf fc f g) := PEm (pe_ifExp hc ha hb) fun σ H Q ⟨μ, st, hid, fr, S, P⟩ => by
  refine ⟨μ, st, hid, fr, S, ?_⟩
  unfold eIf at P
  cases h : fc fr st with
  | bad => rw [h] at P; exact P
  | err x s => rw [h] at P; exact P
  | ok b st1 =>
    rw [h, Out.bind_ok] at P
    intro μ1 H1 k1 g1
    cases b with
    | true => exact iteT ⟨μ1, st1, hid, fr, S.next k1 g1, EPost.from g1 (by simpa using P)⟩
    | false => exact iteF ⟨μ1, st1, hid, fr, S.next k1 g1, EPost.from g1 (by simpa using P)⟩
/-- a op b op' c -/
def eChain (op op' : Op2) (f g h : Sem) : Sem := fun fr st => (f fr st).bind fun x st1 => (g fr st1).bind fun y st2 => (op x y st2).bind fun z st3 => match z with
  | .bl b => if b = true then (h fr st3).bind fun w st4 => op' y w st4 else .ok (.bl false) st3
  | _ => .bad
theorem eChain_read {op op' : Op2} {r r' : R2} {f g h : Sem} (hs : Op2S X op r) (hs' : Op2S X op' r') : ∀ σ H Q, tE X.K X.mg Wx (eChain op op' f g h) σ H Q → tChain r r' (tE X.K X.mg Wx f) (tE X.K X.mg Wx g) (tE X.K X.mg Wx h) σ H Q := fun σ H Q ⟨μ, st, hid, fr, S, P⟩ => by
  refine ⟨μ, st, hid, fr, S, ?_⟩
  unfold eChain at P
  cases h1 : f fr st with
  | bad => rw [h1] at P; exact P
  | err x s => rw [h1] at P; exact P
  | ok x st1 =>
    rw [h1, Out.bind_ok] at P
    intro μ1 H1 vx k1 g1 r1
    refine ⟨μ1, st1, hid, fr, S.next k1 g1, ?_⟩
    have P1 := EPost.from g1 P
    cases h2 : g fr st1 with
    | bad => rw [h2] at P1; exact P1
    | err x s => rw [h2] at P1; exact P1
    | ok y st2 =>
      rw [h2, Out.bind_ok] at P1
      intro μ2 H2 vy k2 g2 r2
      have P2 := EPost.from g2 P1
      refine hs Wx.w hid μ2 st2 σ H2 _ x y vx vy k2 (Rep.mono g2.le g2.pre _ _ r1) r2 ?_
      cases h3 : op x y st2 with
      | bad => rw [h3] at P2; exact P2
      | err x s => rw [h3] at P2; exact P2
      | ok z st3 =>
        rw [h3, Out.bind_ok] at P2
        intro μ3 H3 vz k3 g3 r3
        have P3 := EPost.from g3 P2
        cases z with
        | bl b =>
          refine ⟨b, rep_bl_inv r3, ?_⟩
          cases b with
          | false => exact iteF ((by simpa using P3 : EPost X.K X.mg Wx.w hid μ3 st3 σ H3 Q (.ok (.bl false) st3)) μ3 H3 _ k3 .refl rep_bl)
          | true =>
            refine iteT ⟨μ3, st3, hid, fr, S.next k3 ((g1.trans g2).trans g3), ?_⟩
            simp only [if_true] at P3
            cases h4 : h fr st3 with
            | bad => rw [h4] at P3; exact P3
            | err x s => rw [h4] at P3; exact P3
            | ok w st4 =>
              rw [h4, Out.bind_ok] at P3
              intro μ4 H4 vw k4 g4 r4
              exact hs' Wx.w hid μ4 st4 σ H4 Q y w vy vw k4 (Rep.mono (g3.trans g4).le (g3.trans g4).pre _ _ r2) r4 (EPost.from g4 P3)
        | _ => exact P3.elim
theorem ev_chain {op op' : CmpOp} {o o' : Op2} {r r' : R2} {a b c : Expr} {f g h : Sem} {pos : Pos} (ho : OpR X (compareOp op) r) (ho' : OpR X (compareOp op') r') (hs : Op2S X o r) (hs' : Op2S X o' r') (ha : EV X Wx a f) (hb : EV X Wx b g) (hc : EV X Wx c h)
    (hm : lastMarks [op, op'] [b, c] = false := by with_unfolding_all rfl) : EV X Wx (.Compare a [op, op'] [b, c] pos) (eChain o o' f g h) := PEm (pe_chain ho ho' ha hb hc hm) (eChain_read hs hs')
theorem tv_chain {op op' : CmpOp} {o o' : Op2} {r r' : R2} {a b c : Expr} {f g h : Sem} {pos : Pos} (ho : OpR X (compareOp op) r) (ho' : OpR X (compareOp op') r') (hs : Op2S X o r) (hs' : Op2S X o' r') (ha : EV X Wx a f) (hb : EV X Wx b g) (hc : EV X Wx c h)
    (hm : lastMarks [op, op'] [b, c] = false := by with_unfolding_all rfl) : TV X Wx (.Compare a [op, op'] [b, c] pos) (bOf (eChain o o' f g h)) := PTm (pt_chain ho ho' ha hb hc hm) (bOf_read (eChain_read hs hs'))
/-- an operator with one side -/
def Op1S (X : Cx) (op : Op1) (r : V → Hp → VK → Prop) : Prop := ∀ (Wx : WX) (hid μ : List Addr) (st : Sto) (σ : L2.St) (H : Hp) (Q : VK) (w : W) (x : V), StOk X.K X.mg μ st hid H → Rep X.K X.mg (Fz μ st hid H) μ w x →
  EPost X.K X.mg Wx hid μ st σ H Q (op w st) → r x H Q
def e1 (op : Op1) (f : Sem) : Sem := fun fr st => (f fr st).bind fun w st1 => op w st1
theorem e1_read {op : Op1} {r : V → Hp → VK → Prop} {f : Sem} (hs : Op1S X op r) : ∀ σ H Q, tE X.K X.mg Wx (e1 op f) σ H Q → tE X.K X.mg Wx f σ H (fun x H1 => r x H1 Q) := fun σ H Q ⟨μ, st, hid, fr, S, P⟩ => by
  refine ⟨μ, st, hid, fr, S, ?_⟩
  unfold e1 at P
  cases h : f fr st with
  | bad => rw [h] at P; exact P
  | err x s => rw [h] at P; exact P
  | ok w st1 =>
    rw [h, Out.bind_ok] at P
    intro μ1 H1 v k1 g1 r1
    exact hs Wx.w hid μ1 st1 σ H1 Q w v k1 r1 (EPost.from g1 P)
theorem ev_un {op : UnaryOp} {o : Op1} {r : V → Hp → VK → Prop} {a : Expr} {f : Sem} {pos : Pos} (ho : UnR X (unaryOp op) r) (hs : Op1S X o r) (ha : EV X Wx a f) : EV X Wx (.UnaryOp op a pos) (e1 o f) := PEm (pe_un ho ha) (e1_read hs)

/-! ## arguments -/
def aNil : SemL := fun _ st => .ok [] st
def aCons (f : Sem) (g : SemL) : SemL := fun fr st => (f fr st).bind fun w st1 => (g fr st1).bind fun ws st2 => .ok (w :: ws) st2
theorem av_nil : AV X Wx [] aNil := PAm pa_nil fun σ H Q ⟨μ, st, hid, fr, S, P⟩ => P μ H [] S.sto .refl .nil
theorem av_cons {e : Expr} {es : List Expr} {f : Sem} {g : SemL} (he : EV X Wx e f) (hr : AV X Wx es g) (hs : starEach (e :: es) X.env = (false, eval e X.env) :: starEach es X.env := by rfl) : AV X Wx (e :: es) (aCons f g) := PAm (pa_cons he hr hs) fun σ H Q ⟨μ, st, hid, fr, S, P⟩ => by
  refine ⟨μ, st, hid, fr, S, ?_⟩
  unfold aCons at P
  cases h : f fr st with
  | bad => rw [h] at P; exact P
  | err x s => rw [h] at P; exact P
  | ok w st1 =>
    rw [h, Out.bind_ok] at P
    intro μ1 H1 v k1 g1 r1
    have P1 := LPost.from g1 P
    refine ⟨μ1, st1, hid, fr, S.next k1 g1, ?_⟩
    cases h2 : g fr st1 with
    | bad => rw [h2] at P1; exact P1
    | err x s => rw [h2] at P1; exact P1
    | ok ws st2 =>
      rw [h2, Out.bind_ok] at P1
      intro μ2 H2 vs k2 g2 r2
      exact P1 μ2 H2 _ k2 g2 (.cons (Rep.mono g2.le g2.pre _ _ r1) r2)
def OpNS (X : Cx) (op : OpN) (r : List V → Hp → VK → Prop) : Prop := ∀ (Wx : WX) (hid μ : List Addr) (st : Sto) (σ : L2.St) (H : Hp) (Q : VK) (ws : List W) (vs : List V), StOk X.K X.mg μ st hid H → Reps X.K X.mg (Fz μ st hid H) μ ws vs →
  EPost X.K X.mg Wx hid μ st σ H Q (op ws st) → r vs H Q
def eN (op : OpN) (f : SemL) : Sem := fun fr st => (f fr st).bind fun ws st1 => op ws st1
theorem eN_read {op : OpN} {r : List V → Hp → VK → Prop} {f : SemL} (hs : OpNS X op r) : ∀ σ H Q, tE X.K X.mg Wx (eN op f) σ H Q → tA X.K X.mg Wx f σ H (fun vs H1 => r vs H1 Q) := fun σ H Q ⟨μ, st, hid, fr, S, P⟩ => by
  refine ⟨μ, st, hid, fr, S, ?_⟩
  unfold eN at P
  cases h : f fr st with
  | bad => rw [h] at P; exact P
  | err x s => rw [h] at P; exact P
  | ok w st1 =>
    rw [h, Out.bind_ok] at P
    intro μ1 H1 v k1 g1 r1
    exact hs Wx.w hid μ1 st1 σ H1 Q w v k1 r1 (EPost.from g1 P)
theorem ev_callB {id : String} {o : OpN} {r : List V → Hp → VK → Prop} {x : Str} {p pos : Pos} {e : Expr} {es : List Expr} {f : SemL} (hc : CallR X (.builtin id) r) (hs : OpNS X o r) (hm : X.mg x = none) (ha : AV X Wx (e :: es) f) (hv : bootBuiltins x = some (.builtin id) := by decide +kernel) (hg : Gl X x := by rfl)
    (hn : x ≠ "__name__" := by decide) (hdb : (x == ("__debug__" : Str)) = false := by decide) (he : starEach (e :: es) X.env = (false, eval e X.env) :: starEach es X.env := by rfl) (hpl : (backTo pos (starEach es X.env)).any (·.1) = false := by rfl) :
    EV X Wx (.Call (.Name x p) (e :: es) [] pos) (eN o f) := PEm (pe_callB hc hg hm hv ha hn hdb he hpl) (eN_read hs)
theorem ev_callTy {T : String} {o : OpN} {r : List V → Hp → VK → Prop} {x : Str} {p pos : Pos} {e : Expr} {es : List Expr} {f : SemL} (hc : CallR X (.type T) r) (hs : OpNS X o r) (hm : X.mg x = none) (ha : AV X Wx (e :: es) f) (hv : bootBuiltins x = some (.type T) := by decide +kernel) (hg : Gl X x := by rfl)
    (hn : x ≠ "__name__" := by decide) (hdb : (x == ("__debug__" : Str)) = false := by decide) (he : starEach (e :: es) X.env = (false, eval e X.env) :: starEach es X.env := by rfl) (hpl : (backTo pos (starEach es X.env)).any (·.1) = false := by rfl) :
    EV X Wx (.Call (.Name x p) (e :: es) [] pos) (eN o f) := PEm (pe_callTy hc hg hm hv ha hn hdb he hpl) (eN_read hs)

/-! ## an own def -/
def spF (K : PySem.W.Frag) (mg : Str → Option Value) (n : Nat) (F : Fn) : Sp := fun vs H Q E => ∃ hid μ st ws, vs.length = n ∧ StOk K mg μ st hid H ∧ Reps K mg (Fz μ st hid H) μ ws vs ∧ EPost K mg (fun c d _ H => E c d H) hid μ st [] H Q (F ws st)
def eCall (F : Fn) (f : SemL) : Sem := eN F f
theorem LPost.len {Wx : WX} {K : PySem.W.Frag} {mg : Str → Option Value} {hid μ : List Addr} {st : Sto} {σ : L2.St} {H : Hp} {Q Q' : List V → Hp → Prop} {o : Out (List W)} (h : LPost K mg Wx hid μ st σ H Q o) (i : ∀ vs H', Q vs H' → Q' vs H') : LPost K mg Wx hid μ st σ H Q' o := by
  cases o with
  | ok w s => exact fun μ2 H2 v a b c => i _ _ (h μ2 H2 v a b c)
  | err e s => exact h
  | bad => exact h
/-- an argument list of n -/
def ArN (n : Nat) (f : SemL) : Prop := ∀ fr st ws st', f fr st = .ok ws st' → ws.length = n
theorem arN_nil : ArN 0 aNil := fun _ _ _ _ h => by
  unfold aNil at h
  injection h with h1 _
  subst h1; rfl
theorem arN_cons {n : Nat} {f : Sem} {g : SemL} (h : ArN n g) : ArN (n + 1) (aCons f g) := fun fr st ws st' e => by
  unfold aCons at e
  cases h1 : f fr st with
  | bad => rw [h1] at e; cases e
  | err x s => rw [h1] at e; cases e
  | ok w st1 =>
    rw [h1, Out.bind_ok] at e
    cases h2 : g fr st1 with
    | bad => rw [h2] at e; cases e
    | err x s => rw [h2] at e; cases e
    | ok us st2 =>
      rw [h2, Out.bind_ok] at e
      injection e with e1 _
      subst e1
      simp [h _ _ _ _ h2]
theorem eCall_read {n : Nat} {F : Fn} {f : SemL} (ar : ArN n f) : ∀ σ H Q, tE X.K X.mg Wx (eCall F f) σ H Q → tCallS (spF X.K X.mg n F) (WE Wx.w) (tA X.K X.mg Wx f) σ H Q := fun σ H Q ⟨μ, st, hid, fr, S, P⟩ => by
  refine ⟨μ, st, hid, fr, S, ?_⟩
  unfold eCall eN at P
  cases h : f fr st with
  | bad => rw [h] at P; exact P
  | err x s => rw [h] at P; exact P
  | ok ws st1 =>
    rw [h, Out.bind_ok] at P
    intro μ1 H1 vs k1 g1 r1
    refine ⟨hid, μ1, st1, ws, by rw [← r1.length]; exact ar _ _ _ _ h, k1, r1, ?_⟩
    have P1 := EPost.from g1 P
    cases h2 : F ws st1 with
    | bad => rw [h2] at P1; exact P1
    | err x s => rw [h2] at P1; exact P1
    | ok u st2 => rw [h2] at P1; exact P1
theorem ev_call {k n : Nat} {g : Addr} {fd : FuncData} {ps : List Str} {F : Fn} {x : Str} {p pos : Pos} {e : Expr} {es : List Expr} {f : SemL} (G : FnOk X.prog X.w X.K X.mg X.base (L2.CX X.prog X.w) k g fd ps (spF X.K X.mg n F)) (hr : Room k X.A) (hm : X.mg x = some (.ref g)) (hk : PySem.W.keepIn X.K (.ref g) = true) (hb : Binds X.K fd ps [])
    (tk : Takes X Wx.w) (ha : AV X Wx (e :: es) f) (ar : ArN n f) (hg : Gl X x := by rfl) (hdb : (x == ("__debug__" : Str)) = false := by decide) (he : starEach (e :: es) X.env = (false, eval e X.env) :: starEach es X.env := by rfl) (hpl : (backTo pos (starEach es X.env)).any (·.1) = false := by rfl) :
    EV X Wx (.Call (.Name x p) (e :: es) [] pos) (eCall F f) := PEm (pe_callS G hr hg hm hk hb (fun σ => passAt tk σ) ha hdb he hpl) (eCall_read ar)

/-! ## displays -/
def small (ws : List W) : Bool := decide (ws.length ≤ 1000)
theorem small_line {ws : List W} {K : PySem.W.Frag} {mg : Str → Option Value} {F : Hp} {μ : List Addr} {vs : List V} (h : small ws = true) (r : Reps K mg F μ ws vs) : vs.length ≤ sizeLine := by
  rw [← r.length]
  exact Nat.le_of_lt (small1000 (of_decide_eq_true h))
def oTup : OpN := fun ws st => if small ws = true then .ok (.tup ws) st else .bad
def oLst : OpN := fun ws st => if small ws = true then .ok (.lst ws) st else .bad
/-- a new frozen object -/
theorem ok_new {Wx : WX} {K : PySem.W.Frag} {mg : Str → Option Value} {hid μ : List Addr} {st : Sto} {σ : L2.St} {H : Hp} {Q : VK} {w : W} {o : HO} (P : EPost K mg Wx hid μ st σ H Q (.ok w st)) (k : StOk K mg μ st hid H) {p : Addr} (hp : H p = none) (r : ∀ F, Le (Fz μ st hid H) F → F p = some o → Rep K mg F μ w (.ref p)) : Q (.ref p) (upd H p o) := by
  obtain ⟨k1, g1, e1⟩ := k.laid (o := o) hp
  exact P μ _ _ k1 g1 (r _ g1.le e1)
theorem ev_tup {es : List Expr} {f : SemL} {x1} {pos : Pos} (h : AV X Wx es f) : EV X Wx (.Tuple es x1 pos) (eN oTup f) := PEm (pe_tup h) fun σ H Q P => by
  refine eN_read (r := fun vs H1 Q => vs.length ≤ sizeLine ∧ ∀ p, H1 p = none → Q (.ref p) (upd H1 p (.tup vs))) ?_ σ H Q P
  intro Wx hid μ st σ H Q ws vs k r P
  unfold oTup at P
  split at P
  · rename_i hs
    exact ⟨small_line hs r, fun p hp => ok_new P k hp fun F l e => rep_tup e (r.mono l (.refl _))⟩
  · exact P.elim
theorem ev_lst {es : List Expr} {f : SemL} {pos : Pos} (h : AV X Wx es f) : EV X Wx (.List es pos) (eN oLst f) := PEm (pe_lst h) fun σ H Q P => by
  refine eN_read (r := fun vs H1 Q => vs.length ≤ sizeLine ∧ ∀ p, H1 p = none → Q (.ref p) (upd H1 p (.lst vs))) ?_ σ H Q P
  intro Wx hid μ st σ H Q ws vs k r P
  unfold oLst at P
  split at P
  · rename_i hs
    exact ⟨small_line hs r, fun p hp => ok_new P k hp fun F l e => rep_lst e (r.mono l (.refl _))⟩
  · exact P.elim
end
end SL

namespace SL
open PySem PySem.Spec PyProof.Rows L2

/-! ## what a cell or a value holds -/
def lstW (st : Sto) : W → Option (List W)
  | .lst ws => some ws
  | .ro ws => some ws
  | .cell k => match st[k]? with
    | some (.lst ws) => some ws
    | some (.frz (.lst ws)) => some ws
    | _ => none
  | _ => none
def tupW (st : Sto) : W → Option (List W)
  | .tup ws => some ws
  | .tpn ws => some ws
  | .cell k => match st[k]? with
    | some (.frz (.tup ws)) => some ws
    | some (.frz (.tpn ws)) => some ws
    | _ => none
  | _ => none
section
variable {K : PySem.W.Frag} {mg : Str → Option Value} {μ : List Addr} {st : Sto} {hid : List Addr} {H : Hp}
theorem SqL.fz {a : Addr} {vs : List V} (h : Fz μ st hid H a = some (.lst vs)) : SqL K H a vs := .of (Fz.sub h).1
theorem SqL.fz' {a : Addr} {vs : List V} (h : SqL K (Fz μ st hid H) a vs) : SqL K H a vs := SqL.le Fz.le h
theorem TupAt.fz {a : Addr} {vs : List V} (h : TupAt K (Fz μ st hid H) a vs) : SqT K H a vs := SqT.le Fz.le h.sq
theorem TpnAt.fz {a : Addr} {vs : List V} (h : TpnAt (Fz μ st hid H) a vs) : SqT K H a vs := SqT.le Fz.le h.sq
theorem StOk.cell (s : StOk K mg μ st hid H) {k : Nat} {c : Cel} {v : V} (h : st[k]? = some c) (r : Rep K mg (Fz μ st hid H) μ (.cell k) v) : ∃ a, v = .ref a ∧ μ[k]? = some a ∧ CelOk K mg (Fz μ st hid H) μ H a c := by
  obtain ⟨a, h1, h2⟩ := rep_cell_inv r
  exact ⟨a, h2, h1, s.ok k a c h1 h⟩
theorem lstW_at (s : StOk K mg μ st hid H) {w : W} {ws : List W} {v : V} (h : lstW st w = some ws) (r : Rep K mg (Fz μ st hid H) μ w v) : ∃ a vs, v = .ref a ∧ SqL K H a vs ∧ Reps K mg (Fz μ st hid H) μ ws vs := by
  cases w with
  | lst us =>
    unfold lstW at h; cases h
    obtain ⟨a, vs, e, h1, h2⟩ := rep_lst_inv r
    exact ⟨a, vs, e, SqL.fz h1, h2⟩
  | ro us =>
    unfold lstW at h; cases h
    obtain ⟨a, vs, e, h1, h2⟩ := rep_ro_inv r
    exact ⟨a, vs, e, SqL.fz' h1, h2⟩
  | cell k =>
    unfold lstW at h
    simp only at h
    split at h
    · rename_i us e
      cases h
      obtain ⟨a, e1, e2, vs, h1, h2⟩ := s.cell e r
      exact ⟨a, vs, e1, .of h1, h2⟩
    · rename_i us e
      cases h
      obtain ⟨a, e1, e2, h1⟩ := s.cell e r
      obtain ⟨b, vs, e3, h1, h2⟩ := rep_lst_inv h1
      cases e3
      exact ⟨a, vs, e1, SqL.fz h1, h2⟩
    · cases h
  | _ => cases h
theorem tupW_at (s : StOk K mg μ st hid H) {w : W} {ws : List W} {v : V} (h : tupW st w = some ws) (r : Rep K mg (Fz μ st hid H) μ w v) : ∃ a vs, v = .ref a ∧ SqT K H a vs ∧ Reps K mg (Fz μ st hid H) μ ws vs := by
  cases w with
  | tup us =>
    unfold tupW at h; cases h
    obtain ⟨a, vs, e, h1, h2⟩ := rep_tup_inv r
    exact ⟨a, vs, e, h1.fz, h2⟩
  | tpn us =>
    unfold tupW at h; cases h
    obtain ⟨a, vs, e, h1, h2⟩ := rep_tpn_inv r
    exact ⟨a, vs, e, h1.fz, h2⟩
  | cell k =>
    unfold tupW at h
    simp only at h
    split at h
    · rename_i us e
      cases h
      obtain ⟨a, e1, e2, h1⟩ := s.cell e r
      obtain ⟨b, vs, e3, h1, h2⟩ := rep_tup_inv h1
      cases e3
      exact ⟨a, vs, e1, h1.fz, h2⟩
    · rename_i us e
      cases h
      obtain ⟨a, e1, e2, h1⟩ := s.cell e r
      obtain ⟨b, vs, e3, h1, h2⟩ := rep_tpn_inv h1
      cases e3
      exact ⟨a, vs, e1, h1.fz, h2⟩
    · cases h
  | _ => cases h
/-- a tuple that is tracked -/
def trkW (st : Sto) : W → Option (List W)
  | .tup ws => some ws
  | .cell k => match st[k]? with
    | some (.frz (.tup ws)) => some ws
    | _ => none
  | _ => none
theorem trkW_at (s : StOk K mg μ st hid H) {w : W} {ws : List W} {v : V} (h : trkW st w = some ws) (r : Rep K mg (Fz μ st hid H) μ w v) : ∃ a vs, v = .ref a ∧ TupAt K (Fz μ st hid H) a vs ∧ Reps K mg (Fz μ st hid H) μ ws vs := by
  cases w with
  | tup us =>
    unfold trkW at h; cases h
    exact rep_tup_inv r
  | cell k =>
    unfold trkW at h
    simp only at h
    split at h
    · rename_i us e
      cases h
      obtain ⟨a, e1, e2, h1⟩ := s.cell e r
      obtain ⟨b, vs, e3, h1, h2⟩ := rep_tup_inv h1
      cases e3
      exact ⟨a, vs, e1, h1, h2⟩
    · cases h
  | _ => cases h
/-- a list or a tuple -/
def seqW (st : Sto) (w : W) : Option (List W) := match lstW st w with
  | some ws => some ws
  | none => tupW st w
theorem seqW_at (s : StOk K mg μ st hid H) {w : W} {ws : List W} {v : V} (h : seqW st w = some ws) (r : Rep K mg (Fz μ st hid H) μ w v) : ∃ a vs, v = .ref a ∧ (SqL K H a vs ∨ SqT K H a vs) ∧ Reps K mg (Fz μ st hid H) μ ws vs := by
  unfold seqW at h
  split at h
  · rename_i us e
    cases h
    obtain ⟨a, vs, e1, e2, e3⟩ := lstW_at s e r
    exact ⟨a, vs, e1, .inl e2, e3⟩
  · obtain ⟨a, vs, e1, e2, e3⟩ := tupW_at s h r
    exact ⟨a, vs, e1, .inr e2, e3⟩
end
section
variable {X : Cx}

/-! ## ints -/
def LINE : Nat := 16777216
theorem le_line {n : Nat} (h : n ≤ LINE) : n ≤ sizeLine := by rw [sizeLine_eq]; exact h
def oAdd : Op2 := fun x y st => match x, y with
  | .int i, .int j => .ok (.int (i + j)) st
  | .str a, .str b => if a.length + b.length ≤ LINE then .ok (.str (a ++ b)) st else .bad
  | .tup a, .tup b => if a.length + b.length ≤ LINE then .ok (.tup (a ++ b)) st else .bad
  | .lst a, .lst b => if a.length + b.length ≤ LINE then .ok (.lst (a ++ b)) st else .bad
  | _, _ => .bad
def rAddAll (K : PySem.W.Frag) : R2 := fun x y H Q => rI0 (fun i j => .int (i + j)) x y H Q ∨ (∃ i j, x = .str i ∧ y = .str j ∧ i.length + j.length ≤ sizeLine ∧ Q (.str (i ++ j)) H) ∨ rCatA K x y H Q ∨ rCat x y H Q
theorem or_add : OpR X (binaryOp .Add) (rAddAll X.K) := op_add.or (op_add_str.or (op_catA.or op_cat))
theorem os_add : Op2S X oAdd (rAddAll X.K) := by
  intro Wx hid μ st σ H Q w u x y k rx ry P
  unfold oAdd at P
  split at P
  · cases rep_int_inv rx; cases rep_int_inv ry
    exact .inl ⟨_, _, rfl, rfl, P μ H _ k .refl rep_int⟩
  · cases rep_str_inv rx; cases rep_str_inv ry
    split at P
    · rename_i hz
      exact .inr (.inl ⟨_, _, rfl, rfl, le_line hz, P μ H _ k .refl rep_str⟩)
    · exact P.elim
  · split at P
    · rename_i a b hz
      obtain ⟨p, vs, rfl, h1, h2⟩ := rep_tup_inv rx
      obtain ⟨q, zs, rfl, h3, h4⟩ := rep_tup_inv ry
      refine .inr (.inr (.inl ⟨p, q, vs, zs, rfl, rfl, h1.fz, h3.fz, by rw [← h2.length, ← h4.length]; exact le_line hz, fun e => ?_, fun _ e => ?_, fun _ _ t ht => ?_⟩))
      · subst e
        have : a = [] := List.eq_nil_of_length_eq_zero (by rw [h2.length]; rfl)
        subst this
        exact P μ H _ k .refl (by simpa using ry)
      · subst e
        have : b = [] := List.eq_nil_of_length_eq_zero (by rw [h4.length]; rfl)
        subst this
        exact P μ H _ k .refl (by simpa using rx)
      · exact ok_new P k ht fun F l e => rep_tup e ((h2.append h4).mono l (.refl _))
    · exact P.elim
  · split at P
    · rename_i a b hz
      obtain ⟨p, vs, rfl, h1, h2⟩ := rep_lst_inv rx
      obtain ⟨q, zs, rfl, h3, h4⟩ := rep_lst_inv ry
      refine .inr (.inr (.inr ⟨p, q, vs, zs, rfl, rfl, (Fz.sub h1).1, (Fz.sub h3).1, by rw [← h2.length, ← h4.length]; exact le_line hz, fun t ht => ?_⟩))
      exact ok_new P k ht fun F l e => rep_lst e ((h2.append h4).mono l (.refl _))
    · exact P.elim
  · exact P.elim
def oSub : Op2 := fun x y st => match x, y with
  | .int i, .int j => .ok (.int (i - j)) st
  | _, _ => .bad
theorem os_sub : Op2S X oSub (rI0 fun i j => .int (i - j)) := by
  intro Wx hid μ st σ H Q w u x y k rx ry P
  unfold oSub at P
  split at P
  · cases rep_int_inv rx; cases rep_int_inv ry
    exact ⟨_, _, rfl, rfl, P μ H _ k .refl rep_int⟩
  · exact P.elim
/-- a condition that nothing reckons out -/
noncomputable def dec (p : Prop) : Bool := @decide p (Classical.propDecidable p)
theorem dec_of {p : Prop} (h : dec p = true) : p := @of_decide_eq_true p (Classical.propDecidable p) h
theorem dec_mk {p : Prop} (h : p) : dec p = true := @decide_eq_true p (Classical.propDecidable p) h
noncomputable def mulOk (i j : Int) : Bool := dec ((-(2 ^ 64) < i ∧ i < 2 ^ 64) ∨ (-(2 ^ 64) < j ∧ j < 2 ^ 64)) || dec (i.natAbs.log2 + j.natAbs.log2 < 1000000)
noncomputable def oMul : Op2 := fun x y st => match x, y with
  | .int i, .int j => if mulOk i j = true then .ok (.int (i * j)) st else .bad
  | _, _ => .bad
def rMulAll : R2 := fun x y H Q => rI CMul (fun i j => .int (i * j)) x y H Q ∨ rI CMulW (fun i j => .int (i * j)) x y H Q
theorem or_mul : OpR X (binaryOp .Mult) rMulAll := op_mul.or op_mulW
theorem os_mul : Op2S X oMul rMulAll := by
  intro Wx hid μ st σ H Q w u x y k rx ry P
  unfold oMul at P
  split at P
  · cases rep_int_inv rx; cases rep_int_inv ry
    split at P
    · rename_i hz
      unfold mulOk at hz
      rw [Bool.or_eq_true] at hz
      rcases hz with hz | hz
      · have hz' := dec_of hz
        exact .inl ⟨_, _, rfl, rfl, hz', P μ H _ k .refl rep_int⟩
      · have hz' := dec_of hz
        exact .inr ⟨_, _, rfl, rfl, hz', P μ H _ k .refl rep_int⟩
    · exact P.elim
  · exact P.elim
noncomputable def oDiv : Op2 := fun x y st => match x, y with
  | .int i, .int j => if dec (0 < j ∧ j.natAbs.log2 < 9000) = true then .ok (.int (i / j)) st else .bad
  | _, _ => .bad
theorem os_div : Op2S X oDiv (rI CDivW fun i j => .int (i / j)) := by
  intro Wx hid μ st σ H Q w u x y k rx ry P
  unfold oDiv at P
  split at P
  · cases rep_int_inv rx; cases rep_int_inv ry
    split at P
    · rename_i hz
      exact ⟨_, _, rfl, rfl, dec_of hz, P μ H _ k .refl rep_int⟩
    · exact P.elim
  · exact P.elim
def oMod : Op2 := fun x y st => match x, y with
  | .int i, .int j => if 0 < j then .ok (.int (i % j)) st else .bad
  | _, _ => .bad
theorem os_mod : Op2S X oMod (rI (fun _ j => 0 < j) fun i j => .int (i % j)) := by
  intro Wx hid μ st σ H Q w u x y k rx ry P
  unfold oMod at P
  split at P
  · cases rep_int_inv rx; cases rep_int_inv ry
    split at P
    · rename_i hz
      exact ⟨_, _, rfl, rfl, hz, P μ H _ k .refl rep_int⟩
    · exact P.elim
  · exact P.elim
noncomputable def oPow : Op2 := fun x y st => match x, y with
  | .int i, .int j => if dec (0 ≤ j ∧ j ≤ 1000000 ∧ i.natAbs < 2 ^ 64) = true then .ok (.int (i ^ j.toNat)) st else .bad
  | _, _ => .bad
theorem os_pow : Op2S X oPow (rI CPow fun i j => .int (i ^ j.toNat)) := by
  intro Wx hid μ st σ H Q w u x y k rx ry P
  unfold oPow at P
  split at P
  · cases rep_int_inv rx; cases rep_int_inv ry
    split at P
    · rename_i hz
      exact ⟨_, _, rfl, rfl, dec_of hz, P μ H _ k .refl rep_int⟩
    · exact P.elim
  · exact P.elim
def oNeg : Op1 := fun x st => match x with
  | .int i => .ok (.int (-i)) st
  | _ => .bad
theorem os_neg : Op1S X oNeg (rU fun i => .int (-i)) := by
  intro Wx hid μ st σ H Q w x k rx P
  unfold oNeg at P
  split at P
  · cases rep_int_inv rx
    exact ⟨_, rfl, P μ H _ k .refl rep_int⟩
  · exact P.elim
/-- order of ints, of texts -/
def oCmpI (p : Int → Int → Bool) (q : List Nat → List Nat → Bool) : Op2 := fun x y st => match x, y with
  | .int i, .int j => .ok (.bl (p i j)) st
  | .str a, .str b => .ok (.bl (q a.cps.toList b.cps.toList)) st
  | _, _ => .bad
def oLt : Op2 := oCmpI (fun i j => decide (i < j)) fun a b => decide (a < b)
def oLe : Op2 := fun x y st => match x, y with
  | .int i, .int j => .ok (.bl (decide (i ≤ j))) st
  | _, _ => .bad
def oGt : Op2 := fun x y st => match x, y with
  | .int i, .int j => .ok (.bl (decide (j < i))) st
  | _, _ => .bad
def oGe : Op2 := fun x y st => match x, y with
  | .int i, .int j => .ok (.bl (decide (j ≤ i))) st
  | _, _ => .bad
def rLtAll : R2 := fun x y H Q => rI0 (fun i j => .bl (decide (i < j))) x y H Q ∨ (∃ i j, x = .str i ∧ y = .str j ∧ Q (.bl (decide (i.cps.toList < j.cps.toList))) H)
theorem or_lt : OpR X (compareOp .Lt) rLtAll := op_lt.or op_lt_str
theorem os_lt : Op2S X oLt rLtAll := by
  intro Wx hid μ st σ H Q w u x y k rx ry P
  unfold oLt oCmpI at P
  split at P
  · cases rep_int_inv rx; cases rep_int_inv ry
    exact .inl ⟨_, _, rfl, rfl, P μ H _ k .refl rep_bl⟩
  · cases rep_str_inv rx; cases rep_str_inv ry
    exact .inr ⟨_, _, rfl, rfl, P μ H _ k .refl rep_bl⟩
  · exact P.elim
theorem os_le : Op2S X oLe (rI0 fun i j => .bl (decide (i ≤ j))) := by
  intro Wx hid μ st σ H Q w u x y k rx ry P
  unfold oLe at P
  split at P
  · cases rep_int_inv rx; cases rep_int_inv ry
    exact ⟨_, _, rfl, rfl, P μ H _ k .refl rep_bl⟩
  · exact P.elim
theorem os_gt : Op2S X oGt (rI0 fun i j => .bl (decide (j < i))) := by
  intro Wx hid μ st σ H Q w u x y k rx ry P
  unfold oGt at P
  split at P
  · cases rep_int_inv rx; cases rep_int_inv ry
    exact ⟨_, _, rfl, rfl, P μ H _ k .refl rep_bl⟩
  · exact P.elim
theorem os_ge : Op2S X oGe (rI0 fun i j => .bl (decide (j ≤ i))) := by
  intro Wx hid μ st σ H Q w u x y k rx ry P
  unfold oGe at P
  split at P
  · cases rep_int_inv rx; cases rep_int_inv ry
    exact ⟨_, _, rfl, rfl, P μ H _ k .refl rep_bl⟩
  · exact P.elim

/-! ## == of data -/
mutual
def pdW : W → Option PyData
  | .non => some .none
  | .bl b => some (.bool b)
  | .int i => some (.int i)
  | .str x => some (.str x)
  | .tup ws => (pdWs ws).map .tuple
  | .lst ws => (pdWs ws).map .list
  | .ro ws => (pdWs ws).map .list
  | .tpn ws => (pdWs ws).map .tuple
  | _ => none
def pdWs : List W → Option (List PyData)
  | [] => some []
  | w :: r => match pdW w, pdWs r with
    | some d, some ds => some (d :: ds)
    | _, _ => none
end
mutual
theorem pdW_at {K : PySem.W.Frag} {mg : Str → Option Value} {F H : Hp} {μ : List Addr} (l : Le F H) : ∀ (w : W) (v : V) (d : PyData), pdW w = some d → Rep K mg F μ w v → Dp K H v d
  | .non, v, d, h, r => by unfold pdW at h; cases h; cases rep_non_inv r; exact .non
  | .bl b, v, d, h, r => by unfold pdW at h; cases h; cases rep_bl_inv r; exact .bl b
  | .int b, v, d, h, r => by unfold pdW at h; cases h; cases rep_int_inv r; exact .int b
  | .str b, v, d, h, r => by unfold pdW at h; cases h; cases rep_str_inv r; exact .str b
  | .tup ws, v, d, h, r => by
    unfold pdW at h
    obtain ⟨a, vs, rfl, h1, h2⟩ := rep_tup_inv r
    cases e : pdWs ws with
    | none => rw [e] at h; cases h
    | some ds =>
      rw [e] at h; cases h
      exact .tup (SqT.le l h1.sq) (pdWs_at l ws vs ds e h2)
  | .lst ws, v, d, h, r => by
    unfold pdW at h
    obtain ⟨a, vs, rfl, h1, h2⟩ := rep_lst_inv r
    cases e : pdWs ws with
    | none => rw [e] at h; cases h
    | some ds =>
      rw [e] at h; cases h
      exact .lst (.of (l.lst h1)) (pdWs_at l ws vs ds e h2)
  | .tpn ws, v, d, h, r => by
    unfold pdW at h
    obtain ⟨a, vs, rfl, h1, h2⟩ := rep_tpn_inv r
    cases e : pdWs ws with
    | none => rw [e] at h; cases h
    | some ds =>
      rw [e] at h; cases h
      exact .tup (SqT.le l h1.sq) (pdWs_at l ws vs ds e h2)
  | .ro ws, v, d, h, r => by
    unfold pdW at h
    obtain ⟨a, vs, rfl, h1, h2⟩ := rep_ro_inv r
    cases e : pdWs ws with
    | none => rw [e] at h; cases h
    | some ds =>
      rw [e] at h; cases h
      exact .lst (SqL.le l h1) (pdWs_at l ws vs ds e h2)
  | .dct ks ws, v, d, h, r => by unfold pdW at h; cases h
  | .ins c ks ws, v, d, h, r => by unfold pdW at h; cases h
  | .cell k, v, d, h, r => by unfold pdW at h; cases h
  | .ty k, v, d, h, r => by unfold pdW at h; cases h
  | .cls k, v, d, h, r => by unfold pdW at h; cases h
theorem pdWs_at {K : PySem.W.Frag} {mg : Str → Option Value} {F H : Hp} {μ : List Addr} (l : Le F H) : ∀ (ws : List W) (vs : List V) (ds : List PyData), pdWs ws = some ds → Reps K mg F μ ws vs → DpAll K H vs ds
  | [], vs, ds, h, r => by
    unfold pdWs at h; cases h
    rw [Reps.nil_iff] at r; subst r; exact .nil
  | w :: ws, vs, ds, h, r => by
    unfold pdWs at h
    obtain ⟨v, vr, rfl, r1, r2⟩ := r.cons_inv
    cases e1 : pdW w with
    | none => rw [e1] at h; cases h
    | some d =>
      cases e2 : pdWs ws with
      | none => rw [e1, e2] at h; cases h
      | some dr =>
        rw [e1, e2] at h; cases h
        exact .cons (pdW_at l w v d e1 r1) (pdWs_at l ws vr dr e2 r2)
end
/-- .. with a cell looked into -/
def pdT (st : Sto) : W → Option PyData
  | .cell k => match st[k]? with
    | some (.lst ws) => (pdWs ws).map .list
    | some (.frz w) => pdW w
    | _ => none
  | w => pdW w
theorem pdT_at {K : PySem.W.Frag} {mg : Str → Option Value} {H : Hp} {hid μ : List Addr} {st : Sto} (k : StOk K mg μ st hid H) {w : W} {v : V} {d : PyData} (h : pdT st w = some d) (r : Rep K mg (Fz μ st hid H) μ w v) : Dp K H v d := by
  cases w with
  | cell n =>
    unfold pdT at h
    simp only at h
    split at h
    · rename_i ws e
      obtain ⟨a, rfl, e2, vs, h1, h2⟩ := k.cell e r
      cases e3 : pdWs ws with
      | none => rw [e3] at h; cases h
      | some ds =>
        rw [e3] at h; cases h
        exact .lst (.of h1) (pdWs_at Fz.le ws vs ds e3 h2)
    · rename_i u e
      obtain ⟨a, rfl, e2, h1⟩ := k.cell e r
      exact pdW_at Fz.le u _ d h h1
    · cases h
  | _ => exact pdW_at Fz.le _ _ _ h r
def eqW (st : Sto) (x y : W) : Option Bool := match pdT st x, pdT st y with
  | some d, some e => if SeqAt.shaped d && SeqAt.shaped e then some (PyData.eqv d e) else none
  | _, _ => none
def oEq : Op2 := fun x y st => match eqW st x y with
  | some b => .ok (.bl b) st
  | none => .bad
def oNe : Op2 := fun x y st => match eqW st x y with
  | some b => .ok (.bl (!b)) st
  | none => .bad
theorem eqW_at {K : PySem.W.Frag} {mg : Str → Option Value} {H : Hp} {hid μ : List Addr} {st : Sto} (k : StOk K mg μ st hid H) {w u : W} {x y : V} {b : Bool} (h : eqW st w u = some b) (rx : Rep K mg (Fz μ st hid H) μ w x) (ry : Rep K mg (Fz μ st hid H) μ u y) :
    ∃ d e, Dp K H x d ∧ Dp K H y e ∧ SeqAt.shaped d = true ∧ SeqAt.shaped e = true ∧ b = PyData.eqv d e := by
  unfold eqW at h
  split at h
  · rename_i d e h1 h2
    split at h
    · rename_i h3
      rw [Bool.and_eq_true] at h3
      cases h
      exact ⟨d, e, pdT_at k h1 rx, pdT_at k h2 ry, h3.1, h3.2, rfl⟩
    · cases h
  · cases h
theorem os_eq : Op2S X oEq (rEqD X.K) := by
  intro Wx hid μ st σ H Q w u x y k rx ry P
  unfold oEq at P
  split at P
  · rename_i b h
    obtain ⟨d, e, h1, h2, h3, h4, rfl⟩ := eqW_at k h rx ry
    exact ⟨d, e, h1, h2, h3, h4, P μ H _ k .refl rep_bl⟩
  · exact P.elim
theorem os_ne : Op2S X oNe (rNeD X.K) := by
  intro Wx hid μ st σ H Q w u x y k rx ry P
  unfold oNe at P
  split at P
  · rename_i b h
    obtain ⟨d, e, h1, h2, h3, h4, rfl⟩ := eqW_at k h rx ry
    exact ⟨d, e, h1, h2, h3, h4, P μ H _ k .refl rep_bl⟩
  · exact P.elim
/-- is None, is a bool -/
def isNon : W → Bool
  | .non => true
  | _ => false
theorem isNon_at {K : PySem.W.Frag} {mg : Str → Option Value} {F : Hp} {μ : List Addr} : ∀ {w : W} {v : V}, Rep K mg F μ w v → decide (v = .non) = isNon w := fun {w v} r => by
  cases w with
  | non => cases rep_non_inv r; rfl
  | bl b => cases rep_bl_inv r; rfl
  | int b => cases rep_int_inv r; rfl
  | str b => cases rep_str_inv r; rfl
  | ty b => cases rep_ty_inv r; rfl
  | cls b => obtain ⟨C, _, rfl⟩ := rep_cls_inv r; rfl
  | tup ws => obtain ⟨a, vs, rfl, _⟩ := rep_tup_inv r; rfl
  | lst ws => obtain ⟨a, vs, rfl, _⟩ := rep_lst_inv r; rfl
  | ro ws => obtain ⟨a, vs, rfl, _⟩ := rep_ro_inv r; rfl
  | tpn ws => obtain ⟨a, vs, rfl, _⟩ := rep_tpn_inv r; rfl
  | cell k => obtain ⟨a, _, rfl⟩ := rep_cell_inv r; rfl
  | dct ks ws => unfold Rep at r; obtain ⟨a, vs, rfl, _⟩ := r; rfl
  | ins c ns ws => unfold Rep at r; obtain ⟨a, C, dx, vs, rfl, _⟩ := r; rfl
def oIs : Op2 := fun x y st => match y with
  | .non => .ok (.bl (isNon x)) st
  | .bl b => match x with
    | .bl a => .ok (.bl (decide (a = b))) st
    | _ => .bad
  | _ => .bad
def oIsN : Op2 := fun x y st => match y with
  | .non => .ok (.bl (!isNon x)) st
  | .bl b => match x with
    | .bl a => .ok (.bl (!decide (a = b))) st
    | _ => .bad
  | _ => .bad
def rIsAll : R2 := fun x y H Q => (y = .non ∧ Q (.bl (decide (x = .non))) H) ∨ rIsB x y H Q
def rIsNAll : R2 := fun x y H Q => (y = .non ∧ Q (.bl (!decide (x = .non))) H) ∨ rNotB x y H Q
theorem or_is : OpR X (compareOp .Is) rIsAll := op_isN.or op_isBl
theorem or_isN : OpR X (compareOp .IsNot) rIsNAll := op_notN.or op_notBl
theorem os_is : Op2S X oIs rIsAll := by
  intro Wx hid μ st σ H Q w u x y k rx ry P
  unfold oIs at P
  split at P
  · refine .inl ⟨rep_non_inv ry, ?_⟩
    rw [isNon_at rx]
    exact P μ H _ k .refl rep_bl
  · split at P
    · exact .inr ⟨_, _, rep_bl_inv rx, rep_bl_inv ry, P μ H _ k .refl rep_bl⟩
    · exact P.elim
  · exact P.elim
theorem os_isN : Op2S X oIsN rIsNAll := by
  intro Wx hid μ st σ H Q w u x y k rx ry P
  unfold oIsN at P
  split at P
  · refine .inl ⟨rep_non_inv ry, ?_⟩
    rw [isNon_at rx]
    exact P μ H _ k .refl rep_bl
  · split at P
    · exact .inr ⟨_, _, rep_bl_inv rx, rep_bl_inv ry, P μ H _ k .refl rep_bl⟩
    · exact P.elim
  · exact P.elim

/-! ## isinstance -/
/-- a walked dict of tuple keys is asked nothing -/
def tlK : List W → Bool
  | .ty t :: _ => t == "TL"
  | _ => false
def tyW (st : Sto) : W → Option String
  | .non => some "NoneType"
  | .bl _ => some "bool"
  | .int _ => some "int"
  | .str _ => some "str"
  | .tup _ => some "tuple"
  | .tpn _ => some "tuple"
  | .lst _ => some "list"
  | .dct ks _ => if tlK ks = true then none else some "dict"
  | .cell k => match st[k]? with
    | some (.lst _) => some "list"
    | some (.dct ks _) => if tlK ks = true then none else some "dict"
    | some (.frz (.lst _)) => some "list"
    | some (.frz (.tup _)) => some "tuple"
    | _ => none
  | _ => none
theorem kind_T {ks : List W} {q : List Key ⊕ List (List Key)} {l : Bool} (h : kindW ks = some (l, q)) : (∃ kk, q = .inl kk) ∨ ((∃ kk, q = .inr kk) ∧ (l = false ∨ tlK ks = true)) := by
  cases ks with
  | nil => cases h; exact .inl ⟨_, rfl⟩
  | cons w ks =>
    cases w with
    | ty t =>
      have z : kindW (.ty t :: ks) = if t = "L" then (mapO keyW ks).map fun kk => (true, .inl kk) else if t = "T" then (mapO keyT ks).map fun kk => (false, .inr kk) else if t = "TL" then (mapO keyT ks).map fun kk => (true, .inr kk) else none := rfl
      rw [z] at h
      by_cases h1 : t = "L"
      · rw [if_pos h1] at h
        cases m : mapO keyW ks with
        | none => rw [m] at h; cases h
        | some kk => rw [m] at h; cases h; exact .inl ⟨_, rfl⟩
      · rw [if_neg h1] at h
        by_cases h2 : t = "T"
        · rw [if_pos h2] at h
          cases m : mapO keyT ks with
          | none => rw [m] at h; cases h
          | some kk => rw [m] at h; cases h; exact .inr ⟨⟨_, rfl⟩, .inl rfl⟩
        · rw [if_neg h2] at h
          by_cases h3 : t = "TL"
          · exact .inr ⟨by
              rw [if_pos h3] at h
              cases m : mapO keyT ks with
              | none => rw [m] at h; cases h
              | some kk => rw [m] at h; cases h; exact ⟨_, rfl⟩, .inr (beq_iff_eq.mpr h3)⟩
          · rw [if_neg h3] at h; cases h
    | int i =>
      have z : kindW (.int i :: ks) = (mapO keyW (.int i :: ks)).map fun kk => (false, .inl kk) := rfl
      rw [z] at h
      cases m : mapO keyW (.int i :: ks) with
      | none => rw [m] at h; cases h
      | some kk => rw [m] at h; cases h; exact .inl ⟨_, rfl⟩
    | str i =>
      have z : kindW (.str i :: ks) = (mapO keyW (.str i :: ks)).map fun kk => (false, .inl kk) := rfl
      rw [z] at h
      cases m : mapO keyW (.str i :: ks) with
      | none => rw [m] at h; cases h
      | some kk => rw [m] at h; cases h; exact .inl ⟨_, rfl⟩
    | _ => cases h
theorem dct_ty {K : PySem.W.Frag} {F H : Hp} {a : Addr} {ks : List W} {vs : List V} (l : ∀ o, F a = some o → H a = some o) (h : DctAt F a ks vs) (ht : ¬ tlK ks = true) : TyX K H (.ref a) (.type "dict") := by
  obtain ⟨b, q, h1, h2, h3, h4⟩ := h
  rcases kind_T h1 with ⟨kk, rfl⟩ | ⟨⟨kk, rfl⟩, hb | hb⟩
  · rcases h3 with h3 | ⟨o, h3⟩
    · exact .base (.dK (l _ h3))
    · exact .fDict (l _ h3)
  · exact .base (.dT (l _ (h4 hb kk rfl)))
  · exact absurd hb ht
theorem tup_ty {K : PySem.W.Frag} {F H : Hp} {a : Addr} {vs : List V} (l : Le F H) (h : TupAt K F a vs) : TyX K H (.ref a) (.type "tuple") := by
  exact .base (.tup (l.fix _ _ trivial h))
theorem tyW_at {K : PySem.W.Frag} {mg : Str → Option Value} {H : Hp} {hid μ : List Addr} {st : Sto} (k : StOk K mg μ st hid H) {w : W} {v : V} {t : String} (h : tyW st w = some t) (r : Rep K mg (Fz μ st hid H) μ w v) : TyX K H v (.type t) := by
  cases w with
  | non => unfold tyW at h; cases h; cases rep_non_inv r; exact .base .non
  | bl b => unfold tyW at h; cases h; cases rep_bl_inv r; exact .base (.bl b)
  | int b => unfold tyW at h; cases h; cases rep_int_inv r; exact .base (.int b)
  | str b => unfold tyW at h; cases h; cases rep_str_inv r; exact .base (.str b)
  | tup ws => unfold tyW at h; cases h; obtain ⟨a, vs, rfl, h1, _⟩ := rep_tup_inv r; exact tup_ty Fz.le h1
  | tpn ws => unfold tyW at h; cases h; obtain ⟨a, vs, rfl, ⟨o, _, h1⟩, _⟩ := rep_tpn_inv r; exact .fTuple (Fz.sub h1).1
  | lst ws => unfold tyW at h; cases h; obtain ⟨a, vs, rfl, h1, _⟩ := rep_lst_inv r; exact .base (.lst (Fz.sub h1).1)
  | dct ks ws =>
    have h' : (if tlK ks = true then none else some "dict") = some t := h
    split at h'
    · cases h'
    · rename_i ht
      cases h'
      unfold Rep at r
      obtain ⟨a, vs, rfl, h1, _⟩ := r
      exact dct_ty (fun _ z => (Fz.sub z).1) h1 ht
  | cell n =>
    unfold tyW at h
    simp only at h
    split at h
    · rename_i ws e
      cases h
      obtain ⟨a, rfl, e2, vs, h1, h2⟩ := k.cell e r
      exact .base (.lst h1)
    · rename_i ks ws e
      by_cases ht : tlK ks = true
      · rw [if_pos ht] at h; cases h
      · rw [if_neg ht] at h
        cases h
        obtain ⟨a, rfl, e2, vs, h1, h2⟩ := k.cell e r
        exact dct_ty (fun _ z => z) h1.rd ht
    · rename_i ws e
      cases h
      obtain ⟨a, rfl, e2, h1⟩ := k.cell e r
      obtain ⟨b, vs, e3, h2, _⟩ := rep_lst_inv h1
      cases e3
      exact .base (.lst (Fz.sub h2).1)
    · rename_i ws e
      cases h
      obtain ⟨a, rfl, e2, h1⟩ := k.cell e r
      obtain ⟨b, vs, e3, h2, _⟩ := rep_tup_inv h1
      cases e3
      exact tup_ty Fz.le h2
    · cases h
  | _ => cases h
/-- is a value of the type a one of b? -/
def subT (a b : String) : Bool := a == b || (a == "bool" && b == "int")
def tyNames : List W → Option (List String)
  | [] => some []
  | .ty n :: r => (tyNames r).map (n :: ·)
  | _ => none
def tyN (n : String) : Bool := n == "int" || n == "bool" || n == "str" || n == "tuple" || n == "list" || n == "dict" || n == "NoneType"
theorem kit_sub {K : PySem.W.Frag} {a b : String} (ha : tyN a = true) (hb : tyN b = true) : PySem.W.kitOne K (.type a) (.type b) = some (subT a b) := by
  simp only [tyN, Bool.or_eq_true, beq_iff_eq] at ha hb
  rcases ha with (((((rfl | rfl) | rfl) | rfl) | rfl) | rfl) | rfl <;> rcases hb with (((((rfl | rfl) | rfl) | rfl) | rfl) | rfl) | rfl <;> exact kit_ty (by decide +kernel)
end
end SL

namespace SL
open PySem PySem.Spec PyProof.Rows L2
section
variable {K : PySem.W.Frag} {mg : Str → Option Value} {μ : List Addr} {st : Sto} {hid : List Addr} {H F : Hp}
theorem reps1 {ws : List W} {w : W} {vs : List V} (r : Reps K mg F μ [w] vs) : ∃ v, vs = [v] ∧ Rep K mg F μ w v := by
  obtain ⟨v, t, rfl, h1, h2⟩ := r.cons_inv
  rw [Reps.nil_iff] at h2; subst h2
  exact ⟨v, rfl, h1⟩
theorem reps2 {w u : W} {vs : List V} (r : Reps K mg F μ [w, u] vs) : ∃ v x, vs = [v, x] ∧ Rep K mg F μ w v ∧ Rep K mg F μ u x := by
  obtain ⟨v, t, rfl, h1, h2⟩ := r.cons_inv
  obtain ⟨x, rfl, h3⟩ := reps1 (ws := []) h2
  exact ⟨v, x, rfl, h1, h3⟩
theorem tyNames_at : ∀ {ws : List W} {ns : List String} {vs : List V}, tyNames ws = some ns → Reps K mg F μ ws vs → vs = ns.map V.ty
  | [], ns, vs, h, r => by unfold tyNames at h; cases h; rw [Reps.nil_iff] at r; subst r; rfl
  | .ty n :: ws, ns, vs, h, r => by
    unfold tyNames at h
    obtain ⟨v, t, rfl, h1, h2⟩ := r.cons_inv
    cases e : tyNames ws with
    | none => rw [e] at h; cases h
    | some ms =>
      rw [e] at h; cases h
      rw [rep_ty_inv h1, tyNames_at e h2]; rfl
  | .non :: _, _, _, h, _ | .bl _ :: _, _, _, h, _ | .int _ :: _, _, _, h, _ | .str _ :: _, _, _, h, _ | .tup _ :: _, _, _, h, _ | .lst _ :: _, _, _, h, _ | .dct _ _ :: _, _, _, h, _ | .ins _ _ _ :: _, _, _, h, _ | .cell _ :: _, _, _, h, _ | .ro _ :: _, _, _, h, _ | .tpn _ :: _, _, _, h, _ | .cls _ :: _, _, _, h, _ => by unfold tyNames at h; cases h
theorem kitAny_names {a : String} (ha : tyN a = true) : ∀ ns : List String, ns.all tyN = true → PySem.W.kitAny K (.type a) (ns.map Value.type) = some (ns.any (subT a))
  | [], _ => rfl
  | n :: ns, h => by
    rw [List.all_cons, Bool.and_eq_true] at h
    refine kitAny_cons (kit_sub ha h.1) (fun e => ?_) fun e => ?_
    · rw [kitAny_names ha ns h.2, List.any_cons, e]; rfl
    · rw [List.any_cons, e]; rfl
end
section
variable {X : Cx}
/-- isinstance(x, T), isinstance(x, (T1, ..)) of built-in types -/
def oIsi : OpN := fun ws st => match ws with
  | [x, .ty n] => match tyW st x with
    | some t => if tyN t && tyN n then .ok (.bl (subT t n)) st else .bad
    | none => .bad
  | [x, .tup cs] => match tyW st x, tyNames cs with
    | some t, some ns => if tyN t && ns.all tyN then .ok (.bl (ns.any (subT t))) st else .bad
    | _, _ => .bad
  | _ => .bad
def rIsiAll (K : PySem.W.Frag) : List V → Hp → VK → Prop := fun vs H Q => rIsi K vs H Q ∨ rIsiT K vs H Q ∨ rIsiK K vs H Q
theorem cr_isi : CallR X (.builtin "isinstance") (rIsiAll X.K) := call_isi.or (call_isiT.or call_isiK)
theorem paired_ty : ∀ ns : List String, Paired ClsV (ns.map V.ty) (ns.map Value.type)
  | [] => .nil
  | n :: ns => .cons (.ty n) (paired_ty ns)
theorem vals_tyN : ∀ {ns : List String} {us : List Value}, Vals (ns.map V.ty) us → us = ns.map Value.type
  | [], _, .nil => rfl
  | n :: ns, _, .cons r t => by rw [vals_tyN t, show _ = Value.type n from r]; rfl
theorem os_isi : OpNS X oIsi (rIsiAll X.K) := by
  intro Wx hid μ st σ H Q ws vs k r P
  unfold oIsi at P
  split at P
  · rename_i x n
    obtain ⟨v, c, rfl, r1, r2⟩ := reps2 r
    split at P
    · rename_i t e
      split at P
      · rename_i ht
        rw [Bool.and_eq_true] at ht
        rw [rep_ty_inv r2]
        exact .inl ⟨v, .ty n, .type t, .type n, _, rfl, .ty n, tyW_at k e r1, kit_sub ht.1 ht.2, P μ H _ k .refl rep_bl⟩
      · exact P.elim
    · exact P.elim
  · rename_i x cs
    obtain ⟨v, c, rfl, r1, r2⟩ := reps2 r
    split at P
    · rename_i t ns e1 e2
      split at P
      · rename_i ht
        rw [Bool.and_eq_true] at ht
        obtain ⟨a, us, rfl, h1, h2⟩ := rep_tup_inv r2
        have e3 := tyNames_at e2 h2
        subst e3
        exact .inr (.inl ⟨v, a, _, .type t, _, _, rfl, (Fz.sub h1).1, paired_ty ns, tyW_at k e1 r1, kitAny_names ht.1 ns ht.2, P μ H _ k .refl rep_bl⟩)
      · exact P.elim
    · exact P.elim
  · exact P.elim
theorem ev_ty {n : String} {x : Str} {pos : Pos} {Wx : Wish} (hm : X.mg x = none) (hv : bootBuiltins x = some (.type n) := by decide +kernel) (hg : Gl X x := by rfl) (hn : x ≠ "__name__" := by decide) (hd : (x == ("__debug__" : Str)) = false := by decide) : EV X Wx (.Name x pos) (eC (.ty n)) :=
  ev_c (v := .ty n) (pe_bltn hg hm hv rfl hn hd) fun F μ => by unfold Rep; rfl

/-! ## len, list, tuple, int -/
def oLen : OpN := fun ws st => match ws with
  | [.str z] => if z.length ≤ LINE then .ok (.int z.length) st else .bad
  | [x] => match seqW st x with
    | some us => .ok (.int us.length) st
    | none => .bad
  | _ => .bad
def rLenAll (K : PySem.W.Frag) : List V → Hp → VK → Prop := fun vs H Q => ∃ x n, vs = [x] ∧ LenV K x H n ∧ Q (.int n) H
theorem cr_len : CallR X (.builtin "len") (rLenAll X.K) := call_len
theorem os_len : OpNS X oLen (rLenAll X.K) := by
  intro Wx hid μ st σ H Q ws vs k r P
  unfold oLen at P
  split at P
  · obtain ⟨v, rfl, r1⟩ := reps1 (ws := []) r
    cases rep_str_inv r1
    split at P
    · rename_i hz
      exact ⟨_, _, rfl, ⟨le_line hz, rfl⟩, P μ H _ k .refl rep_int⟩
    · exact P.elim
  · obtain ⟨v, rfl, r1⟩ := reps1 (ws := []) r
    split at P
    · rename_i us e
      obtain ⟨a, xs, rfl, h1, h2⟩ := seqW_at k e r1
      refine ⟨_, xs.length, rfl, ?_, ?_⟩
      · rcases h1 with h1 | h1
        · exact .inl ⟨xs, h1, rfl⟩
        · exact .inr ⟨xs, h1, rfl⟩
      · rw [← h2.length]
        exact P μ H _ k .refl rep_int
    · exact P.elim
  · exact P.elim
def oList : OpN := fun ws st => match ws with
  | [x] => match seqW st x with
    | some us => .ok (.lst us) st
    | none => .bad
  | _ => .bad
theorem os_list : OpNS X oList (fun xs H Q => ∃ p ys, xs = [.ref p] ∧ (SqL X.K H p ys ∨ SqT X.K H p ys) ∧ ∀ l, H l = none → Q (.ref l) (upd H l (.lst ys))) := by
  intro Wx hid μ st σ H Q ws vs k r P
  unfold oList at P
  split at P
  · obtain ⟨v, rfl, r1⟩ := reps1 (ws := []) r
    split at P
    · rename_i us e
      obtain ⟨a, xs, rfl, h1, h2⟩ := seqW_at k e r1
      exact ⟨a, xs, rfl, h1, fun l hl => ok_new P k hl fun F le e => rep_lst e (h2.mono le (.refl _))⟩
    · exact P.elim
  · exact P.elim
def oTuple : OpN := fun ws st => match ws with
  | [x] => match lstW st x with
    | some us => .ok (.tup us) st
    | none => match tupW st x with
      | some _ => .ok x st
      | none => .bad
  | _ => .bad
theorem os_tuple : OpNS X oTuple (fun xs H Q => ∃ a ys, xs = [.ref a] ∧ ((SqL X.K H a ys ∧ ∀ l, H l = none → Q (.ref l) (upd H l (.tup ys))) ∨ (SqT X.K H a ys ∧ Q (.ref a) H))) := by
  intro Wx hid μ st σ H Q ws vs k r P
  unfold oTuple at P
  split at P
  · obtain ⟨v, rfl, r1⟩ := reps1 (ws := []) r
    split at P
    · rename_i us e'
      obtain ⟨a, xs, rfl, h1, h2⟩ := lstW_at k e' r1
      exact ⟨a, xs, rfl, .inl ⟨h1, fun l hl => ok_new P k hl fun F le e => rep_tup e (h2.mono le (.refl _))⟩⟩
    · split at P
      · rename_i us e
        obtain ⟨a, xs, rfl, h1, h2⟩ := tupW_at k e r1
        exact ⟨a, xs, rfl, .inr ⟨h1, P μ H _ k .refl r1⟩⟩
      · exact P.elim
  · exact P.elim
def oInt : OpN := fun ws st => match ws with
  | [.int i] => .ok (.int i) st
  | [.bl b] => .ok (.int (if b then 1 else 0)) st
  | _ => .bad
theorem os_int : OpNS X oInt (fun xs H Q => (∃ i, xs = [.int i] ∧ Q (.int i) H) ∨ ∃ k, xs = [.bl k] ∧ Q (.int (if k then 1 else 0)) H) := by
  intro Wx hid μ st σ H Q ws vs k r P
  unfold oInt at P
  split at P
  · obtain ⟨v, rfl, r1⟩ := reps1 (ws := []) r
    cases rep_int_inv r1
    exact .inl ⟨_, rfl, P μ H _ k .refl rep_int⟩
  · obtain ⟨v, rfl, r1⟩ := reps1 (ws := []) r
    cases rep_bl_inv r1
    exact .inr ⟨_, rfl, P μ H _ k .refl rep_int⟩
  · exact P.elim

/-! ## lists of bools, of ints -/
def blsW : List W → Option (List Bool)
  | [] => some []
  | .bl b :: r => (blsW r).map (b :: ·)
  | _ => none
def intsW : List W → Option (List Int)
  | [] => some []
  | .int b :: r => (intsW r).map (b :: ·)
  | _ => none
theorem blsW_at {K : PySem.W.Frag} {mg : Str → Option Value} {F : Hp} {μ : List Addr} : ∀ {ws : List W} {bs : List Bool} {vs : List V}, blsW ws = some bs → Reps K mg F μ ws vs → vs = bs.map V.bl
  | [], bs, vs, h, r => by unfold blsW at h; cases h; rw [Reps.nil_iff] at r; subst r; rfl
  | .bl b :: ws, bs, vs, h, r => by
    unfold blsW at h
    obtain ⟨v, t, rfl, h1, h2⟩ := r.cons_inv
    cases e : blsW ws with
    | none => rw [e] at h; cases h
    | some ms => rw [e] at h; cases h; rw [rep_bl_inv h1, blsW_at e h2]; rfl
  | .non :: _, _, _, h, _ | .ty _ :: _, _, _, h, _ | .int _ :: _, _, _, h, _ | .str _ :: _, _, _, h, _ | .tup _ :: _, _, _, h, _ | .lst _ :: _, _, _, h, _ | .dct _ _ :: _, _, _, h, _ | .ins _ _ _ :: _, _, _, h, _ | .cell _ :: _, _, _, h, _ | .ro _ :: _, _, _, h, _ | .tpn _ :: _, _, _, h, _ | .cls _ :: _, _, _, h, _ => by unfold blsW at h; cases h
theorem intsW_at {K : PySem.W.Frag} {mg : Str → Option Value} {F : Hp} {μ : List Addr} : ∀ {ws : List W} {bs : List Int} {vs : List V}, intsW ws = some bs → Reps K mg F μ ws vs → vs = bs.map V.int
  | [], bs, vs, h, r => by unfold intsW at h; cases h; rw [Reps.nil_iff] at r; subst r; rfl
  | .int b :: ws, bs, vs, h, r => by
    unfold intsW at h
    obtain ⟨v, t, rfl, h1, h2⟩ := r.cons_inv
    cases e : intsW ws with
    | none => rw [e] at h; cases h
    | some ms => rw [e] at h; cases h; rw [rep_int_inv h1, intsW_at e h2]; rfl
  | .non :: _, _, _, h, _ | .ty _ :: _, _, _, h, _ | .bl _ :: _, _, _, h, _ | .str _ :: _, _, _, h, _ | .tup _ :: _, _, _, h, _ | .lst _ :: _, _, _, h, _ | .dct _ _ :: _, _, _, h, _ | .ins _ _ _ :: _, _, _, h, _ | .cell _ :: _, _, _, h, _ | .ro _ :: _, _, _, h, _ | .tpn _ :: _, _, _, h, _ | .cls _ :: _, _, _, h, _ => by unfold intsW at h; cases h
/-- f of a list of bools -/
def oBls (f : List Bool → Bool) : OpN := fun ws st => match ws with
  | [x] => match (lstW st x).bind blsW with
    | some bs => .ok (.bl (f bs)) st
    | none => .bad
  | _ => .bad
theorem bls_of {hid μ : List Addr} {st : Sto} {H : Hp} (k : StOk X.K X.mg μ st hid H) {x : W} {bs : List Bool} {v : V} (h : (lstW st x).bind blsW = some bs) (r : Rep X.K X.mg (Fz μ st hid H) μ x v) : ∃ a, v = .ref a ∧ SqL X.K H a (bs.map V.bl) := by
  cases e : lstW st x with
  | none => rw [e] at h; cases h
  | some us =>
    rw [e] at h
    obtain ⟨a, xs, rfl, h1, h2⟩ := lstW_at k e r
    rw [blsW_at h h2] at h1
    exact ⟨a, rfl, h1⟩
theorem ints_of {hid μ : List Addr} {st : Sto} {H : Hp} (k : StOk X.K X.mg μ st hid H) {x : W} {bs : List Int} {v : V} (h : (lstW st x).bind intsW = some bs) (r : Rep X.K X.mg (Fz μ st hid H) μ x v) : ∃ a, v = .ref a ∧ SqL X.K H a (bs.map V.int) := by
  cases e : lstW st x with
  | none => rw [e] at h; cases h
  | some us =>
    rw [e] at h
    obtain ⟨a, xs, rfl, h1, h2⟩ := lstW_at k e r
    rw [intsW_at h h2] at h1
    exact ⟨a, rfl, h1⟩
def oAll : OpN := oBls fun bs => bs.all id
def oAny : OpN := oBls fun bs => bs.any id
theorem os_all : OpNS X oAll (rAll X.K) := by
  intro Wx hid μ st σ H Q ws vs k r P
  unfold oAll oBls at P
  split at P
  · obtain ⟨v, rfl, r1⟩ := reps1 (ws := []) r
    split at P
    · rename_i bs e
      obtain ⟨a, rfl, h1⟩ := bls_of k e r1
      exact ⟨a, bs, rfl, h1, P μ H _ k .refl rep_bl⟩
    · exact P.elim
  · exact P.elim
theorem os_any : OpNS X oAny (rAny X.K) := by
  intro Wx hid μ st σ H Q ws vs k r P
  unfold oAny oBls at P
  split at P
  · obtain ⟨v, rfl, r1⟩ := reps1 (ws := []) r
    split at P
    · rename_i bs e
      obtain ⟨a, rfl, h1⟩ := bls_of k e r1
      exact ⟨a, bs, rfl, h1, P μ H _ k .refl rep_bl⟩
    · exact P.elim
  · exact P.elim
def oSum : OpN := fun ws st => match ws with
  | [x] => match (lstW st x).bind intsW with
    | some bs => .ok (.int bs.sum) st
    | none => .bad
  | _ => .bad
theorem os_sum : OpNS X oSum (rSum X.K) := by
  intro Wx hid μ st σ H Q ws vs k r P
  unfold oSum at P
  split at P
  · obtain ⟨v, rfl, r1⟩ := reps1 (ws := []) r
    split at P
    · rename_i bs e
      obtain ⟨a, rfl, h1⟩ := ints_of k e r1
      exact ⟨a, bs, rfl, h1, P μ H _ k .refl rep_int⟩
    · exact P.elim
  · exact P.elim
/-- tuple(reversed(e)) -/
def oTupRev : Op1 := fun x st => match lstW st x with
  | some us => .ok (.tup us.reverse) st
  | none => .bad
theorem os_tupRev : Op1S X oTupRev (fun v H Q => ∃ (a : Addr) (xs : List V), v = .ref a ∧ SqL X.K H a xs ∧ ∀ q, H q = none → Q (.ref q) (upd H q (.tup xs.reverse))) := by
  intro Wx hid μ st σ H Q w x k rx P
  unfold oTupRev at P
  split at P
  · rename_i us e
    obtain ⟨a, xs, rfl, h1, h2⟩ := lstW_at k e rx
    exact ⟨a, xs, rfl, h1, fun q hq => ok_new P k hq fun F l e => rep_tup e ((h2.mono l (.refl _)).reverse)⟩
  · exact P.elim
theorem ev_tupRev {Wx : Wish} {e : Expr} {f : Sem} {p p2 pos pos2 : Pos} (hc : X.calm = true) (hm : X.mg "tuple" = none) (hm2 : X.mg "reversed" = none) (he : EV X Wx e f) (hg : Gl X "tuple" := by rfl) (hg2 : Gl X "reversed" := by rfl) (hs : starEach [e] X.env = (false, eval e X.env) :: starEach [] X.env := by rfl) : EV X Wx (.Call (.Name "tuple" p) [.Call (.Name "reversed" p2) [e] [] pos2] [] pos) (e1 oTupRev f) :=
  PEm (RT.pe_tupRev hc hg hm hg2 hm2 he (hs := hs)) (e1_read os_tupRev)

/-! ## an item -/
theorem atI_rep {K : PySem.W.Frag} {mg : Str → Option Value} {F : Hp} {μ : List Addr} {ws : List W} {vs : List V} {i : Int} {w : W} (r : Reps K mg F μ ws vs) (h : atI ws i = some w) : ∃ v, atI vs i = some v ∧ Rep K mg F μ w v := by
  unfold atI at h ⊢
  rw [← r.length]
  cases e : ixN ws.length i with
  | none => rw [e] at h; cases h
  | some j =>
    rw [e] at h
    exact r.get h
def oIx : Op2 := fun x y st => match y with
  | .int i => match x with
    | .str z => if z.length ≤ LINE then (match atI z.cps.toList i with
      | some c => .ok (.str ⟨#[c]⟩) st
      | none => .bad) else .bad
    | _ => match (seqW st x).bind fun ws => atI ws i with
      | some w => .ok w st
      | none => .bad
  | _ => .bad
theorem os_ix : Op2S X oIx (rIx X.K) := by
  intro Wx hid μ st σ H Q w u x y k rx ry P
  unfold oIx at P
  split at P
  · rename_i i
    cases rep_int_inv ry
    split at P
    · rename_i z
      cases rep_str_inv rx
      split at P
      · rename_i hz
        split at P
        · rename_i c e
          exact .inr (.inr ⟨z, i, c, rfl, rfl, le_line hz, e, P μ H _ k .refl rep_str⟩)
        · exact P.elim
      · exact P.elim
    · split at P
      · rename_i w' e
        cases e2 : seqW st w with
        | none => rw [e2] at e; cases e
        | some ws =>
          rw [e2] at e
          obtain ⟨a, vs, rfl, h1, h2⟩ := seqW_at k e2 rx
          obtain ⟨v, h3, h4⟩ := atI_rep h2 e
          rcases h1 with h1 | h1
          · exact .inl ⟨a, vs, i, v, rfl, rfl, h1, h3, P μ H _ k .refl h4⟩
          · exact .inr (.inl ⟨a, vs, i, v, rfl, rfl, h1, h3, P μ H _ k .refl h4⟩)
      · exact P.elim
  · exact P.elim

/-! ## slices -/
def cutW (ws : List W) (lo hi : Option Int) : List W := (ws.drop (HT.sIx ws.length 0 lo)).take (HT.sIx ws.length ws.length hi - HT.sIx ws.length 0 lo)
theorem cutW_rep {K : PySem.W.Frag} {mg : Str → Option Value} {F : Hp} {μ : List Addr} {ws : List W} {vs : List V} (lo hi : Option Int) (r : Reps K mg F μ ws vs) : Reps K mg F μ (cutW ws lo hi) (cutV vs lo hi) := by
  unfold cutW cutV
  rw [← r.length]
  exact (r.drop _).take _
abbrev SemO := Fr → Sto → Out (Option Int)
def pNo : SemO := fun _ st => .ok none st
def pYes (f : Sem) : SemO := fun fr st => (f fr st).bind fun w st1 => match w with
  | .int i => .ok (some i) st1
  | _ => .bad
def OPost (K : PySem.W.Frag) (mg : Str → Option Value) (Wx : WX) (hid μ : List Addr) (st : Sto) (σ : L2.St) (H : Hp) (Q : Option Int → Hp → Prop) : Out (Option Int) → Prop
  | .ok b st' => ∀ μ' H', StOk K mg μ' st' hid H' → Grow hid μ st H μ' st' H' → Q b H'
  | .err x st' => ∀ μ' H' c d, StOk K mg μ' st' hid H' → Grow hid μ st H μ' st' H' → XRep K mg (Fz μ' st' hid H') μ' x c d → Wx c d σ H'
  | .bad => False
def tO (K : PySem.W.Frag) (mg : Str → Option Value) (Wx : Wish) (f : SemO) : TO := fun σ H Q => ∃ μ st hid fr, SI K mg Wx μ st hid fr σ H ∧ OPost K mg Wx.w hid μ st σ H Q (f fr st)
abbrev OV (X : Cx) (Wx : Wish) (e : Option Expr) (f : SemO) : Prop := PO X e (tO X.K X.mg Wx f)
theorem POm {e : Option Expr} {t t' : TO} (h : PO X e t) (i : ∀ σ H Q, t' σ H Q → t σ H Q) : PO X e t' := ⟨fun pins s σ H Q I q => h.run pins s σ H Q I (i σ H Q q)⟩
variable {Wx : Wish}
theorem ov_no : OV X Wx none pNo := POm po_none fun σ H Q ⟨μ, st, hid, fr, S, P⟩ => P μ H S.sto .refl
theorem ov_yes {e : Expr} {f : Sem} (h : EV X Wx e f) : OV X Wx (some e) (pYes f) := POm (po_some h) fun σ H Q ⟨μ, st, hid, fr, S, P⟩ => by
  refine ⟨μ, st, hid, fr, S, ?_⟩
  unfold pYes at P
  cases h : f fr st with
  | bad => rw [h] at P; exact P
  | err x s => rw [h] at P; exact P
  | ok w st1 =>
    rw [h, Out.bind_ok] at P
    intro μ1 H1 v k1 g1 r1
    cases w with
    | int i => exact ⟨i, rep_int_inv r1, P μ1 H1 k1 g1⟩
    | _ => exact P.elim
def oSl (x : W) (lo hi : Option Int) (st : Sto) : Out W := match x with
  | .str z => if z.length ≤ LINE then .ok (.str (cutS z lo hi)) st else .bad
  | _ => match lstW st x with
    | some ws => .ok (.lst (cutW ws lo hi)) st
    | none => match trkW st x with
      | some ws => .ok (.tup (cutW ws lo hi)) st
      | none => .bad
def eSl (f : Sem) (l h : SemO) : Sem := fun fr st => (f fr st).bind fun x st1 => (l fr st1).bind fun lo st2 => (h fr st2).bind fun hi st3 => oSl x lo hi st3
def rSlAll (K : PySem.W.Frag) : V → Option Int → Option Int → Hp → VK → Prop := fun x lo hi H Q => rSlS x lo hi H Q ∨ rSlL K x lo hi H Q ∨ rSlA K x lo hi H Q
theorem sr_all : SlR X (rSlAll X.K) := sl_str.or (sl_list.or sl_tupA)
theorem cutW_whole {ws : List W} {lo hi : Option Int} (h : HT.sIx ws.length 0 lo = 0 ∧ HT.sIx ws.length ws.length hi = ws.length) : cutW ws lo hi = ws := by
  unfold cutW
  rw [h.1, h.2]
  simp
theorem os_sl {Wx : WX} {hid μ : List Addr} {st : Sto} {σ : L2.St} {H : Hp} {Q : VK} {w : W} {x : V} {lo hi : Option Int} (k : StOk X.K X.mg μ st hid H) (rx : Rep X.K X.mg (Fz μ st hid H) μ w x)
    (P : EPost X.K X.mg Wx hid μ st σ H Q (oSl w lo hi st)) : rSlAll X.K x lo hi H Q := by
  unfold oSl at P
  split at P
  · split at P
    · rename_i hz
      cases rep_str_inv rx
      exact .inl ⟨_, rfl, le_line hz, P μ H _ k .refl rep_str⟩
    · exact P.elim
  · split at P
    · rename_i ws e
      obtain ⟨a, xs, rfl, h1, h2⟩ := lstW_at k e rx
      exact .inr (.inl ⟨a, xs, rfl, h1, fun p hp => ok_new P k hp fun F l e => rep_lst e ((cutW_rep lo hi h2).mono l (.refl _))⟩)
    · split at P
      · rename_i ws e
        obtain ⟨a, xs, rfl, h1, h2⟩ := trkW_at k e rx
        refine .inr (.inr ⟨a, xs, rfl, h1.fz, fun hw => ?_, fun _ p hp => ok_new P k hp fun F l e => rep_tup e ((cutW_rep lo hi h2).mono l (.refl _))⟩)
        rw [← h2.length] at hw
        rw [cutW_whole hw] at P
        refine P μ H _ k .refl ?_
        unfold Rep
        exact ⟨a, xs, rfl, h1, h2⟩
      · exact P.elim
theorem ev_sl {e : Expr} {l h : Option Expr} {f : Sem} {fl fh : SemO} {p2 pos : Pos} (he : EV X Wx e f) (hl : OV X Wx l fl) (hh : OV X Wx h fh) : EV X Wx (.Subscript e (.Slice l h none p2) pos) (eSl f fl fh) := PEm (pe_slice sr_all he hl hh) fun σ H Q ⟨μ, st, hid, fr, S, P⟩ => by
  refine ⟨μ, st, hid, fr, S, ?_⟩
  unfold eSl at P
  cases h1 : f fr st with
  | bad => rw [h1] at P; exact P
  | err x s => rw [h1] at P; exact P
  | ok x st1 =>
    rw [h1, Out.bind_ok] at P
    intro μ1 H1 vx k1 g1 r1
    refine ⟨μ1, st1, hid, fr, S.next k1 g1, ?_⟩
    have P1 := EPost.from g1 P
    cases h2 : fl fr st1 with
    | bad => rw [h2] at P1; exact P1
    | err x s => rw [h2] at P1; exact P1
    | ok lo st2 =>
      rw [h2, Out.bind_ok] at P1
      intro μ2 H2 k2 g2
      refine ⟨μ2, st2, hid, fr, (S.next k1 g1).next k2 g2, ?_⟩
      have P2 := EPost.from g2 P1
      cases h3 : fh fr st2 with
      | bad => rw [h3] at P2; exact P2
      | err x s => rw [h3] at P2; exact P2
      | ok hi st3 =>
        rw [h3, Out.bind_ok] at P2
        intro μ3 H3 k3 g3
        exact os_sl k3 (Rep.mono (g2.trans g3).le (g2.trans g3).pre _ _ r1) (EPost.from g3 P2)
end
end SL

namespace SL
open PySem PySem.Spec PyProof.Rows L2

/-! ## targets -/
abbrev TgF := W → Fr → Sto → Option Fr
abbrev TgsF := List W → Fr → Sto → Option Fr
def gNm (i : Nat) : TgF := fun w fr _ => some (fr.set i (some w))
def gsNil : TgsF := fun ws fr _ => match ws with
  | [] => some fr
  | _ => none
def gsCons (g : TgF) (r : TgsF) : TgsF := fun ws fr st => match ws with
  | w :: us => (g w fr st).bind fun fr1 => r us fr1 st
  | [] => none
def gTp (n : Nat) (r : TgsF) : TgF := fun w fr st => match tupW st w with
  | some ws => if ws.length = n then r ws fr st else none
  | none => none
/-- all but the slots at sl is as it was -/
def Agree (sl : List Nat) (σ σ' : L2.St) : Prop := σ'.length = σ.length ∧ ∀ j, j ∉ sl → σ'[j]? = σ[j]?
theorem Agree.refl (sl : List Nat) (σ : L2.St) : Agree sl σ σ := ⟨rfl, fun _ _ => rfl⟩
theorem Agree.trans {sl sl' : List Nat} {σ σ' σ'' : L2.St} (a : Agree sl σ σ') (b : Agree sl' σ' σ'') : Agree (sl ++ sl') σ σ'' :=
  ⟨b.1.trans a.1, fun j h => (b.2 j fun z => h (List.mem_append_right _ z)).trans (a.2 j fun z => h (List.mem_append_left _ z))⟩
section
variable {X : Cx} {Wx : Wish}
def tG (K : PySem.W.Frag) (mg : Str → Option Value) (Wx : Wish) (g : TgF) (sl : List Nat) : TG := fun v σ H Q => ∃ μ st hid fr w fr', SI K mg Wx μ st hid fr σ H ∧ Rep K mg (Fz μ st hid H) μ w v ∧ g w fr st = some fr' ∧ ∀ σ', SI K mg Wx μ st hid fr' σ' H → Agree sl σ σ' → Q σ' H
def tGs (K : PySem.W.Frag) (mg : Str → Option Value) (Wx : Wish) (g : TgsF) (sl : List Nat) : TGs := fun vs σ H Q => ∃ μ st hid fr ws fr', SI K mg Wx μ st hid fr σ H ∧ Reps K mg (Fz μ st hid H) μ ws vs ∧ g ws fr st = some fr' ∧ ∀ σ', SI K mg Wx μ st hid fr' σ' H → Agree sl σ σ' → Q σ' H
abbrev GV (X : Cx) (Wx : Wish) (e : Expr) (g : TgF) (sl : List Nat) : Prop := PG X e (tG X.K X.mg Wx g sl)
abbrev GsV (X : Cx) (Wx : Wish) (es : List Expr) (g : TgsF) (sl : List Nat) : Prop := PGs X es (tGs X.K X.mg Wx g sl)
theorem PGm {e : Expr} {t t' : TG} (h : PG X e t) (i : ∀ v σ H Q, t' v σ H Q → t v σ H Q) : PG X e t' := ⟨fun pins s σ H v u Q I r q => h.run pins s σ H v u Q I r (i v σ H Q q)⟩
theorem PGsm {e : List Expr} {t t' : TGs} (h : PGs X e t) (i : ∀ v σ H Q, t' v σ H Q → t v σ H Q) : PGs X e t' := ⟨fun pins s σ H v u Q I r q => h.run pins s σ H v u Q I r (i v σ H Q q)⟩
theorem gv_nm {i : Nat} {x : Str} {pos : Pos} (hN : X.N.Nodup) (hi : X.N[i]? = some x := by rfl) (hx : Loc X.env.scope x := by first | exact Or.inl rfl | exact Or.inr rfl) (hf : X.fn x = true ∨ X.env.scope.names.lookup x = some .local := by first | exact .inl rfl | exact .inr rfl) (hk : i ∉ Wx.lock := by first | exact List.not_mem_nil | decide) : GV X Wx (.Name x pos) (gNm i) [i] :=
  PGm (pg_name hN hi hx hf) fun v σ H Q ⟨μ, st, hid, fr, w, fr', S, r, e, q⟩ => by
    unfold gNm at e
    cases e
    exact q _ (S.set i hk r) ⟨by simp, fun j h => by rw [List.getElem?_set_ne]; simp at h; exact fun z => h z.symm⟩
theorem gvs_nil : GsV X Wx [] gsNil [] := PGsm pgs_nil fun vs σ H Q ⟨μ, st, hid, fr, ws, fr', S, r, e, q⟩ => by
  unfold gsNil at e
  split at e
  · cases e
    rw [Reps.nil_iff] at r
    exact ⟨r, q _ S (.refl _ _)⟩
  · cases e
theorem gvs_cons {e : Expr} {es : List Expr} {g : TgF} {r : TgsF} {sl sl' : List Nat} (h1 : GV X Wx e g sl) (h2 : GsV X Wx es r sl') (hs : (assignEach (e :: es) X.env).map (·.2) = assign e X.env :: (assignEach es X.env).map (·.2) := by rfl) : GsV X Wx (e :: es) (gsCons g r) (sl ++ sl') :=
  PGsm (pgs_cons h1 h2 hs) fun vs σ H Q ⟨μ, st, hid, fr, ws, fr', S, rr, e, q⟩ => by
    unfold gsCons at e
    split at e
    · rename_i w us
      obtain ⟨v, vr, rfl, r1, r2⟩ := rr.cons_inv
      cases e1 : g w fr st with
      | none => rw [e1] at e; cases e
      | some fr1 =>
        rw [e1] at e
        exact ⟨v, vr, rfl, μ, st, hid, fr, w, fr1, S, r1, e1, fun σ1 S1 a1 => ⟨μ, st, hid, fr1, us, fr', S1, r2, e, fun σ2 S2 a2 => q σ2 S2 (a1.trans a2)⟩⟩
    · cases e
theorem gv_tp {es : List Expr} {k n : Nat} {r : TgsF} {sl : List Nat} {pos : Pos} (hc : X.calm = true) (h : GsV X Wx es r sl) (hn : (assignEach es X.env).length = n := by rfl) (hst : (assignEach es X.env).findIdx? (·.1) = none := by rfl) : GV X Wx (.Tuple es k pos) (gTp n r) sl :=
  PGm (pg_tup hc h hn hst) fun v σ H Q ⟨μ, st, hid, fr, w, fr', S, rr, e, q⟩ => by
    unfold gTp at e
    split at e
    · rename_i ws e1
      split at e
      · rename_i hl
        obtain ⟨a, vs, rfl, h1, h2⟩ := tupW_at S.sto e1 rr
        exact ⟨a, vs, rfl, h1, by rw [← h2.length]; exact hl, μ, st, hid, fr, ws, fr', S, h2, e, q⟩
      · cases e
    · cases e
end

/-! ## what is walked -/
abbrev SemI := Fr → Sto → Out (W × List W)
def numbered (ws : List W) : List W := ws.mapIdx fun i w => .tup [.int (i : Nat), w]
/-- the walked thing holds what it held; .int k stands for the list in cell k, numbered -/
def srcOk (x : W) (ws : List W) (st : Sto) : Prop := match x with
  | .cell _ => lstW st x = some ws
  | .int k => ∃ us, lstW st (.cell k.toNat) = some us ∧ ws = numbered us
  | _ => True
/-- the iterator J gives the items ws; F, μ0: where it began -/
structure ItOk (K : PySem.W.Frag) (mg : Str → Option Value) (J : It) (x : W) (ws : List W) (F : Hp) (μ0 : List Addr) (L : Hp) : Prop where
  len : ws.length ≤ sizeLine
  go : ∀ hid μ st H i, StOk K mg μ st hid H → Le F (Fz μ st hid H) → Pre μ0 μ → Lk L H → srcOk x ws st → i < ws.length → J.go i H
  yld : ∀ hid μ st H i v H', StOk K mg μ st hid H → Le F (Fz μ st hid H) → Pre μ0 μ → Lk L H → srcOk x ws st → i < ws.length → J.yld i H v H' →
    StOk K mg μ st hid H' ∧ Grow hid μ st H μ st H' ∧ ∃ w, ws[i]? = some w ∧ Rep K mg (Fz μ st hid H') μ w v
  stop : ∀ hid μ st H i, StOk K mg μ st hid H → Le F (Fz μ st hid H) → Pre μ0 μ → Lk L H → srcOk x ws st → ws.length ≤ i → J.stop i H
def IPost (K : PySem.W.Frag) (mg : Str → Option Value) (Wx : WX) (hid μ : List Addr) (st : Sto) (σ : L2.St) (H : Hp) (R : It → Hp → Prop) : Out (W × List W) → Prop
  | .ok (x, ws) st' => ∀ μ' H' J, StOk K mg μ' st' hid H' → Grow hid μ st H μ' st' H' → ItOk K mg J x ws (Fz μ' st' hid H') μ' H' → R J H'
  | .err x st' => ∀ μ' H' c d, StOk K mg μ' st' hid H' → Grow hid μ st H μ' st' H' → XRep K mg (Fz μ' st' hid H') μ' x c d → Wx c d σ H'
  | .bad => False
def tI (K : PySem.W.Frag) (mg : Str → Option Value) (Wx : Wish) (f : SemI) : TI := fun σ H R => ∃ μ st hid fr, SI K mg Wx μ st hid fr σ H ∧ IPost K mg Wx.w hid μ st σ H R (f fr st)
abbrev IV (X : Cx) (Wx : Wish) (tg e : Expr) (f : SemI) : Prop := PI X tg e (tI X.K X.mg Wx f)
theorem PIm {X : Cx} {tg e : Expr} {t t' : TI} (h : PI X tg e t) (i : ∀ σ H R, t' σ H R → t σ H R) : PI X tg e t' := ⟨fun pins s σ H R I q => h.run pins s σ H R I (i σ H R q)⟩
theorem IPost.from {K : PySem.W.Frag} {mg : Str → Option Value} {Wx : WX} {hid μ μ' : List Addr} {st st' : Sto} {σ : L2.St} {H H' : Hp} {R : It → Hp → Prop} {o : Out (W × List W)} (x : Grow hid μ st H μ' st' H') (h : IPost K mg Wx hid μ st σ H R o) : IPost K mg Wx hid μ' st' σ H' R o := by
  cases o with
  | ok w s => exact fun μ2 H2 v a b c => h μ2 H2 v a (x.trans b) c
  | err e s => exact fun μ2 H2 c d a b r => h μ2 H2 c d a (x.trans b) r
  | bad => exact h
section
variable {X : Cx} {Wx : Wish} {tg : Expr}
/-- a list or a tuple, walked -/
def iSeqT (K : PySem.W.Frag) (tl : TE) : TI := fun σ H R => tl σ H fun x H1 => ∃ a xs, x = .ref a ∧ ((SqL K H1 a xs ∧ (xs.length ≤ sizeLine → R (Itl K a) H1)) ∨ (SqT K H1 a xs ∧ (xs.length ≤ sizeLine → R (Itt K a) H1)))
theorem pi_seqT {l : Expr} {tl : TE} (hl : PE X l tl) : PI X tg l (iSeqT X.K tl) := by
  refine ⟨fun pins s σ H R I hh => thn (hl.run pins s σ H _ I hh) fun u s' ⟨y, HH, J1, ry, a, zs, ey, qq⟩ => ?_⟩
  subst ey
  cases ry
  rcases qq with ⟨hq, qq⟩ | ⟨hq, qq⟩
  · obtain ⟨us, ru, pp, hle⟩ := J1.list hq
    refine wpAny_pyIter_list pp.isList ⟨_, [s'.heap.objs.size], _, _, HH, rfl, J1.kept (t' := s'.toks) fun c oo ee => Heap.get?_push_of_some _ ee, turn_list a _, ⟨_, Heap.get?_push_size _ rfl, rfl, rfl⟩, fun c hc => ?_, qq hle⟩
    cases (List.mem_singleton.mp hc)
    exact J1.fpOk (Nat.le_refl _) (J1.hok.fresh (Nat.le_refl _))
  · obtain ⟨us, ru, pp, hle⟩ := J1.tuple hq
    refine wpAny_pyIter_tuple (show s'.heap.IsTuple a us.toArray from pp) ⟨_, [s'.heap.objs.size], _, _, HH, rfl, J1.kept (t' := s'.toks) fun c oo ee => Heap.get?_push_of_some _ ee, turn_tuple a _, ⟨_, Heap.get?_push_size _ rfl, rfl, rfl⟩, fun c hc => ?_, qq hle⟩
    cases (List.mem_singleton.mp hc)
    exact J1.fpOk (Nat.le_refl _) (J1.hok.fresh (Nat.le_refl _))
def itW (st : Sto) (x : W) : Option (List W) := match x with
  | .cell _ => lstW st x
  | _ => seqW st x
def iSeq (f : Sem) : SemI := fun fr st => (f fr st).bind fun x st1 => match itW st1 x with
  | some ws => .ok (x, ws) st1
  | none => .bad
/-- a list in the air -/
theorem itOk_list {K : PySem.W.Frag} {mg : Str → Option Value} {x : W} {ws : List W} {F L : Hp} {μ0 : List Addr} {a : Addr} (hl : ws.length ≤ sizeLine)
    (now : ∀ hid μ st H, StOk K mg μ st hid H → Le F (Fz μ st hid H) → Pre μ0 μ → srcOk x ws st → ∃ vs, SqL K H a vs ∧ Reps K mg (Fz μ st hid H) μ ws vs) : ItOk K mg (Itl K a) x ws F μ0 L where
  len := hl
  go := fun hid μ st H i k l p _ s hi => by
    obtain ⟨vs, h1, h2⟩ := now hid μ st H k l p s
    exact ⟨vs, vs[i]'(by rw [← h2.length]; exact hi), h1, by simp⟩
  yld := fun hid μ st H i v H' k l p _ s hi y => by
    obtain ⟨vs, h1, h2⟩ := now hid μ st H k l p s
    obtain ⟨rfl, y⟩ := y
    exact ⟨k, .refl, h2.get' (y vs h1)⟩
  stop := fun hid μ st H i k l p _ s hi => by
    obtain ⟨vs, h1, h2⟩ := now hid μ st H k l p s
    exact ⟨vs, h1, by rw [← h2.length]; exact hi⟩
theorem itOk_tup {K : PySem.W.Frag} {mg : Str → Option Value} {x : W} {ws : List W} {F L : Hp} {μ0 : List Addr} {a : Addr} (hl : ws.length ≤ sizeLine)
    (now : ∀ hid μ st H, StOk K mg μ st hid H → Le F (Fz μ st hid H) → Pre μ0 μ → srcOk x ws st → ∃ vs, SqT K H a vs ∧ Reps K mg (Fz μ st hid H) μ ws vs) : ItOk K mg (Itt K a) x ws F μ0 L where
  len := hl
  go := fun hid μ st H i k l p _ s hi => by
    obtain ⟨vs, h1, h2⟩ := now hid μ st H k l p s
    exact ⟨vs, vs[i]'(by rw [← h2.length]; exact hi), h1, by simp⟩
  yld := fun hid μ st H i v H' k l p _ s hi y => by
    obtain ⟨vs, h1, h2⟩ := now hid μ st H k l p s
    obtain ⟨rfl, y⟩ := y
    exact ⟨k, .refl, h2.get' (y vs h1)⟩
  stop := fun hid μ st H i k l p _ s hi => by
    obtain ⟨vs, h1, h2⟩ := now hid μ st H k l p s
    exact ⟨vs, h1, by rw [← h2.length]; exact hi⟩
/-- a list or tuple value: how it stands later -/
theorem seq_now {K : PySem.W.Frag} {mg : Str → Option Value} {hid0 μ0 : List Addr} {st0 : Sto} {H0 : Hp} {x : W} {ws : List W} {v : V} (k0 : StOk K mg μ0 st0 hid0 H0) (h : itW st0 x = some ws) (r : Rep K mg (Fz μ0 st0 hid0 H0) μ0 x v) :
    ∃ a vs0, v = .ref a ∧ vs0.length = ws.length ∧ ((SqL K H0 a vs0 ∧ ∀ hid μ st H, StOk K mg μ st hid H → Le (Fz μ0 st0 hid0 H0) (Fz μ st hid H) → Pre μ0 μ → srcOk x ws st → ∃ vs, SqL K H a vs ∧ Reps K mg (Fz μ st hid H) μ ws vs) ∨
      (SqT K H0 a vs0 ∧ ∀ hid μ st H, StOk K mg μ st hid H → Le (Fz μ0 st0 hid0 H0) (Fz μ st hid H) → Pre μ0 μ → srcOk x ws st → ∃ vs, SqT K H a vs ∧ Reps K mg (Fz μ st hid H) μ ws vs)) := by
  cases x with
  | lst us =>
    have e : us = ws := by unfold itW seqW lstW at h; exact Option.some.inj h
    subst e
    obtain ⟨a, vs, rfl, h1, h2⟩ := rep_lst_inv r
    exact ⟨a, vs, rfl, h2.length.symm, .inl ⟨SqL.fz h1, fun hid μ st H k l p _ => ⟨vs, SqL.fz (l.lst h1), h2.mono l p⟩⟩⟩
  | ro us =>
    have e : us = ws := by unfold itW seqW lstW at h; exact Option.some.inj h
    subst e
    obtain ⟨a, vs, rfl, h1, h2⟩ := rep_ro_inv r
    exact ⟨a, vs, rfl, h2.length.symm, .inl ⟨SqL.fz' h1, fun hid μ st H k l p _ => ⟨vs, SqL.fz' (SqL.le l h1), h2.mono l p⟩⟩⟩
  | tup us =>
    have e : us = ws := by unfold itW seqW lstW at h; exact Option.some.inj h
    subst e
    obtain ⟨a, vs, rfl, h1, h2⟩ := rep_tup_inv r
    exact ⟨a, vs, rfl, h2.length.symm, .inr ⟨h1.fz, fun hid μ st H k l p _ => ⟨vs, (h1.le l).fz, h2.mono l p⟩⟩⟩
  | tpn us =>
    have e : us = ws := by unfold itW seqW lstW at h; exact Option.some.inj h
    subst e
    obtain ⟨a, vs, rfl, h1, h2⟩ := rep_tpn_inv r
    exact ⟨a, vs, rfl, h2.length.symm, .inr ⟨h1.fz, fun hid μ st H k l p _ => ⟨vs, (h1.le l).fz, h2.mono l p⟩⟩⟩
  | cell n =>
    have h' : lstW st0 (.cell n) = some ws := h
    obtain ⟨a, vs, rfl, h1, h2⟩ := lstW_at k0 h' r
    obtain ⟨b, e1, e2⟩ := rep_cell_inv r
    cases e2
    refine ⟨a, vs, rfl, h2.length.symm, .inl ⟨h1, fun hid μ st H k l p s => ?_⟩⟩
    have s' : lstW st (.cell n) = some ws := s
    have r' : Rep K mg (Fz μ st hid H) μ (.cell n) (.ref a) := by unfold Rep; exact ⟨a, p.get e1, rfl⟩
    obtain ⟨c, us, e3, h3, h4⟩ := lstW_at k s' r'
    cases e3
    exact ⟨us, h3, h4⟩
  | _ => cases h
theorem iv_seq {e : Expr} {f : Sem} (he : EV X Wx e f) : IV X Wx tg e (iSeq f) := PIm (pi_seqT he) fun σ H R ⟨μ, st, hid, fr, S, P⟩ => by
  refine ⟨μ, st, hid, fr, S, ?_⟩
  unfold iSeq at P
  cases h1 : f fr st with
  | bad => rw [h1] at P; exact P
  | err x s => rw [h1] at P; exact P
  | ok x st1 =>
    rw [h1, Out.bind_ok] at P
    intro μ1 H1 v k1 g1 r1
    have P1 := IPost.from g1 P
    split at P1
    · rename_i ws e
      obtain ⟨a, vs, rfl, hl, q | q⟩ := seq_now k1 e r1
      · exact ⟨a, vs, rfl, .inl ⟨q.1, fun hz => P1 μ1 H1 _ k1 .refl (itOk_list (by rw [← hl]; exact hz) q.2)⟩⟩
      · exact ⟨a, vs, rfl, .inr ⟨q.1, fun hz => P1 μ1 H1 _ k1 .refl (itOk_tup (by rw [← hl]; exact hz) q.2)⟩⟩
    · exact P1.elim
/-- range -/
def rngW (lo c : Int) (n : Nat) : List W := (List.range n).map fun (i : Nat) => W.int (lo + (i : Int) * c)
theorem rngW_length (lo c : Int) (n : Nat) : (rngW lo c n).length = n := by unfold rngW; simp
theorem rngW_get {lo c : Int} {n i : Nat} (h : i < n) : (rngW lo c n)[i]? = some (.int (lo + (i : Int) * c)) := by
  unfold rngW
  rw [List.getElem?_map, List.getElem?_range h]; rfl
theorem itOk_rng {K : PySem.W.Frag} {mg : Str → Option Value} {F L : Hp} {μ0 : List Addr} {J : It} {lo c : Int} {n : Nat} (hn : n ≤ LINE) (h1 : ∀ i H, i < n → J.go i H) (h2 : ∀ i H x H', J.yld i H x H' → H' = H ∧ x = .int (lo + (i : Nat) * c)) (h3 : ∀ i H, n ≤ i → J.stop i H) :
    ItOk K mg J .non (rngW lo c n) F μ0 L where
  len := by rw [rngW_length]; exact le_line hn
  go := fun hid μ st H i k l p _ s hi => h1 i H (by rw [rngW_length] at hi; exact hi)
  yld := fun hid μ st H i v H' k l p _ s hi y => by
    rw [rngW_length] at hi
    obtain ⟨rfl, rfl⟩ := h2 i H v H' y
    exact ⟨k, .refl, _, rngW_get hi, rep_int⟩
  stop := fun hid μ st H i k l p _ s hi => h3 i H (by rw [rngW_length] at hi; exact hi)
noncomputable def big (j : Int) : Bool := dec (-(2 ^ 62) ≤ j ∧ j < 2 ^ 62)
theorem big_of {j : Int} (h : big j = true) : -(2 ^ 62) ≤ j ∧ j < 2 ^ 62 := dec_of h
abbrev RgF := List W → Option (Int × Int × Nat)
def iRng (op : RgF) (f : SemL) : SemI := fun fr st => (f fr st).bind fun ws st1 => match op ws with
  | some (lo, c, n) => if n ≤ LINE then .ok (.non, rngW lo c n) st1 else .bad
  | none => .bad
/-- J counts from lo by c, n turns -/
def Cnt (lo c : Int) (n : Nat) (J : It) : Prop := (∀ i H, i < n → J.go i H) ∧ (∀ i H x H', J.yld i H x H' → H' = H ∧ x = .int (lo + (i : Nat) * c)) ∧ ∀ i H, n ≤ i → J.stop i H
theorem iRng_read {op : RgF} {f : SemL} {wi : List V → Hp → (It → Hp → Prop) → Prop} (hw : ∀ (F : Hp) (μ : List Addr) (ws : List W) (vs : List V) (lo c : Int) (n : Nat) (H : Hp) (R : It → Hp → Prop), op ws = some (lo, c, n) → Reps X.K X.mg F μ ws vs → (∀ J, Cnt lo c n J → R J H) → wi vs H R) :
    ∀ σ H R, tI X.K X.mg Wx (iRng op f) σ H R → tA X.K X.mg Wx f σ H (fun vs H1 => wi vs H1 R) := fun σ H R ⟨μ, st, hid, fr, S, P⟩ => by
  refine ⟨μ, st, hid, fr, S, ?_⟩
  unfold iRng at P
  cases h1 : f fr st with
  | bad => rw [h1] at P; exact P
  | err x s => rw [h1] at P; exact P
  | ok ws st1 =>
    rw [h1, Out.bind_ok] at P
    intro μ1 H1 vs k1 g1 r1
    have P1 := IPost.from g1 P
    split at P1
    · rename_i lo c n e
      split at P1
      · rename_i hn
        exact hw _ _ ws vs lo c n H1 R e r1 fun J hJ => P1 μ1 H1 J k1 .refl (itOk_rng hn hJ.1 hJ.2.1 hJ.2.2)
      · exact P1.elim
    · exact P1.elim
theorem cnt_r (lo : Int) (n : Nat) : Cnt lo 1 n (Itr lo n) := ⟨fun _ _ h => h, fun i H x H' h => ⟨h.1, by rw [Int.mul_one]; exact h.2⟩, fun _ _ h => h⟩
theorem cnt_c (lo c : Int) (n : Nat) : Cnt lo c n (Itc lo c n) := ⟨fun _ _ h => h, fun i H x H' h => h, fun _ _ h => h⟩
noncomputable def rg1 : RgF := fun ws => match ws with
  | [.int j] => if big j = true then some (0, 1, j.toNat) else none
  | _ => none
noncomputable def rg2 : RgF := fun ws => match ws with
  | [.int i, .int j] => if big i = true ∧ big j = true then some (i, 1, (j - i).toNat) else none
  | _ => none
/-- a step that is written: up by c, or down by one -/
noncomputable def rg3 : RgF := fun ws => match ws with
  | [.int i, .int j, .int c] => if c = -1 then (if big i = true ∧ big j = true then some (i, -1, (i - j).toNat) else none) else
      if dec (0 < c ∧ c < 1073741824 ∧ Builtin.Range.small i j c = true) = true then some (i, c, (Builtin.Range.rangeSize i j c).toNat) else none
  | _ => none
theorem iv_rng1 {a : Expr} {f : SemL} {p pos : Pos} (hm : X.mg "range" = none) (ha : AV X Wx [a] f) (hg : Gl X "range" := by rfl) (hs : starEach [a] X.env = [(false, eval a X.env)] := by rfl) : IV X Wx tg (.Call (.Name "range" p) [a] [] pos) (iRng rg1 f) :=
  PIm (pi_range1 hg hm ha hs) (iRng_read fun F μ ws vs lo c n H R e r q => by
    unfold rg1 at e
    split at e
    · split at e
      · rename_i j hj
        cases e
        obtain ⟨v, rfl, r1⟩ := reps1 (ws := []) r
        cases rep_int_inv r1
        exact ⟨j, rfl, (big_of hj).1, (big_of hj).2, q _ (cnt_r 0 _)⟩
      · cases e
    · cases e)
theorem iv_rng2 {a b : Expr} {f : SemL} {p pos : Pos} (hm : X.mg "range" = none) (ha : AV X Wx [a, b] f) (hg : Gl X "range" := by rfl) (hs : starEach [a, b] X.env = [(false, eval a X.env), (false, eval b X.env)] := by rfl) (hs2 : starEach [b] X.env = [(false, eval b X.env)] := by rfl) : IV X Wx tg (.Call (.Name "range" p) [a, b] [] pos) (iRng rg2 f) :=
  PIm (pi_range2 hg hm ha hs hs2) (iRng_read fun F μ ws vs lo c n H R e r q => by
    unfold rg2 at e
    split at e
    · split at e
      · rename_i i j hj
        cases e
        obtain ⟨v, x, rfl, r1, r2⟩ := reps2 r
        cases rep_int_inv r1
        cases rep_int_inv r2
        exact ⟨_, j, rfl, ⟨(big_of hj.1).1, (big_of hj.1).2, (big_of hj.2).1, (big_of hj.2).2⟩, q _ (cnt_r _ _)⟩
      · cases e
    · cases e)
theorem rangeSize_up {i j c : Int} (hc : 0 < c) : Builtin.Range.rangeSize i j c = ((Builtin.Range.rangeSize i j c).toNat : Nat) := by
  have : 0 ≤ Builtin.Range.rangeSize i j c := by
    unfold Builtin.Range.rangeSize
    split <;> first | (split <;> first | omega | (apply Int.add_nonneg _ (by omega); exact Int.ediv_nonneg (by omega) (by omega)) | skip) | omega
    all_goals first | omega | exact Int.le_of_lt (by omega) | skip
  omega
theorem iv_rng3 {a b c : Expr} {f : SemL} {p pos : Pos} (hm : X.mg "range" = none) (ha : AV X Wx [a, b, c] f) (hg : Gl X "range" := by rfl) (hs : starEach [a, b, c] X.env = (false, eval a X.env) :: starEach [b, c] X.env := by rfl) (hpl : (backTo pos (starEach [b, c] X.env)).any (·.1) = false := by rfl) :
    IV X Wx tg (.Call (.Name "range" p) [a, b, c] [] pos) (iRng rg3 f) :=
  PIm (pi_range3 hg hm ha hs hpl) (iRng_read fun F μ ws vs lo k n H R e r q => by
    unfold rg3 at e
    split at e
    · rename_i i j c
      obtain ⟨v, t, rfl, r1, r2⟩ := r.cons_inv
      obtain ⟨x, y, rfl, r3, r4⟩ := reps2 r2
      cases rep_int_inv r1
      cases rep_int_inv r3
      cases rep_int_inv r4
      split at e
      · rename_i hc
        split at e
        · rename_i hj
          cases e
          exact ⟨_, j, _, _, rfl, by rw [hc]; exact RgC.neg (big_of hj.1).1 (big_of hj.1).2 (big_of hj.2).1 (big_of hj.2).2, by rw [hc]; exact q _ (cnt_c _ _ _)⟩
        · cases e
      · split at e
        · rename_i hc
          have hc := dec_of hc
          cases e
          exact ⟨_, j, _, _, rfl, ⟨by omega, by omega, hc.2.2, rangeSize_up hc.1⟩, q _ (cnt_c _ _ _)⟩
        · cases e
    · cases e)
/-- a text, sign by sign -/
def sgnW (z : Str) : List W := z.cps.toList.map fun c => W.str ⟨#[c]⟩
def iStrF (f : Sem) : SemI := fun fr st => (f fr st).bind fun x st1 => match x with
  | .str z => if z.length ≤ LINE then .ok (.non, sgnW z) st1 else .bad
  | _ => .bad
end
end SL

namespace SL
open PySem PySem.Spec PyProof.Rows L2

/-! ## hidden objects -/
section
variable {K : PySem.W.Frag} {mg : Str → Option Value} {μ : List Addr} {st : Sto} {hid : List Addr} {H : Hp}
theorem live_cons {p a : Addr} : LiveA μ st (p :: hid) a ↔ a = p ∨ LiveA μ st hid a := by
  unfold LiveA
  constructor
  · rintro (h | h)
    · rcases List.mem_cons.mp h with h | h
      · exact .inl h
      · exact .inr (.inl h)
    · exact .inr (.inr h)
  · rintro (h | h | h)
    · exact .inl (List.mem_cons.mpr (.inl h))
    · exact .inl (List.mem_cons_of_mem _ h)
    · exact .inr h
theorem Fz.hide {p : Addr} (hp : H p = none) : Fz μ st (p :: hid) H = Fz μ st hid H := by
  funext a
  by_cases h : LiveA μ st hid a
  · unfold Fz
    rw [if_pos h, if_pos (live_cons.mpr (.inr h))]
  · by_cases e : a = p
    · subst e
      unfold Fz
      rw [if_pos (live_cons.mpr (.inl rfl)), if_neg h, hp]
    · unfold Fz
      rw [if_neg h, if_neg (fun z => (live_cons.mp z).elim e h)]
theorem Fz.hidUpd {p : Addr} {o : HO} (hm : p ∈ hid) : Fz μ st hid (upd H p o) = Fz μ st hid H := by
  funext a
  by_cases h : LiveA μ st hid a
  · unfold Fz
    rw [if_pos h, if_pos h]
  · have e : a ≠ p := fun e => h (.inl (e ▸ hm))
    unfold Fz
    rw [if_neg h, if_neg h, upd_ne e]
theorem CelOk.of_eq {F : Hp} {H H' : Hp} {a : Addr} {c : Cel} (l : c.live = true → H' a = H a) (h : CelOk K mg F μ H a c) : CelOk K mg F μ H' a c := by
  cases c with
  | lst ws => obtain ⟨vs, e, r⟩ := h; exact ⟨vs, by rw [l rfl]; exact e, r⟩
  | dct ks ws => obtain ⟨vs, e, r⟩ := h; exact ⟨vs, e.of_eq (l rfl), r⟩
  | ins c ns ws => obtain ⟨C, dx, vs, g, l', e, r⟩ := h; exact ⟨C, dx, vs, g, l', by rw [l rfl]; exact e, r⟩
  | frz w => exact h
theorem CelOk.le {F F' : Hp} {μ' : List Addr} {a : Addr} {c : Cel} (x : Le F F') (p : Pre μ μ') (h : CelOk K mg F μ H a c) : CelOk K mg F' μ' H a c := by
  cases c with
  | lst ws => obtain ⟨vs, e, r⟩ := h; exact ⟨vs, e, r.mono x p⟩
  | dct ks ws => obtain ⟨vs, e, r⟩ := h; exact ⟨vs, e, r.mono x p⟩
  | ins c ns ws => obtain ⟨C, dx, vs, g, l', e, r⟩ := h; exact ⟨C, dx, vs, g, l', e, r.mono x p⟩
  | frz w => exact Rep.mono x p _ _ h
/-- a new object that is hidden -/
theorem StOk.hideNew (k : StOk K mg μ st hid H) {p : Addr} {o : HO} (hp : H p = none) (nt : ∀ vs, o ≠ .tup vs := by intro _ h; cases h) : StOk K mg μ st (p :: hid) (upd H p o) ∧ Fz μ st (p :: hid) (upd H p o) = Fz μ st hid H := by
  have e : Fz μ st (p :: hid) (upd H p o) = Fz μ st hid H := by rw [Fz.hidUpd List.mem_cons_self, Fz.hide hp]
  have ne : ∀ (n : Nat) (a : Addr) (c : Cel), μ[n]? = some a → st[n]? = some c → c.live = true → a ≠ p := fun n a c h1 h2 h3 z => by
    obtain ⟨u, q⟩ := (k.ok n a c h1 h2).there h3
    rw [z, hp] at q; cases q
  refine ⟨⟨k.len, k.inj, fun n a c h1 h2 h3 z => ?_, fun a ha => ?_, fun n a c h1 h2 => ?_⟩, e⟩
  · rcases List.mem_cons.mp z with z | z
    · exact ne n a c h1 h2 h3 z
    · exact k.hidn n a c h1 h2 h3 z
  · rcases List.mem_cons.mp ha with z | z
    · rw [z, upd_same]; exact ⟨(fun q => nomatch q), fun vs q => nt vs (Option.some.inj q)⟩
    · by_cases q : a = p
      · rw [q, upd_same]; exact ⟨(fun q => nomatch q), fun vs q => nt vs (Option.some.inj q)⟩
      · rw [upd_ne q]; exact k.hidt a z
  · rw [e]
    exact (k.ok n a c h1 h2).of_eq fun l => upd_ne (ne n a c h1 h2 l)
/-- a hidden object changes -/
theorem StOk.hidUpd (k : StOk K mg μ st hid H) {p : Addr} {o : HO} (hm : p ∈ hid) (nt : ∀ vs, o ≠ .tup vs := by intro _ h; cases h) : StOk K mg μ st hid (upd H p o) := by
  refine ⟨k.len, k.inj, k.hidn, fun a ha => ?_, fun n a c h1 h2 => ?_⟩
  · by_cases q : a = p
    · rw [q, upd_same]; exact ⟨(fun q => nomatch q), fun vs q => nt vs (Option.some.inj q)⟩
    · rw [upd_ne q]; exact k.hidt a ha
  · rw [Fz.hidUpd hm]
    exact (k.ok n a c h1 h2).of_eq fun l => upd_ne fun z => k.hidn n a c h1 h2 l (z ▸ hm)
/-- what was hidden is seen -/
theorem StOk.seen {p : Addr} {o : HO} (k : StOk K mg μ st (p :: hid) H) (hn : p ∉ hid) (e : H p = some o) : StOk K mg μ st hid H ∧ Le (Fz μ st (p :: hid) H) (Fz μ st hid H) ∧ Fz μ st hid H p = some o := by
  have l : Le (Fz μ st (p :: hid) H) (Fz μ st hid H) := Le.of fun a u h => by
    obtain ⟨h1, h2⟩ := Fz.sub h
    exact Fz.mk h1 fun z => h2 (live_cons.mpr (.inr z))
  refine ⟨⟨k.len, k.inj, fun n a c h1 h2 h3 z => k.hidn n a c h1 h2 h3 (List.mem_cons_of_mem _ z), fun a ha => k.hidt a (List.mem_cons_of_mem _ ha), fun n a c h1 h2 => (k.ok n a c h1 h2).le l (.refl _)⟩, l, Fz.mk e fun z => ?_⟩
  rcases z with z | ⟨n, c, h1, h2, h3⟩
  · exact hn z
  · exact k.hidn n p c h1 h2 h3 List.mem_cons_self
end

/-! ## comprehensions -/
def wipeF (fr : Fr) : List Nat → Fr
  | [] => fr
  | v :: vs => (wipeF fr vs).set v none
theorem wipeF_length (fr : Fr) : ∀ vs : List Nat, (wipeF fr vs).length = fr.length
  | [] => rfl
  | v :: vs => by unfold wipeF; rw [List.length_set, wipeF_length fr vs]
theorem wipe_at {α : Type} (σ : List (Option α)) (w : List (Option α) → List Nat → List (Option α)) (h0 : ∀ f, w f [] = f) (h1 : ∀ f v vs, w f (v :: vs) = (w f vs).set v none) : ∀ (vs : List Nat) (j : Nat), (j ∉ vs → (w σ vs)[j]? = σ[j]?) ∧ (j ∈ vs → ∀ x, (w σ vs)[j]? ≠ some (some x))
  | [], j => ⟨fun _ => by rw [h0], fun h => by simp at h⟩
  | v :: vs, j => by
    obtain ⟨a, b⟩ := wipe_at σ w h0 h1 vs j
    rw [h1]
    by_cases e : v = j
    · subst e
      refine ⟨fun h => by simp at h, fun _ x z => ?_⟩
      by_cases q : v < (w σ vs).length
      · rw [List.getElem?_set_self q] at z; cases z
      · rw [List.getElem?_eq_none (by simpa using q)] at z; cases z
    · rw [List.getElem?_set_ne e]
      exact ⟨fun h => a fun z => h (List.mem_cons_of_mem _ z), fun h => b (by rcases List.mem_cons.mp h with z | z; exact absurd z.symm e; exact z)⟩
theorem wipeF_at (fr : Fr) (vs : List Nat) (j : Nat) : (j ∉ vs → (wipeF fr vs)[j]? = fr[j]?) ∧ (j ∈ vs → ∀ x, (wipeF fr vs)[j]? ≠ some (some x)) := wipe_at fr wipeF (fun _ => rfl) (fun _ _ _ => rfl) vs j
theorem wipe_at' (σ : L2.St) (vs : List Nat) (j : Nat) : (j ∉ vs → (wipe σ vs)[j]? = σ[j]?) ∧ (j ∈ vs → ∀ x, (wipe σ vs)[j]? ≠ some (some x)) := wipe_at σ wipe (fun _ => rfl) (fun _ _ _ => rfl) vs j
theorem wipe_ext {σ σ2 : L2.St} {vs : List Nat} (hl : σ2.length = σ.length) (h : ∀ j, j ∉ vs → σ2[j]? = (wipe σ vs)[j]?) : wipe σ2 vs = wipe σ vs := by
  apply List.ext_getElem?
  intro j
  by_cases hj : j ∈ vs
  · have a := (wipe_at' σ vs j).2 hj
    have b := (wipe_at' σ2 vs j).2 hj
    have l1 := wipe_length σ vs
    have l2 := wipe_length σ2 vs
    by_cases q : j < σ.length
    · have q1 : j < (wipe σ vs).length := by omega
      have q2 : j < (wipe σ2 vs).length := by omega
      rw [List.getElem?_eq_getElem q1] at a ⊢
      rw [List.getElem?_eq_getElem q2] at b ⊢
      cases e1 : (wipe σ vs)[j] with
      | some x => rw [e1] at a; exact absurd rfl (a x)
      | none =>
        cases e2 : (wipe σ2 vs)[j] with
        | some x => rw [e2] at b; exact absurd rfl (b x)
        | none => rfl
    · rw [List.getElem?_eq_none (by omega), List.getElem?_eq_none (by omega)]
  · rw [(wipe_at' σ2 vs j).1 hj]
    exact h j hj
theorem SI.wipe {K : PySem.W.Frag} {mg : Str → Option Value} {Wx : Wish} {μ : List Addr} {st : Sto} {hid : List Addr} {fr : Fr} {σ : L2.St} {H : Hp} (s : SI K mg Wx μ st hid fr σ H) (vs : List Nat) (hv : ∀ i ∈ Wx.lock, i ∉ vs) : SI K mg Wx μ st hid (wipeF fr vs) (L2.wipe σ vs) H :=
  ⟨s.sto, by rw [wipeF_length, wipe_length]; exact s.len, fun i w h => by
    by_cases hi : i ∈ vs
    · exact absurd h ((wipeF_at fr vs i).2 hi w)
    · rw [(wipeF_at fr vs i).1 hi] at h
      rw [(wipe_at' σ vs i).1 hi]
      exact s.loc i w h, Wx.slot _ _ _ _ (fun j hj => (wipe_at' σ vs j).1 (hv j hj)) s.ex⟩
/-- nothing may be raised within -/
def Wish.blk (Wx : Wish) : Wish := ⟨fun _ _ _ _ => False, Wx.lock, Wx.y, Wx.mono, Wx.slot⟩
theorem SI.blk {K : PySem.W.Frag} {mg : Str → Option Value} {Wx : Wish} {μ : List Addr} {st : Sto} {hid : List Addr} {fr : Fr} {σ : L2.St} {H : Hp} (s : SI K mg Wx μ st hid fr σ H) : SI K mg Wx.blk μ st hid fr σ H := ⟨s.sto, s.len, s.loc, s.ex⟩
open Classical in
noncomputable def lcRun (x : W) (all : List W) (g : TgF) (t : SemB) (e : Sem) (fr : Fr) : List W → Sto → Out (List W)
  | [], st => if srcOk x all st then .ok [] st else .bad
  | w :: r, st => if srcOk x all st then (match g w fr st with
    | some fr1 => match t fr1 st with
      | .ok true st1 => match e fr1 st1 with
        | .ok y st2 => match lcRun x all g t e fr r st2 with
          | .ok ys st3 => .ok (y :: ys) st3
          | _ => .bad
        | _ => .bad
      | .ok false st1 => lcRun x all g t e fr r st1
      | _ => .bad
    | none => .bad) else .bad
/-- what is done with the finished list -/
abbrev LFin := List W → Sto → Out W
noncomputable def eLcG (fin : LFin) (f : SemI) (g : TgF) (own : List Nat) (t : SemB) (e : Sem) : Sem := fun fr st => (f fr st).bind fun p st1 => match lcRun p.1 p.2 g t e (wipeF fr own) p.2 st1 with
  | .ok ys st2 => fin ys st2
  | _ => .bad
def finL : LFin := fun ys st => .ok (.lst ys) st
def finC : LFin := fun ys st => .ok (.cell st.length) (st ++ [.lst ys])
noncomputable abbrev eLc (f : SemI) (g : TgF) (own : List Nat) (t : SemB) (e : Sem) : Sem := eLcG finL f g own t e
noncomputable abbrev eLcC (f : SemI) (g : TgF) (own : List Nat) (t : SemB) (e : Sem) : Sem := eLcG finC f g own t e
def FinOk (K : PySem.W.Frag) (mg : Str → Option Value) (fin : LFin) : Prop := ∀ (Wx : WX) (σ : L2.St) (Q : VK) (hid μ0 : List Addr) (st0 : Sto) (H0 : Hp) (μ : List Addr) (st : Sto) (H : Hp) (D : Addr) (acc : List V) (ys : List W), StOk K mg μ st (D :: hid) H → D ∉ hid → H D = some (.lst acc) → Reps K mg (Fz μ st (D :: hid) H) μ ys acc → Pre μ0 μ → Le (Fz μ0 st0 hid H0) (Fz μ st (D :: hid) H) → (∀ a ∈ hid, H a = H0 a) → Lk H0 H →
  EPost K mg Wx hid μ0 st0 σ H0 Q (fin ys st) → Q (.ref D) H
theorem fin_lst {K : PySem.W.Frag} {mg : Str → Option Value} : FinOk K mg finL := fun Wx σ Q hid μ0 st0 H0 μ st H D acc ys k hD e r p l hh hlk P => by
  obtain ⟨k6, l6, e6⟩ := k.seen hD e
  exact P μ H _ k6 ⟨p, l.trans l6, hh, hlk⟩ (rep_lst e6 (r.mono l6 (.refl _)))
/-- a hidden list becomes a cell -/
theorem StOk.cellOf {K : PySem.W.Frag} {mg : Str → Option Value} {μ : List Addr} {st : Sto} {hid : List Addr} {H : Hp} {p : Addr} {acc : List V} {ys : List W} (k : StOk K mg μ st (p :: hid) H) (hn : p ∉ hid) (hp : H p = some (.lst acc)) (r : Reps K mg (Fz μ st (p :: hid) H) μ ys acc) :
    StOk K mg (μ ++ [p]) (st ++ [.lst ys]) hid H ∧ Fz (μ ++ [p]) (st ++ [.lst ys]) hid H = Fz μ st (p :: hid) H := by
  have spl : ∀ {m : Nat} {a : Addr} {d : Cel}, (μ ++ [p])[m]? = some a → (st ++ [Cel.lst ys])[m]? = some d → (m < st.length ∧ μ[m]? = some a ∧ st[m]? = some d) ∨ (m = st.length ∧ a = p ∧ d = .lst ys) := fun {m a d} e1 e2 => by
    by_cases z : m < st.length
    · rw [List.getElem?_append_left (by rw [k.len]; exact z)] at e1
      rw [List.getElem?_append_left z] at e2
      exact .inl ⟨z, e1, e2⟩
    · by_cases y : m = st.length
      · subst y
        rw [List.getElem?_append_right (by rw [k.len]; exact Nat.le_refl _), k.len] at e1
        rw [List.getElem?_append_right (Nat.le_refl _)] at e2
        simp at e1 e2
        exact .inr ⟨rfl, e1.symm, e2.symm⟩
      · rw [List.getElem?_append_right (by omega)] at e2
        rw [List.getElem?_eq_none (by simp; omega)] at e2; cases e2
  have lv : ∀ a, LiveA (μ ++ [p]) (st ++ [.lst ys]) hid a ↔ LiveA μ st (p :: hid) a := fun a => by
    constructor
    · rintro (h | ⟨m, d, e1, e2, e3⟩)
      · exact .inl (List.mem_cons_of_mem _ h)
      · rcases spl e1 e2 with ⟨y1, y2, y3⟩ | ⟨y1, y2, y3⟩
        · exact .inr ⟨m, d, y2, y3, e3⟩
        · subst y2; exact .inl List.mem_cons_self
    · rintro (h | ⟨m, d, e1, e2, e3⟩)
      · rcases List.mem_cons.mp h with h | h
        · subst h
          exact .inr ⟨st.length, .lst ys, by rw [List.getElem?_append_right (by rw [k.len]; exact Nat.le_refl _), k.len]; simp, by simp, rfl⟩
        · exact .inl h
      · have z : m < st.length := by
          rcases Nat.lt_or_ge m st.length with q | q
          · exact q
          · rw [List.getElem?_eq_none q] at e2; cases e2
        exact .inr ⟨m, d, by rw [List.getElem?_append_left (by rw [k.len]; exact z)]; exact e1, by rw [List.getElem?_append_left z]; exact e2, e3⟩
  have e : Fz (μ ++ [p]) (st ++ [.lst ys]) hid H = Fz μ st (p :: hid) H := by
    funext a
    by_cases h : LiveA μ st (p :: hid) a
    · unfold Fz; rw [if_pos h, if_pos ((lv a).mpr h)]
    · unfold Fz; rw [if_neg h, if_neg fun y => h ((lv a).mp y)]
  have pre : Pre μ (μ ++ [p]) := ⟨[p], rfl⟩
  have np : ∀ {m : Nat} {a : Addr} {d : Cel}, μ[m]? = some a → st[m]? = some d → d.live = true → a ≠ p := fun {m a d} e1 e2 e3 z => k.hidn m a d e1 e2 e3 (z ▸ List.mem_cons_self)
  refine ⟨⟨by simp [k.len], fun i j a d d' h2 h3 h4 h4' h5 h5' => ?_, fun j a d h2 h3 h4 => ?_, fun a ha => k.hidt a (List.mem_cons_of_mem _ ha), fun j a d h2 h3 => ?_⟩, e⟩
  · rcases spl h2 h4 with ⟨y1, y2, y3⟩ | ⟨y1, y2, y3⟩ <;> rcases spl h3 h4' with ⟨z1, z2, z3⟩ | ⟨z1, z2, z3⟩
    · exact k.inj i j a d d' y2 z2 y3 z3 h5 h5'
    · exact absurd z2 (np y2 y3 h5)
    · exact absurd y2 (np z2 z3 h5')
    · omega
  · rcases spl h2 h3 with ⟨y1, y2, y3⟩ | ⟨y1, y2, y3⟩
    · exact fun z => k.hidn j a d y2 y3 h4 (List.mem_cons_of_mem _ z)
    · subst y2; exact hn
  · rw [e]
    rcases spl h2 h3 with ⟨y1, y2, y3⟩ | ⟨y1, y2, y3⟩
    · exact (k.ok j a d y2 y3).le (.refl _) pre
    · subst y2 y3; exact ⟨acc, hp, r.mono (.refl _) pre⟩
theorem fin_cel {K : PySem.W.Frag} {mg : Str → Option Value} : FinOk K mg finC := fun Wx σ Q hid μ0 st0 H0 μ st H D acc ys k hD e r p l hh hlk P => by
  obtain ⟨k6, e6⟩ := k.cellOf hD e r
  refine P _ H _ k6 ⟨p.trans ⟨[D], rfl⟩, by rw [e6]; exact l, hh, hlk⟩ ?_
  unfold Rep
  exact ⟨D, by rw [← k.len]; simp, rfl⟩
/-- a comprehension's own state: what the list at D holds -/
structure LcSt (K : PySem.W.Frag) (mg : Str → Option Value) (D : Addr) (hid μ0 : List Addr) (F0 : Hp) (H0 : Hp) (i : Nat) (μ : List Addr) (st : Sto) (H : Hp) (ys : List W) (acc : List V) : Prop where
  sto : StOk K mg μ st (D :: hid) H
  le : Le F0 (Fz μ st (D :: hid) H)
  pre : Pre μ0 μ
  hidk : ∀ a ∈ hid, H a = H0 a
  lck : Lk H0 H
  at_ : H D = some (.lst acc)
  rep : Reps K mg (Fz μ st (D :: hid) H) μ ys acc
  len : acc.length ≤ i
theorem lc_read {X : Cx} {Wx : Wish} {fin : LFin} {f : SemI} {g : TgF} {sl own : List Nat} {t : SemB} {e : Sem} (hf : FinOk X.K X.mg fin) (hsl : ∀ i ∈ sl, i ∈ own) (hlk : ∀ i ∈ Wx.lock, i ∉ own) : ∀ σ H Q, tE X.K X.mg Wx (eLcG fin f g own t e) σ H Q →
    tLc (tI X.K X.mg Wx f) (tG X.K X.mg Wx.blk g sl) (tB' X.K X.mg Wx.blk t) (tE X.K X.mg Wx.blk e) own σ H Q := fun σ H Q ⟨μ, st, hid, fr, S, P⟩ => by
  refine ⟨μ, st, hid, fr, S, ?_⟩
  unfold eLcG at P
  cases h1 : f fr st with
  | bad => rw [h1] at P; exact P
  | err x s => rw [h1] at P; exact P
  | ok p st1 =>
    obtain ⟨x, all⟩ := p
    rw [h1, Out.bind_ok] at P
    intro μ1 H1 J k1 g1 ji D hD
    have P1 := EPost.from g1 P
    have S1 := S.next k1 g1
    simp only at P1
    cases hr : lcRun x all g t e (wipeF fr own) all st1 with
    | bad => rw [hr] at P1; exact P1.elim
    | err z s => rw [hr] at P1; exact P1.elim
    | ok tot stE =>
      rw [hr] at P1
      have hDn : D ∉ hid := fun z => (k1.hidt D z).1 hD
      obtain ⟨k2, e2⟩ := k1.hideNew (o := .lst []) hD
      refine ⟨fun i m H => m = all.length - i ∧ i ≤ all.length ∧ ∃ μ st ys acc rest, LcSt X.K X.mg D hid μ1 (Fz μ1 st1 hid H1) H1 i μ st H ys acc ∧ lcRun x all g t e (wipeF fr own) (all.drop i) st = .ok rest stE ∧ ys ++ rest = tot,
        ⟨_, rfl, Nat.zero_le _, μ1, st1, [], [], tot, ⟨k2, by rw [e2]; exact .refl _, .refl _, fun a ha => upd_ne fun z => hDn (z ▸ ha), fun a o u h => by rw [upd_ne (ne_of_none h hD)]; exact h, upd_same, .nil, Nat.le_refl _⟩, hr, rfl⟩, ?_⟩
      rintro i m H2 ⟨rfl, hi, μ2, st2, ys, acc, rest, L, run, tt⟩
      by_cases hlt : i < all.length
      · rw [List.drop_eq_getElem_cons hlt, lcRun] at run
        split at run
        · rename_i hs
          refine .inr ⟨ji.go _ _ _ _ i L.sto L.le L.pre L.lck hs hlt, fun H => ∃ μ st ys acc rest, LcSt X.K X.mg D hid μ1 (Fz μ1 st1 hid H1) H1 (i + 1) μ st H ys acc ∧ lcRun x all g t e (wipeF fr own) (all.drop (i + 1)) st = .ok rest stE ∧ ys ++ rest = tot,
            fun H' q => ⟨_, by omega, rfl, hlt, q⟩, fun v H3 hy => ?_⟩
          obtain ⟨k3, g3, w, hw, rw_⟩ := ji.yld _ _ _ _ i v H3 L.sto L.le L.pre L.lck hs hlt hy
          have ew : all[i] = w := by
            rw [List.getElem?_eq_getElem hlt] at hw; exact Option.some.inj hw
          rw [ew] at run
          cases e3 : g w (wipeF fr own) st2 with
          | none => rw [e3] at run; cases run
          | some fr1 =>
            rw [e3] at run
            simp only at run
            have S3 : SI X.K X.mg Wx.blk μ2 st2 (D :: hid) (wipeF fr own) (wipe σ own) H3 := by
              have W := (S1.wipe own hlk).blk
              have l3 : Le (Fz μ1 st1 hid H1) (Fz μ2 st2 (D :: hid) H3) := L.le.trans g3.le
              exact ⟨k3, W.len, fun j u hj => by
                obtain ⟨v, ev, rv⟩ := W.loc j u hj
                exact ⟨v, ev, Rep.mono l3 L.pre _ _ rv⟩, Wx.blk.mono _ _ _ _ _ l3 L.pre W.ex⟩
            refine ⟨μ2, st2, D :: hid, wipeF fr own, w, fr1, S3, rw_, e3, fun σ2 S4 ag => ⟨wipe_ext (by rw [ag.1, wipe_length]) fun j hj => ag.2 j fun z => hj (hsl j z), μ2, st2, D :: hid, fr1, S4, ?_⟩⟩
            cases e4 : t fr1 st2 with
            | bad => rw [e4] at run; cases run
            | err z s => rw [e4] at run; cases run
            | ok b st3 =>
              rw [e4] at run
              intro μ3 H4 k4 g4
              have keep : ∀ {μ' : List Addr} {st' : Sto} {H' : Hp}, Grow (D :: hid) μ2 st2 H3 μ' st' H' → StOk X.K X.mg μ' st' (D :: hid) H' → LcSt X.K X.mg D hid μ1 (Fz μ1 st1 hid H1) H1 i μ' st' H' ys acc := fun gg kk =>
                ⟨kk, (L.le.trans g3.le).trans gg.le, L.pre.trans gg.pre, fun a ha => ((gg.hid a (List.mem_cons_of_mem _ ha)).trans (g3.hid a (List.mem_cons_of_mem _ ha))).trans (L.hidk a ha), L.lck.trans (g3.lck.trans gg.lck),
                  ((gg.hid D List.mem_cons_self).trans (g3.hid D List.mem_cons_self)).trans L.at_, L.rep.mono (g3.le.trans gg.le) gg.pre, L.len⟩
              cases b with
              | false =>
                refine iteF ?_
                have Q4 := keep g4 k4
                exact ⟨μ3, st3, ys, acc, rest, ⟨Q4.sto, Q4.le, Q4.pre, Q4.hidk, Q4.lck, Q4.at_, Q4.rep, Nat.le_succ_of_le Q4.len⟩, run, tt⟩
              | true =>
                refine iteT ⟨μ3, st3, D :: hid, fr1, S4.next k4 g4, ?_⟩
                simp only at run
                cases e5 : e fr1 st3 with
                | bad => rw [e5] at run; cases run
                | err z s => rw [e5] at run; cases run
                | ok y st4 =>
                  rw [e5] at run
                  simp only at run
                  intro μ4 H5 vy k5 g5 r5
                  have Q5 := keep (g4.trans g5) k5
                  cases e6 : lcRun x all g t e (wipeF fr own) (all.drop (i + 1)) st4 with
                  | bad => rw [e6] at run; cases run
                  | err z s => rw [e6] at run; cases run
                  | ok more stF =>
                    rw [e6] at run
                    simp only at run
                    injection run with ra rb
                    subst ra rb
                    refine ⟨acc, Q5.at_, Nat.lt_of_le_of_lt Q5.len (Nat.lt_of_lt_of_le hlt ji.len), μ4, st4, ys ++ [y], acc ++ [vy], more, ⟨Q5.sto.hidUpd List.mem_cons_self, ?_, Q5.pre, fun a ha => ?_, fun a o u h => ?_, upd_same, ?_, ?_⟩, e6, by rw [← tt]; simp⟩
                    · rw [Fz.hidUpd List.mem_cons_self]; exact Q5.le
                    · rw [upd_ne (fun z : a = D => hDn (z ▸ ha))]; exact Q5.hidk a ha
                    · have q := Q5.lck a o u h
                      rw [upd_ne fun z => by rw [z, Q5.at_] at q; cases q]; exact q
                    · rw [Fz.hidUpd List.mem_cons_self]; exact Q5.rep.append (.cons r5 .nil)
                    · rw [List.length_append, List.length_singleton]; exact Nat.succ_le_succ Q5.len
        · cases run
      · have hi2 : i = all.length := by omega
        subst hi2
        rw [List.drop_length, lcRun] at run
        split at run
        · rename_i hs
          injection run with ra rb
          subst ra rb
          refine .inl ⟨ji.stop _ _ _ _ _ L.sto L.le L.pre L.lck hs (Nat.le_refl _), ?_⟩
          rw [List.append_nil] at tt
          subst tt
          exact hf _ _ _ _ _ _ _ _ _ _ _ _ _ L.sto hDn L.at_ L.rep L.pre L.le L.hidk L.lck P1
        · cases run
section
variable {X : Cx} {Wx : Wish}
def tTrue : SemB := fun _ st => .ok true st
theorem tv_ifs0 : PTs X [] (tB' X.K X.mg Wx tTrue) := ⟨fun pins s σ H Q I h => pts_nil.run pins s σ H Q I (by
  obtain ⟨μ, st, hid, fr, S, P⟩ := h
  exact P μ H S.sto .refl)⟩
theorem tv_ifs1 {c : Expr} {t : SemB} (h : TV X Wx c t) : PTs X [c] (tB' X.K X.mg Wx t) := pts_one h
theorem ev_lcG {fin : LFin} (hf : FinOk X.K X.mg fin) {elt tg iter : Expr} {ifs : List Expr} {scope : Scope} {own : List (Str × Nat)} {pos : Pos} {f : SemI} {g : TgF} {sl : List Nat} {t : SemB} {e : Sem} (hc : X.calm = true) (hN : X.N.Nodup) (hi : IV X Wx tg iter f) (ok : blkC X.N X.env.scope scope own = true)
    (hsl : ∀ i ∈ sl, i ∈ own.map (·.2)) (hlk : ∀ i ∈ Wx.lock, i ∉ own.map (·.2))
    (hg : ∀ (s : Shared) (H : Hp) (C : Addr) (cl : List (Str × Addr)) (fp : List Addr), GV (X.blk s H scope (compEnvC scope cl C X.env) fp) Wx.blk tg g sl)
    (ht : ∀ (s : Shared) (H : Hp) (C : Addr) (cl : List (Str × Addr)) (fp : List Addr), PTs (X.blk s H scope (compEnvC scope cl C X.env) fp) ifs (tB' X.K X.mg Wx.blk t))
    (he : ∀ (s : Shared) (H : Hp) (C : Addr) (cl : List (Str × Addr)) (fp : List Addr), EV (X.blk s H scope (compEnvC scope cl C X.env) fp) Wx.blk elt e) (hs : ∀ x, foldedSetIterable iter X.env x = pure x := by intro _; rfl) :
    EV X Wx (.ListComp elt [⟨tg, iter, ifs, 0⟩] scope pos) (eLcG fin f g (own.map (·.2)) t e) :=
  PEm (pe_lc hc hN hi (blkOk_by ok) hg ht he hs) (lc_read hf hsl hlk)
end
end SL

namespace SL
open PySem PySem.Spec PyProof.Rows L2

/-! ## the contexts -/
structure Ctx (X : Cx) (Wx : Wish) (k : Nat) : Prop where
  calm : X.calm = true
  nd : X.N.Nodup
  room : Room k X.A
  tk : Takes X Wx.w
  hp : PassesOwn (model X.prog X.w) X.A X.env X.xe
theorem Ctx.blk {X : Cx} {Wx : Wish} {k : Nat} (C : Ctx X Wx k) (s : Shared) (H : Hp) (scope : Scope) (cenv : Env) (fp : List Addr) : Ctx (X.blk s H scope cenv fp) Wx.blk k := ⟨C.calm, C.nd, C.room, takes0, PassesOwn.never⟩
theorem Ctx.mono {X : Cx} {Wx : Wish} {j k : Nat} (C : Ctx X Wx k) (h : j ≤ k) : Ctx X Wx j := ⟨C.calm, C.nd, C.room.mono h, C.tk, C.hp⟩

/-! ## a cell changes -/
section
variable {K : PySem.W.Frag} {mg : Str → Option Value} {μ : List Addr} {st : Sto} {hid : List Addr} {H : Hp}
theorem live_set {n : Nat} {c c' : Cel} {p : Addr} (h1 : st[n]? = some c) (l : c.live = true) (l' : c'.live = true) (a : Addr) : LiveA μ (st.set n c') hid a ↔ LiveA μ st hid a := by
  have hn : n < st.length := by
    rcases Nat.lt_or_ge n st.length with q | q
    · exact q
    · rw [List.getElem?_eq_none q] at h1; cases h1
  unfold LiveA
  constructor
  · rintro (h | ⟨m, d, e1, e2, e3⟩)
    · exact .inl h
    · by_cases e : n = m
      · subst e; exact .inr ⟨n, c, e1, h1, l⟩
      · rw [List.getElem?_set_ne e] at e2; exact .inr ⟨m, d, e1, e2, e3⟩
  · rintro (h | ⟨m, d, e1, e2, e3⟩)
    · exact .inl h
    · by_cases e : n = m
      · subst e; exact .inr ⟨n, c', e1, by rw [List.getElem?_set_self hn], l'⟩
      · exact .inr ⟨m, d, e1, by rw [List.getElem?_set_ne e]; exact e2, e3⟩
theorem StOk.setCell0 (k : StOk K mg μ st hid H) {n : Nat} {c c' : Cel} {p : Addr} {o : HO} (h0 : μ[n]? = some p) (h1 : st[n]? = some c) (l : c.live = true) (l' : c'.live = true) (q : CelOk K mg (Fz μ st hid H) μ (upd H p o) p c') :
    StOk K mg μ (st.set n c') hid (upd H p o) ∧ Fz μ (st.set n c') hid (upd H p o) = Fz μ st hid H ∧ p ∉ hid := by
  have lp : LiveA μ st hid p := .inr ⟨n, c, h0, h1, l⟩
  have e : Fz μ (st.set n c') hid (upd H p o) = Fz μ st hid H := by
    funext a
    by_cases h : LiveA μ st hid a
    · unfold Fz; rw [if_pos h, if_pos ((live_set (p := p) h1 l l' a).mpr h)]
    · have hne : a ≠ p := fun z => h (z ▸ lp)
      unfold Fz; rw [if_neg h, if_neg (fun z => h ((live_set (p := p) h1 l l' a).mp z)), upd_ne hne]
  have hn : n < st.length := by
    rcases Nat.lt_or_ge n st.length with q | q
    · exact q
    · rw [List.getElem?_eq_none q] at h1; cases h1
  have hh : p ∉ hid := k.hidn n p c h0 h1 l
  refine ⟨⟨by rw [List.length_set]; exact k.len, fun i j a d d' h2 h3 h4 h4' h5 h5' => ?_, fun j a d h2 h3 h4 => ?_, fun a ha => ?_, fun j a d h2 h3 => ?_⟩, e, hh⟩
  · have old : ∀ {m : Nat} {b : Addr} {e : Cel}, (st.set n c')[m]? = some e → e.live = true → ∃ e', st[m]? = some e' ∧ e'.live = true := fun {m b e} y1 y2 => by
      by_cases z : n = m
      · subst z; exact ⟨c, h1, l⟩
      · rw [List.getElem?_set_ne z] at y1; exact ⟨e, y1, y2⟩
    obtain ⟨e1, y1, y2⟩ := old (b := a) h4 h5
    obtain ⟨e2, y3, y4⟩ := old (b := a) h4' h5'
    exact k.inj i j a e1 e2 h2 h3 y1 y3 y2 y4
  · by_cases z : n = j
    · subst z
      rw [h0] at h2; cases h2; exact hh
    · rw [List.getElem?_set_ne z] at h3; exact k.hidn j a d h2 h3 h4
  · by_cases z : a = p
    · exact absurd (z ▸ ha) hh
    · rw [upd_ne z]; exact k.hidt a ha
  · rw [e]
    by_cases z : n = j
    · subst z
      rw [h0] at h2; cases h2
      rw [List.getElem?_set_self hn] at h3
      cases h3; exact q
    · rw [List.getElem?_set_ne z] at h3
      refine (k.ok j a d h2 h3).of_eq fun ld => upd_ne fun y => z ?_
      subst y
      exact k.inj n j a c d h0 h2 h1 h3 l ld
/-- what is not locked -/
def Cel.unl : Cel → Bool
  | .lst _ | .ins _ _ _ => true
  | .dct (.ty t :: _) _ => t == "T"
  | .dct _ _ => true
  | .frz _ => false
theorem unl_nf {F : Hp} {a : Addr} {c : Cel} (h : CelOk K mg F μ H a c) (hu : c.unl = true) : ∀ o u, H a ≠ some (.frz o u) := by
  intro o u e
  cases c with
  | lst ws => obtain ⟨vs, h, _⟩ := h; rw [e] at h; cases h
  | ins c ns ws => obtain ⟨C, dx, vs, _, _, h, _⟩ := h; rw [e] at h; cases h
  | frz w => cases hu
  | dct ks ws =>
    obtain ⟨vs, ⟨l, q, h1, h2, h3⟩, _⟩ := h
    have hl : l = false := by
      cases ks with
      | nil => cases h1; rfl
      | cons w ks =>
        cases w with
        | ty t =>
          have ht : t = "T" := beq_iff_eq.mp hu
          subst ht
          have z : kindW (.ty "T" :: ks) = (mapO keyT ks).map fun kk => (false, .inr kk) := rfl
          rw [z] at h1
          cases m : mapO keyT ks with
          | none => rw [m] at h1; cases h1
          | some kk => rw [m] at h1; cases h1; rfl
        | int i =>
          have z : kindW (.int i :: ks) = (mapO keyW (.int i :: ks)).map fun kk => (false, .inl kk) := rfl
          rw [z] at h1
          cases m : mapO keyW (.int i :: ks) with
          | none => rw [m] at h1; cases h1
          | some kk => rw [m] at h1; cases h1; rfl
        | str x =>
          have z : kindW (.str x :: ks) = (mapO keyW (.str x :: ks)).map fun kk => (false, .inl kk) := rfl
          rw [z] at h1
          cases m : mapO keyW (.str x :: ks) with
          | none => rw [m] at h1; cases h1
          | some kk => rw [m] at h1; cases h1; rfl
        | _ => cases h1
    subst hl
    have h3' : H a = some (dObj q vs) := h3
    rw [e] at h3'
    cases q <;> cases h3'
theorem StOk.setCell (k : StOk K mg μ st hid H) {n : Nat} {c c' : Cel} {p : Addr} {o : HO} (h0 : μ[n]? = some p) (h1 : st[n]? = some c) (l : c.live = true) (l' : c'.live = true) (q : CelOk K mg (Fz μ st hid H) μ (upd H p o) p c') (hu : c.unl = true := by rfl) :
    StOk K mg μ (st.set n c') hid (upd H p o) ∧ Grow hid μ st H μ (st.set n c') (upd H p o) := by
  obtain ⟨k1, e, hh⟩ := k.setCell0 h0 h1 l l' q
  have nf := unl_nf (k.ok n p c h0 h1) hu
  exact ⟨k1, ⟨.refl _, by rw [e]; exact .refl _, fun a ha => upd_ne fun z => hh (z ▸ ha), fun a o' u h => by
    have ne : a ≠ p := fun z => nf o' u (by rw [← z]; exact h)
    rw [upd_ne ne]; exact h⟩⟩
/-- a new cell -/
theorem StOk.newCell (k : StOk K mg μ st hid H) {c : Cel} {p : Addr} {o : HO} (hp : H p = none) (lc : c.live = true) (q : CelOk K mg (Fz μ st hid H) (μ ++ [p]) (upd H p o) p c) :
    StOk K mg (μ ++ [p]) (st ++ [c]) hid (upd H p o) ∧ Grow hid μ st H (μ ++ [p]) (st ++ [c]) (upd H p o) := by
  have nl := k.notLive hp
  have lv : ∀ a, LiveA (μ ++ [p]) (st ++ [c]) hid a ↔ a = p ∨ LiveA μ st hid a := fun a => by
    unfold LiveA
    constructor
    · rintro (h | ⟨m, d, e1, e2, e3⟩)
      · exact .inr (.inl h)
      · by_cases z : m < st.length
        · rw [List.getElem?_append_left (by rw [k.len]; exact z)] at e1
          rw [List.getElem?_append_left z] at e2
          exact .inr (.inr ⟨m, d, e1, e2, e3⟩)
        · by_cases y : m = st.length
          · subst y
            rw [List.getElem?_append_right (by rw [k.len]; exact Nat.le_refl _), k.len] at e1
            simp at e1
            exact .inl e1.symm
          · rw [List.getElem?_append_right (by omega)] at e2
            rw [List.getElem?_eq_none (by simp; omega)] at e2; cases e2
    · rintro (h | h | ⟨m, d, e1, e2, e3⟩)
      · subst h
        exact .inr ⟨st.length, c, by rw [List.getElem?_append_right (by rw [k.len]; exact Nat.le_refl _), k.len]; simp, by simp, lc⟩
      · exact .inl h
      · have z : m < st.length := by
          rcases Nat.lt_or_ge m st.length with q | q
          · exact q
          · rw [List.getElem?_eq_none q] at e2; cases e2
        exact .inr ⟨m, d, by rw [List.getElem?_append_left (by rw [k.len]; exact z)]; exact e1, by rw [List.getElem?_append_left z]; exact e2, e3⟩
  have e : Fz (μ ++ [p]) (st ++ [c]) hid (upd H p o) = Fz μ st hid H := by
    funext a
    by_cases h : LiveA μ st hid a
    · unfold Fz; rw [if_pos h, if_pos ((lv a).mpr (.inr h))]
    · by_cases z : a = p
      · subst z
        unfold Fz; rw [if_neg h, if_pos ((lv a).mpr (.inl rfl)), hp]
      · unfold Fz; rw [if_neg h, if_neg (fun y => ((lv a).mp y).elim z h), upd_ne z]
  have pre : Pre μ (μ ++ [p]) := ⟨[p], rfl⟩
  have spl : ∀ {m : Nat} {a : Addr} {d : Cel}, (μ ++ [p])[m]? = some a → (st ++ [c])[m]? = some d → (m < st.length ∧ μ[m]? = some a ∧ st[m]? = some d) ∨ (m = st.length ∧ a = p ∧ d = c) := fun {m a d} e1 e2 => by
    by_cases z : m < st.length
    · rw [List.getElem?_append_left (by rw [k.len]; exact z)] at e1
      rw [List.getElem?_append_left z] at e2
      exact .inl ⟨z, e1, e2⟩
    · by_cases y : m = st.length
      · subst y
        rw [List.getElem?_append_right (by rw [k.len]; exact Nat.le_refl _), k.len] at e1
        rw [List.getElem?_append_right (Nat.le_refl _)] at e2
        simp at e1 e2
        exact .inr ⟨rfl, e1.symm, e2.symm⟩
      · rw [List.getElem?_append_right (by omega)] at e2
        rw [List.getElem?_eq_none (by simp; omega)] at e2; cases e2
  have np : ∀ {m : Nat} {a : Addr} {d : Cel}, μ[m]? = some a → st[m]? = some d → d.live = true → a ≠ p := fun {m a d} e1 e2 e3 z => by
    obtain ⟨u, y⟩ := (k.ok m a d e1 e2).there e3
    rw [z, hp] at y; cases y
  refine ⟨⟨by simp [k.len], fun i j a d d' h2 h3 h4 h4' h5 h5' => ?_, fun j a d h2 h3 h4 => ?_, fun a ha => ?_, fun j a d h2 h3 => ?_⟩, ⟨pre, by rw [e]; exact .refl _, fun a ha => upd_ne fun z => (k.hidt a ha).1 (z ▸ hp), fun a o' u h => by rw [upd_ne (ne_of_none h hp)]; exact h⟩⟩
  · rcases spl h2 h4 with ⟨y1, y2, y3⟩ | ⟨y1, y2, y3⟩ <;> rcases spl h3 h4' with ⟨z1, z2, z3⟩ | ⟨z1, z2, z3⟩
    · exact k.inj i j a d d' y2 z2 y3 z3 h5 h5'
    · exact absurd z2 (np y2 y3 h5)
    · exact absurd y2 (np z2 z3 h5')
    · omega
  · rcases spl h2 h3 with ⟨y1, y2, y3⟩ | ⟨y1, y2, y3⟩
    · exact k.hidn j a d y2 y3 h4
    · subst y2; exact fun z => (k.hidt a z).1 hp
  · have hne : a ≠ p := fun z => (k.hidt a ha).1 (z ▸ hp)
    rw [upd_ne hne]; exact k.hidt a ha
  · rw [e]
    rcases spl h2 h3 with ⟨y1, y2, y3⟩ | ⟨y1, y2, y3⟩
    · exact ((k.ok j a d y2 y3).le (.refl _) pre).of_eq fun l => upd_ne (np y2 y3 l)
    · subst y2 y3; exact q
end
end SL

namespace SL
open PySem PySem.Spec PyProof.Rows L2

inductive SOut where
  | nx (fr : Fr) (st : Sto) | rt (w : W) (st : Sto) | bk (fr : Fr) (st : Sto) | ct (fr : Fr) (st : Sto) | er (x : Exc) (fr : Fr) (st : Sto) | bad
abbrev SSem := Fr → Sto → SOut
def Out.stm {α : Type} (o : Out α) (fr : Fr) (f : α → Sto → SOut) : SOut := match o with
  | .ok a st => f a st
  | .err x st => .er x fr st
  | .bad => .bad
@[simp] theorem Out.stm_ok {α : Type} (a : α) (st : Sto) (fr : Fr) (f : α → Sto → SOut) : (Out.ok a st).stm fr f = f a st := rfl
@[simp] theorem Out.stm_err {α : Type} (x : Exc) (st : Sto) (fr : Fr) (f : α → Sto → SOut) : (Out.err x st).stm fr f = .er x fr st := rfl
@[simp] theorem Out.stm_bad {α : Type} (fr : Fr) (f : α → Sto → SOut) : (Out.bad).stm fr f = .bad := rfl
def SPost (K : PySem.W.Frag) (mg : Str → Option Value) (Wx : Wish) (hid μ : List Addr) (st : Sto) (H : Hp) (D : Ends) : SOut → Prop
  | .nx fr' st' => ∀ μ' σ' H', SI K mg Wx μ' st' hid fr' σ' H' → Grow hid μ st H μ' st' H' → D.nx σ' H'
  | .rt w st' => ∀ μ' H' v, StOk K mg μ' st' hid H' → Grow hid μ st H μ' st' H' → Rep K mg (Fz μ' st' hid H') μ' w v → D.rt v H'
  | .bk fr' st' => ∀ μ' σ' H', SI K mg Wx μ' st' hid fr' σ' H' → Grow hid μ st H μ' st' H' → D.bk σ' H'
  | .ct fr' st' => ∀ μ' σ' H', SI K mg Wx μ' st' hid fr' σ' H' → Grow hid μ st H μ' st' H' → D.ct σ' H'
  | .er x fr' st' => ∀ μ' σ' H' c d, SI K mg Wx μ' st' hid fr' σ' H' → Grow hid μ st H μ' st' H' → XRep K mg (Fz μ' st' hid H') μ' x c d → Wx.w c d σ' H'
  | .bad => False
theorem SPost.from {K : PySem.W.Frag} {mg : Str → Option Value} {Wx : Wish} {hid μ μ' : List Addr} {st st' : Sto} {H H' : Hp} {D : Ends} {o : SOut} (x : Grow hid μ st H μ' st' H') (h : SPost K mg Wx hid μ st H D o) : SPost K mg Wx hid μ' st' H' D o := by
  cases o with
  | nx fr s => exact fun μ2 σ2 H2 a b => h μ2 σ2 H2 a (x.trans b)
  | rt w s => exact fun μ2 H2 v a b c => h μ2 H2 v a (x.trans b) c
  | bk fr s => exact fun μ2 σ2 H2 a b => h μ2 σ2 H2 a (x.trans b)
  | ct fr s => exact fun μ2 σ2 H2 a b => h μ2 σ2 H2 a (x.trans b)
  | er e fr s => exact fun μ2 σ2 H2 c d a b r => h μ2 σ2 H2 c d a (x.trans b) r
  | bad => exact h
def tS (K : PySem.W.Frag) (mg : Str → Option Value) (Wx : Wish) (f : SSem) : TS := fun D σ H => ∃ μ st hid fr, SI K mg Wx μ st hid fr σ H ∧ SPost K mg Wx hid μ st H D (f fr st)
abbrev SV (X : Cx) (Wx : Wish) (s : Stmt) (f : SSem) : Prop := PS X s (tS X.K X.mg Wx f)
abbrev BV (X : Cx) (Wx : Wish) (s : List Stmt) (f : SSem) : Prop := PSs X s (tS X.K X.mg Wx f)
section
variable {X : Cx} {Wx : Wish}
/-! ## blocks -/
def sNil : SSem := fun fr st => .nx fr st
def sSeq (f g : SSem) : SSem := fun fr st => match f fr st with
  | .nx fr1 st1 => g fr1 st1
  | o => o
theorem bv_nil : BV X Wx [] sNil := PSsm pss_nil fun D σ H ⟨μ, st, hid, fr, S, P⟩ => P μ σ H S .refl
theorem bv_cons {s : Stmt} {r : List Stmt} {f g : SSem} (h1 : SV X Wx s f) (h2 : BV X Wx r g) : BV X Wx (s :: r) (sSeq f g) := PSsm (pss_cons h1 h2) fun D σ H ⟨μ, st, hid, fr, S, P⟩ => by
  refine ⟨μ, st, hid, fr, S, ?_⟩
  unfold sSeq at P
  cases h : f fr st with
  | nx fr1 st1 =>
    rw [h] at P
    exact fun μ1 σ1 H1 S1 g1 => ⟨μ1, st1, hid, fr1, S1, SPost.from g1 P⟩
  | rt w s => rw [h] at P; exact P
  | bk fr s => rw [h] at P; exact P
  | ct fr s => rw [h] at P; exact P
  | er e fr s => rw [h] at P; exact P
  | bad => rw [h] at P; exact P
theorem bv_one {s : Stmt} {f : SSem} (h : SV X Wx s f) : BV X Wx [s] f := pss_one h
def sBk : SSem := fun fr st => .bk fr st
def sCt : SSem := fun fr st => .ct fr st
theorem sv_pass {pos : Pos} : SV X Wx (.Pass pos) sNil := PSm ps_pass fun D σ H ⟨μ, st, hid, fr, S, P⟩ => P μ σ H S .refl
theorem sv_break {pos : Pos} : SV X Wx (.Break pos) sBk := PSm ps_break fun D σ H ⟨μ, st, hid, fr, S, P⟩ => P μ σ H S .refl
theorem sv_continue {pos : Pos} : SV X Wx (.Continue pos) sCt := PSm ps_continue fun D σ H ⟨μ, st, hid, fr, S, P⟩ => P μ σ H S .refl
/-- an expression, then what follows -/
theorem stm_read {f : Sem} {k : W → Sto → SOut} {t : VK → VK} {hid μ : List Addr} {st : Sto} {fr : Fr} {σ : L2.St} {H : Hp} {D : Ends} {Q : VK} (S : SI X.K X.mg Wx μ st hid fr σ H) (P : SPost X.K X.mg Wx hid μ st H D ((f fr st).stm fr k))
    (h : ∀ w st1 μ1 H1 v, SI X.K X.mg Wx μ1 st1 hid fr σ H1 → Grow hid μ st H μ1 st1 H1 → Rep X.K X.mg (Fz μ1 st1 hid H1) μ1 w v → SPost X.K X.mg Wx hid μ1 st1 H1 D (k w st1) → Q v H1) : tE X.K X.mg Wx f σ H Q := by
  refine ⟨μ, st, hid, fr, S, ?_⟩
  cases e : f fr st with
  | bad => rw [e] at P; exact P
  | err x s => rw [e] at P; exact fun μ1 H1 c d k1 g1 xr => P μ1 σ H1 c d (S.next k1 g1) g1 xr
  | ok w st1 =>
    rw [e, Out.stm_ok] at P
    exact fun μ1 H1 v k1 g1 r1 => h w st1 μ1 H1 v (S.next k1 g1) g1 r1 (SPost.from g1 P)
def sExp (f : Sem) : SSem := fun fr st => (f fr st).stm fr fun _ st1 => .nx fr st1
theorem sv_expr {e : Expr} {f : Sem} {pos : Pos} (he : EV X Wx e f) (hs : swapsWith e none pos.line X.env = pure false := by rfl) : SV X Wx (.Expr e pos) (sExp f) := PSm (ps_expr he hs) fun D σ H ⟨μ, st, hid, fr, S, P⟩ => by
  exact stm_read (t := id) S P fun w st1 μ1 H1 v S1 g1 r1 P1 => P1 μ1 σ H1 S1 .refl
def sRet (f : Sem) : SSem := fun fr st => (f fr st).stm fr fun w st1 => .rt w st1
theorem sv_ret {e : Expr} {f : Sem} {pos : Pos} (he : EV X Wx e f) : SV X Wx (.Return (some e) pos) (sRet f) := PSm (ps_ret he) fun D σ H ⟨μ, st, hid, fr, S, P⟩ => by
  exact stm_read (t := id) S P fun w st1 μ1 H1 v S1 g1 r1 P1 => P1 μ1 H1 v S1.sto .refl r1
def sRetN : SSem := fun _ st => .rt .non st
theorem sv_retN {pos : Pos} : SV X Wx (.Return none pos) sRetN := PSm ps_retN fun D σ H ⟨μ, st, hid, fr, S, P⟩ => P μ H _ S.sto .refl rep_non
def sAsg (f : Sem) (g : TgF) : SSem := fun fr st => (f fr st).stm fr fun w st1 => match g w fr st1 with
  | some fr1 => .nx fr1 st1
  | none => .bad
theorem asg_read {f : Sem} {g : TgF} {sl : List Nat} : ∀ D σ H, tS X.K X.mg Wx (sAsg f g) D σ H → tAsg (tE X.K X.mg Wx f) (tG X.K X.mg Wx g sl) D σ H := fun D σ H ⟨μ, st, hid, fr, S, P⟩ => by
  refine stm_read (t := id) S P fun w st1 μ1 H1 v S1 g1 r1 P1 => ?_
  split at P1
  · rename_i fr1 e
    exact ⟨μ1, st1, hid, fr, w, fr1, S1, r1, e, fun σ' S' _ => P1 μ1 σ' H1 S' .refl⟩
  · exact P1.elim
theorem sv_asg {tg e : Expr} {f : Sem} {g : TgF} {sl : List Nat} {pos : Pos} (he : EV X Wx e f) (hg : GV X Wx tg g sl) (hs : swapsWithSole [tg] e pos.line X.env = pure false := by rfl) (hw : swappedStores [tg] e X.env = pure none := by rfl)
    (h1 : (assignEach [tg] X.env).map (·.2) = [assign tg X.env] := by rfl) : SV X Wx (.Assign [tg] e pos) (sAsg f g) := PSm (ps_asg he hg hs hw h1) asg_read
/-- name = value -/
theorem sv_set {i : Nat} {x : Str} {e : Expr} {f : Sem} {pos pos' : Pos} (hN : X.N.Nodup) (he : EV X Wx e f) (hi : X.N[i]? = some x := by rfl) (hx : Loc X.env.scope x := by first | exact Or.inl rfl | exact Or.inr rfl) (hs : swapsWith e (some (.Name x pos')) pos.line X.env = pure false := by rfl)
    (hf : X.fn x = true ∨ X.env.scope.names.lookup x = some .local := by first | exact .inl rfl | exact .inr rfl) (hk : i ∉ Wx.lock := by first | exact List.not_mem_nil | decide) : SV X Wx (.Assign [.Name x pos'] e pos) (sAsg f (gNm i)) := PSm (ps_set hN hi hx he hs hf) fun D σ H ⟨μ, st, hid, fr, S, P⟩ => by
  refine stm_read (t := id) S P fun w st1 μ1 H1 v S1 g1 r1 P1 => ?_
  exact P1 μ1 _ H1 (S1.set i hk r1) .refl
/-- name = [..] -/
theorem sv_setLcG {fin : LFin} (hf : FinOk X.K X.mg fin) {i : Nat} {y : Str} {py : Pos} {elt tg iter : Expr} {ifs : List Expr} {scope : Scope} {own : List (Str × Nat)} {pos spos : Pos} {f : SemI} {g : TgF} {sl : List Nat} {t : SemB} {e : Sem} (hc : X.calm = true) (hN : X.N.Nodup) (hi : IV X Wx tg iter f) (ok : blkC X.N X.env.scope scope own = true)
    (hsl : ∀ i ∈ sl, i ∈ own.map (·.2)) (hlk : ∀ i ∈ Wx.lock, i ∉ own.map (·.2))
    (hg : ∀ (s : Shared) (H : Hp) (C : Addr) (cl : List (Str × Addr)) (fp : List Addr), GV (X.blk s H scope (compEnvC scope cl C X.env) fp) Wx.blk tg g sl)
    (ht : ∀ (s : Shared) (H : Hp) (C : Addr) (cl : List (Str × Addr)) (fp : List Addr), PTs (X.blk s H scope (compEnvC scope cl C X.env) fp) ifs (tB' X.K X.mg Wx.blk t))
    (he : ∀ (s : Shared) (H : Hp) (C : Addr) (cl : List (Str × Addr)) (fp : List Addr), EV (X.blk s H scope (compEnvC scope cl C X.env) fp) Wx.blk elt e)
    (hsw : swapsWith (.ListComp elt [⟨tg, iter, ifs, 0⟩] scope pos) (some (.Name y py)) spos.line X.env = pure true) (hy : X.N[i]? = some y := by rfl) (hyl : X.env.scope.names.lookup y = some .local := by rfl) (hs : ∀ x, foldedSetIterable iter X.env x = pure x := by intro _; rfl) (hk : i ∉ Wx.lock := by first | exact List.not_mem_nil | decide) :
    SV X Wx (.Assign [.Name y py] (.ListComp elt [⟨tg, iter, ifs, 0⟩] scope pos) spos) (sAsg (eLcG fin f g (own.map (·.2)) t e) (gNm i)) :=
  PSm (ps_setLc hc hN hy hyl hsw hi (blkOk_by ok) hg ht he hs) fun D σ H ⟨μ, st, hid, fr, S, P⟩ => by
    refine lc_read hf hsl hlk σ H _ (stm_read (t := id) S P fun w st1 μ1 H1 v S1 g1 r1 P1 => ?_)
    exact P1 μ1 _ H1 (S1.set i hk r1) .refl
/-! ## if, for, while -/
def sIf (c : SemB) (f g : SSem) : SSem := fun fr st => (c fr st).stm fr fun b st1 => if b = true then f fr st1 else g fr st1
theorem sv_if {c : Expr} {a b : List Stmt} {fc : SemB} {f g : SSem} {pos : Pos} (hc : TV X Wx c fc) (ha : BV X Wx a f) (hb : BV X Wx b g) : SV X Wx (.If c a b pos) (sIf fc f g) := PSm (ps_if hc ha hb) fun D σ H ⟨μ, st, hid, fr, S, P⟩ => by
  refine ⟨μ, st, hid, fr, S, ?_⟩
  unfold sIf at P
  cases h : fc fr st with
  | bad => rw [h] at P; exact P
  | err x s => rw [h] at P; exact fun μ1 H1 c d k1 g1 xr => P μ1 σ H1 c d (S.next k1 g1) g1 xr
  | ok b st1 =>
    rw [h, Out.stm_ok] at P
    intro μ1 H1 k1 g1
    cases b with
    | true => exact iteT ⟨μ1, st1, hid, fr, S.next k1 g1, SPost.from g1 (by simpa using P)⟩
    | false => exact iteF ⟨μ1, st1, hid, fr, S.next k1 g1, SPost.from g1 (by simpa using P)⟩
open Classical in
noncomputable def forRun (x : W) (all : List W) (g : TgF) (b : SSem) : List W → Fr → Sto → SOut
  | [], fr, st => if srcOk x all st then .nx fr st else .bad
  | w :: r, fr, st => if srcOk x all st then (match g w fr st with
    | some fr1 => match b fr1 st with
      | .nx fr2 st2 => forRun x all g b r fr2 st2
      | .ct fr2 st2 => forRun x all g b r fr2 st2
      | .bk fr2 st2 => .nx fr2 st2
      | .rt u st2 => .rt u st2
      | .er e fr2 st2 => .er e fr2 st2
      | .bad => .bad
    | none => .bad) else .bad
noncomputable def sFor (f : SemI) (g : TgF) (b : SSem) : SSem := fun fr st => (f fr st).stm fr fun p st1 => forRun p.1 p.2 g b p.2 fr st1
theorem for_read {f : SemI} {g : TgF} {sl : List Nat} {b : SSem} : ∀ D σ H, tS X.K X.mg Wx (sFor f g b) D σ H → tFor (tI X.K X.mg Wx f) (tG X.K X.mg Wx g sl) (tS X.K X.mg Wx b) D σ H := fun D σ H ⟨μ, st, hid, fr, S, P⟩ => by
  refine ⟨μ, st, hid, fr, S, ?_⟩
  unfold sFor at P
  cases h1 : f fr st with
  | bad => rw [h1] at P; exact P
  | err x s => rw [h1] at P; exact fun μ1 H1 c d k1 g1 xr => P μ1 σ H1 c d (S.next k1 g1) g1 xr
  | ok p st1 =>
    obtain ⟨x, all⟩ := p
    rw [h1, Out.stm_ok] at P
    intro μ1 H1 J k1 g1 ji
    have P1 := SPost.from g1 P
    simp only at P1
    refine ⟨fun i m σ H => m = all.length - i ∧ i ≤ all.length ∧ ∃ μ st fr, SI X.K X.mg Wx μ st hid fr σ H ∧ Grow hid μ1 st1 H1 μ st H ∧ SPost X.K X.mg Wx hid μ st H D (forRun x all g b (all.drop i) fr st),
      ⟨_, rfl, Nat.zero_le _, μ1, st1, fr, S.next k1 g1, .refl, P1⟩, ?_⟩
    rintro i m σ2 H2 ⟨rfl, hi, μ2, st2, fr2, S2, g2, P2⟩
    by_cases hlt : i < all.length
    · rw [List.drop_eq_getElem_cons hlt, forRun] at P2
      split at P2
      · rename_i hs
        refine .inr ⟨ji.go _ _ _ _ i S2.sto g2.le g2.pre g2.lck hs hlt, fun σ H => ∃ μ st fr, SI X.K X.mg Wx μ st hid fr σ H ∧ Grow hid μ1 st1 H1 μ st H ∧ SPost X.K X.mg Wx hid μ st H D (forRun x all g b (all.drop (i + 1)) fr st),
          fun σ' H' q => ⟨_, by omega, rfl, hlt, q⟩, fun v H3 hy => ?_⟩
        obtain ⟨k3, g3, w, hw, rw_⟩ := ji.yld _ _ _ _ i v H3 S2.sto g2.le g2.pre g2.lck hs hlt hy
        have ew : all[i] = w := by
          rw [List.getElem?_eq_getElem hlt] at hw; exact Option.some.inj hw
        rw [ew] at P2
        cases e3 : g w fr2 st2 with
        | none => rw [e3] at P2; exact P2.elim
        | some fr3 =>
          rw [e3] at P2
          simp only at P2
          have P3 := SPost.from g3 P2
          refine ⟨μ2, st2, hid, fr2, w, fr3, S2.next k3 g3, rw_, e3, fun σ3 S3 _ => ⟨μ2, st2, hid, fr3, S3, ?_⟩⟩
          cases e4 : b fr3 st2 with
          | bad => rw [e4] at P3; exact P3
          | er e fr s => rw [e4] at P3; exact P3
          | rt w s => rw [e4] at P3; exact P3
          | bk fr s => rw [e4] at P3; exact P3
          | nx fr4 st4 => rw [e4] at P3; exact fun μ4 σ4 H4 S4 g4 => ⟨μ4, st4, fr4, S4, (g2.trans g3).trans g4, SPost.from g4 P3⟩
          | ct fr4 st4 => rw [e4] at P3; exact fun μ4 σ4 H4 S4 g4 => ⟨μ4, st4, fr4, S4, (g2.trans g3).trans g4, SPost.from g4 P3⟩
      · exact P2.elim
    · have hi2 : i = all.length := by omega
      subst hi2
      rw [List.drop_length, forRun] at P2
      split at P2
      · rename_i hs
        exact .inl ⟨ji.stop _ _ _ _ _ S2.sto g2.le g2.pre g2.lck hs (Nat.le_refl _), P2 μ2 σ2 H2 S2 .refl⟩
      · exact P2.elim
theorem sv_for {k : Nat} {tg iter : Expr} {body : List Stmt} {f : SemI} {g : TgF} {sl : List Nat} {b : SSem} {pos : Pos} (C : Ctx X Wx k) (hi : IV X Wx tg iter f) (hg : GV X Wx tg g sl) (hb : BV X Wx body b) (hs : ∀ x, foldedSetIterable iter X.env x = pure x := by intro _; rfl) :
    SV X Wx (.For tg iter body [] pos) (sFor f g b) := PSm (ps_for C.hp C.calm hi hg hb hs) for_read
def whRun (c : SemB) (b : SSem) : Nat → Fr → Sto → SOut
  | 0, _, _ => .bad
  | n + 1, fr, st => (c fr st).stm fr fun t st1 => if t = true then (match b fr st1 with
      | .nx fr2 st2 => whRun c b n fr2 st2
      | .ct fr2 st2 => whRun c b n fr2 st2
      | .bk fr2 st2 => .nx fr2 st2
      | .rt u st2 => .rt u st2
      | .er e fr2 st2 => .er e fr2 st2
      | .bad => .bad) else .nx fr st1
def sWhile (n : Nat) (c : SemB) (b : SSem) : SSem := fun fr st => whRun c b n fr st
theorem sv_while {k n : Nat} {c : Expr} {body : List Stmt} {fc : SemB} {b : SSem} {pos : Pos} (C : Ctx X Wx k) (hc : TV X Wx c fc) (hb : BV X Wx body b) : SV X Wx (.While c body [] pos) (sWhile n fc b) := PSm (ps_while C.hp hc hb) fun D σ H ⟨μ, st, hid, fr, S, P⟩ => by
  refine ⟨fun m σ H => ∃ μ st fr, SI X.K X.mg Wx μ st hid fr σ H ∧ SPost X.K X.mg Wx hid μ st H D (whRun fc b m fr st), ⟨n, μ, st, fr, S, P⟩, ?_⟩
  rintro m σ2 H2 ⟨μ2, st2, fr2, S2, P2⟩
  cases m with
  | zero => exact P2.elim
  | succ m =>
    rw [whRun] at P2
    refine ⟨μ2, st2, hid, fr2, S2, ?_⟩
    cases h : fc fr2 st2 with
    | bad => rw [h] at P2; exact P2
    | err x s => rw [h] at P2; exact fun μ1 H1 c d k1 g1 xr => P2 μ1 σ2 H1 c d (S2.next k1 g1) g1 xr
    | ok t st3 =>
      rw [h, Out.stm_ok] at P2
      intro μ3 H3 k3 g3
      have P3 := SPost.from g3 P2
      cases t with
      | false => exact iteF ((by simpa using P3 : SPost X.K X.mg Wx hid μ3 st3 H3 D (.nx fr2 st3)) μ3 σ2 H3 (S2.next k3 g3) .refl)
      | true =>
        simp only [if_true] at P3
        refine iteT ⟨fun σ H => ∃ μ st fr, SI X.K X.mg Wx μ st hid fr σ H ∧ SPost X.K X.mg Wx hid μ st H D (whRun fc b m fr st), fun σ' H' q => ⟨m, Nat.lt_succ_self m, q⟩, μ3, st3, hid, fr2, S2.next k3 g3, ?_⟩
        cases e4 : b fr2 st3 with
        | bad => rw [e4] at P3; exact P3
        | er e fr s => rw [e4] at P3; exact P3
        | rt w s => rw [e4] at P3; exact P3
        | bk fr s => rw [e4] at P3; exact P3
        | nx fr4 st4 => rw [e4] at P3; exact fun μ4 σ4 H4 S4 g4 => ⟨μ4, st4, fr4, S4, SPost.from g4 P3⟩
        | ct fr4 st4 => rw [e4] at P3; exact fun μ4 σ4 H4 S4 g4 => ⟨μ4, st4, fr4, S4, SPost.from g4 P3⟩

/-! ## a[i] = e -/
abbrev Op3 := W → W → W → Sto → Option Sto
def Op3S (X : Cx) (op : Op3) (t : TSet) : Prop := ∀ (hid μ : List Addr) (st st' : Sto) (H : Hp) (Q : Hp → Prop) (o i w : W) (ov iv v : V), StOk X.K X.mg μ st hid H → Rep X.K X.mg (Fz μ st hid H) μ o ov → Rep X.K X.mg (Fz μ st hid H) μ i iv → Rep X.K X.mg (Fz μ st hid H) μ w v →
  op o i w st = some st' → (∀ μ' H', StOk X.K X.mg μ' st' hid H' → Grow hid μ st H μ' st' H' → Q H') → t ov iv v H Q
def sSub (op : Op3) (f fo fi : Sem) : SSem := fun fr st => (f fr st).stm fr fun w st1 => (fo fr st1).stm fr fun o st2 => (fi fr st2).stm fr fun i st3 => match op o i w st3 with
  | some st4 => .nx fr st4
  | none => .bad
theorem sv_sub {o i e : Expr} {op : Op3} {t : TSet} {f fo fi : Sem} {pos tpos : Pos} (hp : PSet X t) (hs : Op3S X op t) (he : EV X Wx e f) (ho : EV X Wx o fo) (hi : EV X Wx i fi)
    (ha : ∀ v, assign (.Subscript o i tpos) X.env v = (do
      let ov ← holding [v] (eval o X.env)
      let iv ← holding [v, ov] (eval i X.env)
      standAt tpos
      holding [v, ov, iv] (setItem ov iv v)
      release [v, ov, iv] []) := by intro _; rfl)
    (hs1 : swapsWithSole [.Subscript o i tpos] e pos.line X.env = pure false := by rfl) (hw : swappedStores [.Subscript o i tpos] e X.env = pure none := by rfl) (h1 : (assignEach [.Subscript o i tpos] X.env).map (·.2) = [assign (.Subscript o i tpos) X.env] := by rfl) :
    SV X Wx (.Assign [.Subscript o i tpos] e pos) (sSub op f fo fi) := PSm (ps_asg he (pg_sub ho hi hp ha) hs1 hw h1) fun D σ H ⟨μ, st, hid, fr, S, P⟩ => by
  refine stm_read (t := id) S P fun w st1 μ1 H1 v S1 g1 r1 P1 => ?_
  refine stm_read (t := id) S1 P1 fun o st2 μ2 H2 ov S2 g2 r2 P2 => ?_
  refine stm_read (t := id) S2 P2 fun i st3 μ3 H3 iv S3 g3 r3 P3 => ?_
  split at P3
  · rename_i st4 e4
    exact hs hid μ3 st3 st4 H3 _ o i w ov iv v S3.sto (Rep.mono g3.le g3.pre _ _ r2) r3 (Rep.mono (g2.trans g3).le (g2.trans g3).pre _ _ r1) e4 fun μ4 H4 k4 g4 => P3 μ4 σ H4 (S3.next k4 g4) g4
  · exact P3.elim
/-- a list's cell -/
def uLst : Op3 := fun o i w st => match o, i with
  | .cell k, .int j => match st[k]? with
    | some (.lst ws) => (ixN ws.length j).map fun n => st.set k (.lst (ws.set n w))
    | _ => none
  | _, _ => none
theorem os_setL : Op3S X uLst rSetL := by
  intro hid μ st st' H Q o i w ov iv v k ro ri rw_ e q
  unfold uLst at e
  split at e
  · rename_i n j
    cases rep_int_inv ri
    split at e
    · rename_i ws e1
      obtain ⟨a, rfl, h1, vs, h2, h3⟩ := k.cell e1 ro
      cases e2 : ixN ws.length j with
      | none => rw [e2] at e; cases e
      | some m =>
        rw [e2] at e
        cases e
        refine ⟨a, vs, j, m, rfl, rfl, h2, by rw [← h3.length]; exact e2, ?_⟩
        obtain ⟨k2, g2⟩ := k.setCell (c' := .lst (ws.set m w)) (o := .lst (vs.set m v)) h1 e1 rfl rfl ⟨_, upd_same, h3.set m rw_⟩
        exact q _ _ k2 g2
    · cases e
  · cases e

/-! ## methods of lists -/
abbrev OpM := W → List W → Sto → Out W
def OpMS (X : Cx) (op : OpM) (r : V → List V → Hp → VK → Prop) : Prop := ∀ (Wx : WX) (hid μ : List Addr) (st : Sto) (σ : L2.St) (H : Hp) (Q : VK) (w : W) (ws : List W) (x : V) (vs : List V), StOk X.K X.mg μ st hid H → Rep X.K X.mg (Fz μ st hid H) μ w x → Reps X.K X.mg (Fz μ st hid H) μ ws vs →
  EPost X.K X.mg Wx hid μ st σ H Q (op w ws st) → r x vs H Q
/-- what a method's receiver must be -/
def isLst (st : Sto) (w : W) : Bool := (lstW st w).isSome
def eM (ty : Sto → W → Bool) (op : OpM) (f : Sem) (g : SemL) : Sem := fun fr st => (f fr st).bind fun w st1 => if ty st1 w = true then (g fr st1).bind fun ws st2 => op w ws st2 else .bad
theorem eM_read {T : String} {ty : Sto → W → Bool} {op : OpM} {r : V → List V → Hp → VK → Prop} {f : Sem} {g : SemL} (ht : ∀ (hid μ : List Addr) (st : Sto) (H : Hp) (w : W) (v : V), StOk X.K X.mg μ st hid H → Rep X.K X.mg (Fz μ st hid H) μ w v → ty st w = true → tyV X.K T v H) (hs : OpMS X op r) :
    ∀ σ H Q, tE X.K X.mg Wx (eM ty op f g) σ H Q → tBM X.K T r (tE X.K X.mg Wx f) (tA X.K X.mg Wx g) σ H Q := fun σ H Q ⟨μ, st, hid, fr, S, P⟩ => by
  refine ⟨μ, st, hid, fr, S, ?_⟩
  unfold eM at P
  cases h : f fr st with
  | bad => rw [h] at P; exact P
  | err x s => rw [h] at P; exact P
  | ok w st1 =>
    rw [h, Out.bind_ok] at P
    intro μ1 H1 v k1 g1 r1
    have P1 := EPost.from g1 P
    split at P1
    · rename_i hty
      refine ⟨ht hid μ1 st1 H1 w v k1 r1 hty, μ1, st1, hid, fr, S.next k1 g1, ?_⟩
      cases h2 : g fr st1 with
      | bad => rw [h2] at P1; exact P1
      | err x s => rw [h2] at P1; exact P1
      | ok ws st2 =>
        rw [h2, Out.bind_ok] at P1
        intro μ2 H2 vs k2 g2 r2
        exact hs Wx.w hid μ2 st2 σ H2 Q w ws v vs k2 (Rep.mono g2.le g2.pre _ _ r1) r2 (EPost.from g2 P1)
    · exact P1.elim
theorem ty_lst : ∀ (hid μ : List Addr) (st : Sto) (H : Hp) (w : W) (v : V), StOk X.K X.mg μ st hid H → Rep X.K X.mg (Fz μ st hid H) μ w v → isLst st w = true → tyV X.K "list" v H := fun hid μ st H w v k r h => by
  unfold isLst at h
  cases e : lstW st w with
  | none => rw [e] at h; cases h
  | some ws =>
    obtain ⟨a, vs, rfl, h1, _⟩ := lstW_at k e r
    exact .inl ⟨rfl, vs, h1⟩
def mAppend : OpM := fun x ws st => match x, ws with
  | .cell k, [w] => match st[k]? with
    | some (.lst us) => if us.length < LINE then .ok .non (st.set k (.lst (us ++ [w]))) else .bad
    | _ => .bad
  | _, _ => .bad
theorem os_append : OpMS X mAppend rAppend := by
  intro Wx hid μ st σ H Q w ws x vs k rx rs P
  unfold mAppend at P
  split at P
  · obtain ⟨v, rfl, r1⟩ := reps1 (ws := []) rs
    split at P
    · rename_i us e1
      split at P
      · rename_i hz
        obtain ⟨a, rfl, h1, zs, h2, h3⟩ := k.cell e1 rx
        refine ⟨a, zs, v, rfl, rfl, h2, by rw [← h3.length, sizeLine_eq]; exact hz, ?_⟩
        obtain ⟨k2, g2⟩ := k.setCell (c' := .lst (us ++ [_])) (o := .lst (zs ++ [v])) h1 e1 rfl rfl ⟨_, upd_same, h3.append (.cons r1 .nil)⟩
        exact P μ _ _ k2 g2 rep_non
      · exact P.elim
    · exact P.elim
  · exact P.elim
def mInsert : OpM := fun x ws st => match x, ws with
  | .cell k, [.int i, w] => match st[k]? with
    | some (.lst us) => if us.length < LINE ∧ 0 ≤ i ∧ i < 2 ^ 63 then .ok .non (st.set k (.lst (us.take i.toNat ++ [w] ++ us.drop i.toNat))) else .bad
    | _ => .bad
  | _, _ => .bad
theorem os_insert : OpMS X mInsert (fun x vs H Q => ∃ (l : Addr) (xs : List V) (i : Int) (y : V), x = .ref l ∧ vs = [.int i, y] ∧ H l = some (.lst xs) ∧ xs.length < sizeLine ∧ 0 ≤ i ∧ i < 2 ^ 63 ∧ Q .non (upd H l (.lst (xs.take i.toNat ++ [y] ++ xs.drop i.toNat)))) := by
  intro Wx hid μ st σ H Q w ws x vs k rx rs P
  unfold mInsert at P
  split at P
  · obtain ⟨v, y, rfl, r0, r1⟩ := reps2 rs
    cases rep_int_inv r0
    split at P
    · rename_i us e1
      split at P
      · rename_i hz
        obtain ⟨a, rfl, h1, zs, h2, h3⟩ := k.cell e1 rx
        refine ⟨a, zs, _, y, rfl, rfl, h2, by rw [← h3.length, sizeLine_eq]; exact hz.1, hz.2.1, hz.2.2, ?_⟩
        obtain ⟨k2, g2⟩ := k.setCell (c' := .lst (us.take _ ++ [_] ++ us.drop _)) (o := .lst (zs.take _ ++ [y] ++ zs.drop _)) h1 e1 rfl rfl ⟨_, upd_same, ((h3.take _).append (.cons r1 .nil)).append (h3.drop _)⟩
        exact P μ _ _ k2 g2 rep_non
      · exact P.elim
    · exact P.elim
  · exact P.elim
/-- a display that is to change: a new cell -/
def oCell : OpN := fun ws st => if small ws = true then .ok (.cell st.length) (st ++ [.lst ws]) else .bad
theorem ev_lstC {es : List Expr} {f : SemL} {pos : Pos} (h : AV X Wx es f) : EV X Wx (.List es pos) (eN oCell f) := PEm (pe_lst h) fun σ H Q P => by
  refine eN_read (r := fun vs H1 Q => vs.length ≤ sizeLine ∧ ∀ p, H1 p = none → Q (.ref p) (upd H1 p (.lst vs))) ?_ σ H Q P
  intro Wx hid μ st σ H Q ws vs k r P
  unfold oCell at P
  split at P
  · rename_i hs
    refine ⟨small_line hs r, fun p hp => ?_⟩
    obtain ⟨k2, g2⟩ := k.newCell (c := .lst ws) (o := .lst vs) hp rfl ⟨vs, upd_same, r.mono (.refl _) ⟨[p], rfl⟩⟩
    refine P _ _ _ k2 g2 ?_
    unfold Rep
    exact ⟨p, by rw [← k.len]; simp, rfl⟩
  · exact P.elim
end
end SL

namespace SL
open PySem PySem.Spec PyProof.Rows L2

/-! ## several except clauses, with and without a name -/
abbrev Hnd := Value × Option Nat × (Addr → Value → Option Addr → TS)
def clr (sl : Option Nat) (D : Ends) : Ends := match sl with
  | none => D
  | some i => { nx := fun σ H => D.nx (σ.set i none) H, rt := D.rt, bk := fun σ H => D.bk (σ.set i none) H, ct := fun σ H => D.ct (σ.set i none) H }
def stoE (sl : Option Nat) (σ : L2.St) (a : Addr) : L2.St := match sl with
  | none => σ
  | some i => σ.set i (some (.ref a))
def wGen (K : PySem.W.Frag) (Wo : WX) (D : Ends) : List Hnd → WX
  | [] => Wo
  | (c, sl, ts) :: r => fun cls d σ H => ∃ b, PySem.W.exmOne K cls c = some b ∧ (b = true → ∀ a, H a = none → ts a cls d (clr sl D) (stoE sl σ a) H) ∧ (b = false → wGen K Wo D r cls d σ H)
def SuiteOk (X : Cx) (ss : List Stmt) (ts : Addr → Value → Option Addr → TS) : Prop := ∀ (a : Addr) (ob : Obj) (cls : Value) (d : Option Addr) (pl : List (Addr × Obj)), Zc cls d ob → (∃ vs, ob.data = .fields vs) → PSs (X.suite a ((a, ob) :: pl)) ss (ts a cls d)
inductive HdsG (X : Cx) : List ExceptHandler → List Hnd → Prop
  | nil : HdsG X [] []
  | one {x : Str} {c : Value} {ts : Addr → Value → Option Addr → TS} {s0 : Stmt} {ss : List Stmt} {p1 p2 : Pos} {hs : List ExceptHandler} {l : List Hnd} (hc : Names X x c) (hu : SuiteOk X (s0 :: ss) ts) (r : HdsG X hs l) :
      HdsG X (.ExceptHandler (some (.Name x p1)) none (s0 :: ss) p2 :: hs) ((c, none, ts) :: l)
  | as {x n : Str} {i : Nat} {c : Value} {ts : Addr → Value → Option Addr → TS} {s0 : Stmt} {ss : List Stmt} {p1 p2 : Pos} {hs : List ExceptHandler} {l : List Hnd} (hc : Names X x c) (hi : X.N[i]? = some n) (hl : X.env.kindOf n = some .local) (hu : SuiteOk X (s0 :: ss) ts) (r : HdsG X hs l) :
      HdsG X (.ExceptHandler (some (.Name x p1)) (some n) (s0 :: ss) p2 :: hs) ((c, some i, ts) :: l)
section
variable {X : Cx}
theorem ps_tryG {body : List Stmt} {g0 : ExceptHandler} {gs : List ExceptHandler} {l : List Hnd} {pos : Pos} {tb : WX → TS} {Wo : WX} (hN : X.N.Nodup) (hst : X.stack = X.env :: X.outer) (hfm : X.env.frame = some X.env.locals) (tk : Takes X Wo)
    (hb : ∀ (W : WX) (pl : List (Addr × Obj)) (xe : Value → Shared → Prop), Takes (X.tr pl xe) W → PassesOwn (model X.prog X.w) X.A X.env xe → PSs (X.tr pl xe) body (tb W))
    (hh : HdsG X (g0 :: gs) l) : PS X (.Try body (g0 :: gs) [] [] pos) (fun D σ H => tb (wGen X.K Wo D l) D σ H) := by
  refine ⟨fun pins s σ H D I0 hw => ?_⟩
  have ok := I0.ok
  have hfr : X.A.frames = some (X.env :: X.outer) := by rw [← hst]; exact ok.frames
  refine wpAny_Try_except (wpAny_mono ((hb (wGen X.K Wo D l) (X.pn ++ pins) _ (fun u s' hx => ?_) PassesOwn.looking).run [] s σ H D (I0.toTry _) hw) (fun f s1 hf => ?_) fun _ _ z => z)
  · obtain ⟨a, B, sI, pq, σ1, H1, cls, d, rfl, J0, nb, up, sky, na, os, ag, wi⟩ := hx
    have J1 : Inv X pins σ1 H1 sI := J0.ofTry ok
    have sky1 : Sky B (X.env :: X.outer) a (Zc cls d) X.env.locals s'.heap := by rw [← hst]; exact sky
    refine Sky.land Zc.steady hfr hfm sky1 fun h3 fl up3 => ?_
    have J3 : Inv X pins σ1 H1 { s' with heap := h3 } := J1.landed nb fl.1 (up.trans up3) os ag
    obtain ⟨ob, vs, hob, hz, hdt⟩ := fl.there
    have nfr : a ∉ frs (X.env :: X.outer) := fun hm => by
      obtain ⟨_, ob', e', hnf⟩ := fl.2.2.1.mem hm
      rw [hob] at e'; cases e'
      exact hnf _ hdt
    have nL : a ≠ X.env.locals := fun z => nfr (List.mem_filterMap.mpr ⟨X.env, List.mem_cons_self, by rw [hfm, z]⟩)
    have nF : a ∉ X.fs := fun hm => by
      obtain ⟨e, he, q⟩ := List.mem_filterMap.mp hm
      exact nfr (List.mem_filterMap.mpr ⟨e, List.mem_cons_of_mem _ he, q⟩)
    have S3 := J3.suite hob hdt na nL nF
    -- the class's test
    have tst : ∀ {x : Str} {c : Value} {p : Pos} {Q : Value → Shared → Prop} {E : Value → Shared → Prop}, Names X x c → Q c { s' with heap := h3 } → wpAny (model X.prog X.w) (X.A.mark (some (.ref a))) (eval (.Name x p) X.env) Q E { s' with heap := h3 } := fun {x c p Q E} hc q => by
      obtain ⟨hg, hdb, hm | ⟨hm, hv, hnn⟩⟩ := hc
      · exact ld_glob (X := X.suite a ((a, ob) :: (X.pn ++ pins))) S3 hg hm q hdb
      · exact ld_blt (X := X.suite a ((a, ob) :: (X.pn ++ pins))) S3 hg hm hv q hnn hdb
    have lty : PySem.W.Looks (model X.prog X.w) h3 (typeOf (.ref a)) cls := fun A Q E s k q => wpAny_typeOf_ref (k _ _ hob) (by rw [hz.1]; exact q)
    -- the suite lands
    have lnd : ∀ {Q : Unit → Shared → Prop} {E : Value → Shared → Prop}, (∀ h4 ob4, Inv X pins σ1 H1 { s' with heap := h4 } → Zc cls d ob4 → (∃ vs, ob4.data = .fields vs) → Inv (X.suite a ((a, ob4) :: (X.pn ++ pins))) [] σ1 H1 { s' with heap := h4 } → Q () { s' with heap := h4 }) → wpAny (model X.prog X.w) (X.A.mark (some (.ref a))) (setFlight (.ref a) none) Q E { s' with heap := h3 } := fun {Q E} q => by
      refine HandSPX.lands_againZ fl fun h4 fl4 up4 => ?_
      have J4 : Inv X pins σ1 H1 { s' with heap := h4 } := J1.landed nb fl4.1 ((up.trans up3).trans up4) os ag
      obtain ⟨ob4, vs4, hob4, hz4, hdt4⟩ := fl4.there
      exact q h4 ob4 J4 hz4 ⟨_, hdt4⟩ (J4.suite hob4 hdt4 na nL nF)
    suffices go : ∀ {hs : List ExceptHandler} {l2 : List Hnd}, HdsG X hs l2 → wGen X.K Wo D l2 cls d σ1 H1 → wpAny (model X.prog X.w) X.A (handleBy (.ref a) X.env hs) (SP X pins D) X.xe { s' with heap := h3 } from go hh wi
    intro hs l2 hk
    induction hk with
    | nil =>
      intro wo
      refine wpAny_handleBy_nil ?_
      obtain ⟨_, _, _, ob2, us, T, _, _, e2, _, dt2, q1, _⟩ := id fl
      unfold PySem.passOn
      refine wpAny_bind (wpAny_field e2 dt2 q1 ?_)
      rw [if_neg (show ¬ ((Value.ref T == Value.none) = true) from by simp)]
      have fin : wpAny (model X.prog X.w) X.A (setFlight (.ref a) X.env.frame) (fun _ s4 => wpAny (model X.prog X.w) X.A (throw (Value.ref a) : PySem.Sem Flow) (SP X pins D) X.xe s4) X.xe { s' with heap := h3 } := by
        rw [hfm]
        exact HandSPX.setFlight_upZ fl fun h4 hd4 up4 => wpAny_throw (tk _ _ ⟨a, B, sI, pins, σ1, H1, cls, d, rfl, J1, nb, (up.trans up3).trans up4, .inr (.inr (by rw [hst]; exact hd4)), na, os, ag, wo⟩)
      first
        | exact wpAny_bind (wpAny_pure (wpAny_bind fin))
        | exact wpAny_bind fin
    | one hc hu r ih =>
      rintro ⟨b, hb1, yes, no⟩
      refine wpAny_handleBy_cons (codeAny_handlers_test ?_) (by intro q; cases q)
      refine tst hc ((PySem.W.exm_one (M := model X.prog X.w) J3.kIn lty hb1).here ?_)
      cases b with
      | false => exact ih (no rfl)
      | true =>
        refine codeAny_handlers_suite (lnd fun h4 ob4 J4 z4 d4 S4 => ?_)
        refine wpAny_mono ((hu a ob4 cls d (X.pn ++ pins) z4 d4).run [] _ _ H1 _ S4 (yes rfl a na)) (fun f s6 hf => ?_) (fun _ _ z => False.elim z)
        cases f with
        | next => obtain ⟨_, _, S6, q⟩ := hf; exact ⟨_, _, S6.unsuite ok, q⟩
        | brk => obtain ⟨_, _, S6, q⟩ := hf; exact ⟨_, _, S6.unsuite ok, q⟩
        | cont => obtain ⟨_, _, S6, q⟩ := hf; exact ⟨_, _, S6.unsuite ok, q⟩
        | ret u => obtain ⟨_, _, _, S6, rr, q⟩ := hf; exact ⟨_, _, _, S6.unsuite ok, rr, q⟩
    | @as x n i c ts s0 ss p1 p2 hs l2 hc hi hl hu r ih =>
      rintro ⟨b, hb1, yes, no⟩
      refine wpAny_handleBy_cons (codeAny_handlers_test ?_) (by intro q; cases q)
      refine tst hc ((PySem.W.exm_one (M := model X.prog X.w) J3.kIn lty hb1).here ?_)
      cases b with
      | false => exact ih (no rfl)
      | true =>
        refine codeAny_handlers_suite_as (lnd fun h4 ob4 J4 z4 d4 S4 => ?_)
        refine store_ok (X := X.suite a ((a, ob4) :: (X.pn ++ pins))) (v := .ref a) S4 hN hi (.inl hl) rfl (fun s5 S5 => ?_) (.inr hl)
        refine wpAny_mono ((hu a ob4 cls d (X.pn ++ pins) z4 d4).run [] s5 _ H1 _ S5 (yes rfl a na)) (fun f s6 hf => ?_) (fun _ _ z => False.elim z)
        have gone : ∀ {σ6 : L2.St} {H6 : Hp} {Q : Shared → Prop}, Inv (X.suite a ((a, ob4) :: (X.pn ++ pins))) [] σ6 H6 s6 → (∀ s7, Inv X pins (σ6.set i none) H6 s7 → Q s7) →
            wpAny (model X.prog X.w) X.A (do bindName X.env n .none; unbindBehindTheSuite X.env n p2) (fun _ s7 => Q s7) X.xe s6 := fun S6 hq => gone_ok (S6.unsuite ok) hN hi hl hq
        cases f with
        | next => obtain ⟨_, _, S6, q⟩ := hf; exact gone S6 fun _ J7 => ⟨_, _, J7, q⟩
        | brk => obtain ⟨_, _, S6, q⟩ := hf; exact gone S6 fun _ J7 => ⟨_, _, J7, q⟩
        | cont => obtain ⟨_, _, S6, q⟩ := hf; exact gone S6 fun _ J7 => ⟨_, _, J7, q⟩
        | ret u => obtain ⟨_, _, _, S6, rr, q⟩ := hf; exact gone S6 fun _ J7 => ⟨_, _, _, J7, rr, q⟩
  · cases f with
    | next => obtain ⟨_, _, J2, q⟩ := hf; exact wpAny_execs_nil ⟨_, _, J2.ofTry ok, q⟩
    | brk => obtain ⟨_, _, J2, q⟩ := hf; exact ⟨_, _, J2.ofTry ok, q⟩
    | cont => obtain ⟨_, _, J2, q⟩ := hf; exact ⟨_, _, J2.ofTry ok, q⟩
    | ret u => obtain ⟨_, _, _, J2, rr, q⟩ := hf; exact ⟨_, _, _, J2.ofTry ok, rr, q⟩
end
end SL

namespace SL
open PySem PySem.Spec PyProof.Rows L2

/-! ## own exceptions with one field -/
/-- what __init__ promises: the one field is laid -/
def spI1 (C : Addr) (fld : Str) : Sp := fun vs H Q _ => ∃ a y, vs = [.ref a, y] ∧ H a = some (exo a C none) ∧ ∀ dx, H dx = none → dx ≠ a → Q .non (upd (upd H dx (exd dx [(fld, y)])) a (exo a C (some dx)))
structure Exc1 (P : Program) (w : World) (K : PySem.W.Frag) (mg : Str → Option Value) (base : Heap) (c fld : Str) : Prop where
  ex : ∃ (C fI : Addr) (fd : FuncData) (x : Str), OexC K C ∧ PySem.W.findIn K (.ref C) "__init__" = some (some (.ref fI)) ∧ PySem.W.typeIn K (.ref fI) = some (.type "function") ∧ FnOk P w K mg base (L2.CX P w) 1 fI fd ["self", x] (spI1 C fld) ∧ Binds K fd ["self", x] [] ∧ mg c = some (.ref C)
theorem init1 {P : Program} {w : World} {K : PySem.W.Frag} {mg : Str → Option Value} {base : Heap} {qual : Str} {st : Stmt} {f C : Addr} {fd : FuncData} {x fld : Str} {p1 p2 p3 p4 : Pos} (F : Fun K "__init__" qual st f fd) (S : FnScope ["self", x] ["self", x] (defScope st))
    (hb : defBody st = [.Assign [.Attribute (.Name "self" p1) fld p2] (.Name x p3) p4]) (T : OexC K C) (hno : PySem.W.findIn K (.ref C) fld = some none) (hd : (x == ("__debug__" : Str)) = false) (hcd : (x == ("__classdict__" : Str)) = false) : FnOk P w K mg base (L2.CX P w) 1 f fd ["self", x] (spI1 C fld) := by
  refine F.okX (k := 0) S (fun vs H Q E h => ?_) (fun cdv A outer s H vs Q E hr h => ?_)
  · obtain ⟨a, y, rfl, _⟩ := h; rfl
  · rw [hb]
    have vis : ∀ z ∈ (["self", x] : List Str), Vis (defScope st) z := fun z hz => by
      rcases S.par z hz with q | q
      · exact .inl q
      · exact .inr (.inl q)
    refine ⟨_, pss_one (ps_ost (pe_var (i := 0) rfl (vis "self" (by simp))) (pe_var (i := 1) rfl (vis x (by simp)) hd hcd)), ?_⟩
    obtain ⟨a, y, rfl, h1, h2⟩ := h
    exact ⟨y, rfl, .ref a, rfl, a, C, rfl, T, hno, .inl ⟨h1, fun dx n ne => h2 dx n ne⟩⟩
theorem del_eq {H : Hp} {a d : Addr} {o o1 o2 o3 : HO} (ha : H a = none) (hd : d ≠ a) : upd (del (upd (upd (upd H a o) d o1) a o2) a) d o3 = upd H d o3 := by
  funext b
  by_cases e : b = d
  · subst e; rw [upd_same, upd_same]
  · rw [upd_ne e, upd_ne e]
    by_cases z : b = a
    · subst z; rw [del_same, ha]
    · rw [del_ne z, upd_ne z, upd_ne e, upd_ne z]
/-- raise C(e, ..): the error's fields are the arguments -/
def sRaise (c : Str) (ns : List Str) (f : SemL) : SSem := fun fr st => (f fr st).stm fr fun ws st1 => if ws.length = ns.length then .er ⟨c, ns, ws⟩ fr st1 else .bad
section
variable {X : Cx} {Wx : Wish}
theorem sv_raise1 {k : Nat} {c fld : Str} {f : SemL} {e : Expr} {es : List Expr} {p p2 pos : Pos} (C : Ctx X Wx k) (hk : 2 ≤ k) (E : Exc1 X.prog X.w X.K X.mg X.base c fld) (ha : AV X Wx (e :: es) f) (hg : Gl X c := by rfl) (hdb : (c == ("__debug__" : Str)) = false := by decide)
    (he : starEach (e :: es) X.env = (false, eval e X.env) :: starEach es X.env := by rfl) (hpl : (backTo p2 (starEach es X.env)).any (·.1) = false := by rfl) :
    SV X Wx (.Raise (some (.Call (.Name c p) (e :: es) [] p2)) none pos) (sRaise c [fld] f) := by
  obtain ⟨A, fI, fd, x, T, h1, h2, F, B, hm⟩ := E.ex
  refine PSm (ps_raise C.calm C.tk (pmk_oex (CX := L2.CX X.prog X.w) (k := 1) T h1 h2 F (C.room.mono hk) B .nil (fun pins σ H s u s' I z => ?_) hg hm ha hdb he hpl)) fun D σ H ⟨μ, st, hid, fr, S, P⟩ => ?_
  · obtain ⟨_, _, _, _, _, _, _, _, _, _, _, _, z⟩ := z
    exact z.elim
  · refine ⟨μ, st, hid, fr, S, ?_⟩
    unfold sRaise at P
    cases e1 : f fr st with
    | bad => rw [e1] at P; exact P
    | err x s => rw [e1] at P; exact fun μ1 H1 c d k1 g1 xr => P μ1 σ H1 c d (S.next k1 g1) g1 xr
    | ok ws st1 =>
      rw [e1, Out.stm_ok] at P
      intro μ1 H1 vs k1 g1 r1
      have P1 := SPost.from g1 P
      split at P1
      · rename_i hl
        have hv : vs.length = 1 := by rw [← r1.length]; exact hl
        obtain ⟨y, rfl⟩ : ∃ y, vs = [y] := by
          match vs, hv with
          | [y], _ => exact ⟨y, rfl⟩
        refine ⟨by simp, fun a na => ⟨a, y, rfl, upd_same, fun dx nd ne => ⟨rfl, dx, [(fld, y)], upd_same, by rw [upd_ne ne, upd_same], ?_, ?_⟩⟩⟩
        · rw [upd_ne ne] at nd; exact nd
        · rw [upd_ne ne] at nd
          rw [del_eq na ne]
          obtain ⟨k2, g2, e2⟩ := k1.laid (o := .xd [(fld, y)]) nd
          exact P1 μ1 σ _ _ _ ((S.next k1 g1).next k2 g2) g2 ⟨A, hm, rfl, .inr ⟨dx, [y], rfl, rfl, e2, r1.mono g2.le (.refl _)⟩⟩
      · exact P1.elim

/-! ## try -/
def clrF (sl : Option Nat) (fr : Fr) : Fr := match sl with
  | none => fr
  | some i => fr.set i none
structure HndS where
  cn : Str
  sl : Option Nat
  h : Exc → SSem
def SOut.clr (sl : Option Nat) : SOut → SOut
  | .nx fr st => .nx (clrF sl fr) st
  | .bk fr st => .bk (clrF sl fr) st
  | .ct fr st => .ct (clrF sl fr) st
  | .rt w st => .rt w st
  | .er _ _ _ => .bad
  | .bad => .bad
/-- which class stands under which -/
abbrev ExT := Str → Str → Option Bool
def slOk (sl : Option Nat) (fr : Fr) : Bool := match sl with
  | none => true
  | some i => decide (i < fr.length)
def hRun (T : ExT) (x : Exc) : List HndS → Fr → Sto → SOut
  | [], fr, st => .er x fr st
  | hd :: r, fr, st => match T x.c hd.cn with
    | some true => if slOk hd.sl fr = true then (hd.h x (clrF hd.sl fr) st).clr hd.sl else .bad
    | some false => hRun T x r fr st
    | none => .bad
def sTry (T : ExT) (b : SSem) (hs : List HndS) : SSem := fun fr st => match b fr st with
  | .er x fr1 st1 => hRun T x hs fr1 st1
  | o => o
theorem XRep.mono {K : PySem.W.Frag} {mg : Str → Option Value} {F F' : Hp} {μ μ' : List Addr} {x : Exc} {c : Value} {d : Option Addr} (l : Le F F') (p : Pre μ μ') (h : XRep K mg F μ x c d) : XRep K mg F' μ' x c d := by
  obtain ⟨C, h1, h2, h3⟩ := h
  refine ⟨C, h1, h2, ?_⟩
  rcases h3 with h3 | ⟨dx, vs, h3, h4, h5, h6⟩
  · exact .inl h3
  · exact .inr ⟨dx, vs, h3, h4, l.xd h5, h6.mono l p⟩
def Wish.suite (Wx : Wish) (K : PySem.W.Frag) (mg : Str → Option Value) (sl : Option Nat) (x : Exc) (a : Addr) (cls : Value) (d : Option Addr) : Wish where
  w := fun _ _ _ _ => False
  lock := sl.toList ++ Wx.lock
  y := fun σ F μ => Wx.y σ F μ ∧ XRep K mg F μ x cls d ∧ ∀ i, sl = some i → σ[i]? = some (some (.ref a))
  mono := fun σ F F' μ μ' l p h => ⟨Wx.mono _ _ _ _ _ l p h.1, h.2.1.mono l p, h.2.2⟩
  slot := fun σ σ' F μ e h => ⟨Wx.slot _ _ _ _ (fun i hi => e i (List.mem_append_right _ hi)) h.1, h.2.1, fun i hi => by
    rw [e i (List.mem_append_left _ (by rw [hi]; simp))]; exact h.2.2 i hi⟩
/-- what a wish within a try's body is -/
def Wish.tr (Wx : Wish) (W : WX) : Wish := ⟨W, Wx.lock, Wx.y, Wx.mono, Wx.slot⟩
theorem SI.tr {K : PySem.W.Frag} {mg : Str → Option Value} {μ : List Addr} {st : Sto} {hid : List Addr} {fr : Fr} {σ : L2.St} {H : Hp} (W : WX) (s : SI K mg Wx μ st hid fr σ H) : SI K mg (Wx.tr W) μ st hid fr σ H := ⟨s.sto, s.len, s.loc, s.ex⟩
theorem SI.ofTr {K : PySem.W.Frag} {mg : Str → Option Value} {μ : List Addr} {st : Sto} {hid : List Addr} {fr : Fr} {σ : L2.St} {H : Hp} {W : WX} (s : SI K mg (Wx.tr W) μ st hid fr σ H) : SI K mg Wx μ st hid fr σ H := ⟨s.sto, s.len, s.loc, s.ex⟩
def tsOf (K : PySem.W.Frag) (mg : Str → Option Value) (Wx : Wish) (sl : Option Nat) (h : Exc → SSem) : Addr → Value → Option Addr → TS := fun a cls d D σ H => ∃ x, tS K mg (Wx.suite K mg sl x a cls d) (h x) D σ H
/-- a suite by its meaning -/
def SuV (X : Cx) (Wx : Wish) (sl : Option Nat) (ss : List Stmt) (h : Exc → SSem) : Prop := ∀ (a : Addr) (ob : Obj) (cls : Value) (d : Option Addr) (pl : List (Addr × Obj)) (x : Exc), Zc cls d ob → (∃ vs, ob.data = .fields vs) → BV (X.suite a ((a, ob) :: pl)) (Wx.suite X.K X.mg sl x a cls d) ss (h x)
theorem SuV.ok {sl : Option Nat} {ss : List Stmt} {h : Exc → SSem} (u : SuV X Wx sl ss h) : SuiteOk X ss (tsOf X.K X.mg Wx sl h) := fun a ob cls d pl hz hf =>
  ⟨fun pins s σ H D I ⟨x, q⟩ => (u a ob cls d pl x hz hf).run pins s σ H D I q⟩
/-- the clauses by their meaning -/
inductive HV (X : Cx) (Wx : Wish) : List ExceptHandler → List HndS → List Hnd → Prop
  | nil : HV X Wx [] [] []
  | one {x : Str} {C : Addr} {h : Exc → SSem} {s0 : Stmt} {ss : List Stmt} {p1 p2 : Pos} {hs : List ExceptHandler} {l : List HndS} {m : List Hnd} (hg : Gl X x) (hd : (x == ("__debug__" : Str)) = false) (hm : X.mg x = some (.ref C)) (hu : SuV X Wx none (s0 :: ss) h) (r : HV X Wx hs l m) :
      HV X Wx (.ExceptHandler (some (.Name x p1)) none (s0 :: ss) p2 :: hs) (⟨x, none, h⟩ :: l) ((.ref C, none, tsOf X.K X.mg Wx none h) :: m)
  | as {x n : Str} {i : Nat} {C : Addr} {h : Exc → SSem} {s0 : Stmt} {ss : List Stmt} {p1 p2 : Pos} {hs : List ExceptHandler} {l : List HndS} {m : List Hnd} (hg : Gl X x) (hd : (x == ("__debug__" : Str)) = false) (hm : X.mg x = some (.ref C)) (hi : X.N[i]? = some n) (hl : X.env.kindOf n = some .local) (hk : i ∉ Wx.lock) (hu : SuV X Wx (some i) (s0 :: ss) h) (r : HV X Wx hs l m) :
      HV X Wx (.ExceptHandler (some (.Name x p1)) (some n) (s0 :: ss) p2 :: hs) (⟨x, some i, h⟩ :: l) ((.ref C, some i, tsOf X.K X.mg Wx (some i) h) :: m)
theorem HV.ok {hs : List ExceptHandler} {l : List HndS} {m : List Hnd} (v : HV X Wx hs l m) : HdsG X hs m := by
  induction v with
  | nil => exact .nil
  | one hg hd hm hu r ih => exact .one ⟨hg, hd, .inl hm⟩ hu.ok ih
  | as hg hd hm hi hl hk hu r ih => exact .as ⟨hg, hd, .inl hm⟩ hi hl hu.ok ih
/-- the table of classes says what is so -/
def ExTOk (K : PySem.W.Frag) (mg : Str → Option Value) (T : ExT) : Prop := ∀ c c' b, T c c' = some b → ∀ C C', mg c = some (.ref C) → mg c' = some (.ref C') → PySem.W.exmOne K (.ref C) (.ref C') = some b
theorem SI.clr {K : PySem.W.Frag} {mg : Str → Option Value} {μ : List Addr} {st : Sto} {hid : List Addr} {fr : Fr} {σ : L2.St} {H : Hp} {sl : Option Nat} {x : Exc} {a : Addr} {cls : Value} {d : Option Addr} (s : SI K mg (Wx.suite K mg sl x a cls d) μ st hid fr σ H) (hk : ∀ i, sl = some i → i ∉ Wx.lock) :
    SI K mg Wx μ st hid (clrF sl fr) (match sl with | none => σ | some i => σ.set i none) H := by
  cases sl with
  | none => exact ⟨s.sto, s.len, s.loc, s.ex.1⟩
  | some i =>
    refine ⟨s.sto, by simpa [clrF] using s.len, fun j w h => ?_, Wx.slot _ _ _ _ (fun j hj => List.getElem?_set_ne fun (z : i = j) => hk i rfl (z ▸ hj)) s.ex.1⟩
    have h' : (fr.set i none)[j]? = some (some w) := h
    by_cases e : i = j
    · subst e
      by_cases q : i < fr.length
      · rw [List.getElem?_set_self q] at h'; cases h'
      · rw [List.getElem?_eq_none (by simpa using q)] at h'; cases h'
    · rw [List.getElem?_set_ne e] at h'
      obtain ⟨v, e1, e2⟩ := s.loc j w h'
      exact ⟨v, by show (σ.set i none)[j]? = _; rw [List.getElem?_set_ne e]; exact e1, e2⟩
theorem hRun_at {T : ExT} (hT : ExTOk X.K X.mg T) {D : Ends} : ∀ {hs : List ExceptHandler} {l : List HndS} {m : List Hnd}, HV X Wx hs l m → ∀ {hid μ : List Addr} {st : Sto} {fr : Fr} {σ : L2.St} {H : Hp} {x : Exc} {cls : Value} {d : Option Addr}, SI X.K X.mg Wx μ st hid fr σ H → XRep X.K X.mg (Fz μ st hid H) μ x cls d →
    SPost X.K X.mg Wx hid μ st H D (hRun T x l fr st) → wGen X.K Wx.w D m cls d σ H := by
  intro hs l m v
  -- one clause: its suite at the cleared frame
  have key : ∀ {sl : Option Nat} {h : Exc → SSem} {hid μ : List Addr} {st : Sto} {fr : Fr} {σ : L2.St} {H : Hp} {x : Exc} {cls : Value} {d : Option Addr}, (∀ i, sl = some i → i ∉ Wx.lock ∧ i < fr.length) → SI X.K X.mg Wx μ st hid fr σ H → XRep X.K X.mg (Fz μ st hid H) μ x cls d →
      SPost X.K X.mg Wx hid μ st H D ((h x (clrF sl fr) st).clr sl) → ∀ a, tsOf X.K X.mg Wx sl h a cls d (clr sl D) (stoE sl σ a) H := by
    intro sl h hid μ st fr σ H x cls d hk S xr P a
    refine ⟨x, μ, st, hid, clrF sl fr, ?_, ?_⟩
    · cases sl with
      | none => exact ⟨S.sto, S.len, S.loc, S.ex, xr, fun i z => nomatch z⟩
      | some i =>
        obtain ⟨hk1, hk2⟩ := hk i rfl
        refine ⟨S.sto, by simpa [clrF, stoE] using S.len, fun j w h' => ?_, Wx.slot _ _ _ _ (fun j hj => List.getElem?_set_ne fun (z : i = j) => hk1 (z ▸ hj)) S.ex, xr, fun j z => ?_⟩
        · have h'' : (fr.set i none)[j]? = some (some w) := h'
          by_cases e : i = j
          · subst e
            rw [List.getElem?_set_self hk2] at h''; cases h''
          · rw [List.getElem?_set_ne e] at h''
            obtain ⟨v, e1, e2⟩ := S.loc j w h''
            exact ⟨v, by show (σ.set i _)[j]? = _; rw [List.getElem?_set_ne e]; exact e1, e2⟩
        · cases z
          exact List.getElem?_set_self (by rw [← S.len]; exact hk2)
    · have hkl : ∀ i, sl = some i → i ∉ Wx.lock := fun i z => (hk i z).1
      have nxt : ∀ {μ' : List Addr} {st' : Sto} {fr' : Fr} {σ' : L2.St} {H' : Hp} {R : L2.St → Hp → Prop}, SI X.K X.mg (Wx.suite X.K X.mg sl x a cls d) μ' st' hid fr' σ' H' → (∀ σ2, SI X.K X.mg Wx μ' st' hid (clrF sl fr') σ2 H' → R σ2 H') →
          (match sl with | none => R σ' H' | some i => R (σ'.set i none) H') := fun {μ' st' fr' σ' H' R} s q => by
        have s2 := s.clr hkl
        cases sl with
        | none => exact q _ s2
        | some i => exact q _ s2
      cases e : h x (clrF sl fr) st with
      | bad => rw [e] at P; exact P
      | er z f s => rw [e] at P; exact P.elim
      | rt w s =>
        rw [e] at P
        have P' : ∀ μ' H' v, StOk X.K X.mg μ' s hid H' → Grow hid μ st H μ' s H' → Rep X.K X.mg (Fz μ' s hid H') μ' w v → D.rt v H' := P
        intro μ' H' v k g r
        cases sl with
        | none => exact P' μ' H' v k g r
        | some i => exact P' μ' H' v k g r
      | nx f s =>
        rw [e] at P
        have P' : ∀ μ' σ' H', SI X.K X.mg Wx μ' s hid (clrF sl f) σ' H' → Grow hid μ st H μ' s H' → D.nx σ' H' := P
        intro μ' σ' H' S' g
        have q := nxt (R := D.nx) S' fun σ2 s2 => P' μ' σ2 H' s2 g
        cases sl with
        | none => exact q
        | some i => exact q
      | bk f s =>
        rw [e] at P
        have P' : ∀ μ' σ' H', SI X.K X.mg Wx μ' s hid (clrF sl f) σ' H' → Grow hid μ st H μ' s H' → D.bk σ' H' := P
        intro μ' σ' H' S' g
        have q := nxt (R := D.bk) S' fun σ2 s2 => P' μ' σ2 H' s2 g
        cases sl with
        | none => exact q
        | some i => exact q
      | ct f s =>
        rw [e] at P
        have P' : ∀ μ' σ' H', SI X.K X.mg Wx μ' s hid (clrF sl f) σ' H' → Grow hid μ st H μ' s H' → D.ct σ' H' := P
        intro μ' σ' H' S' g
        have q := nxt (R := D.ct) S' fun σ2 s2 => P' μ' σ2 H' s2 g
        cases sl with
        | none => exact q
        | some i => exact q
  induction v with
  | nil =>
    intro hid μ st fr σ H x cls d S xr P
    exact P μ σ H cls d S .refl xr
  | @one n C h s0 ss p1 p2 hs l m hg hd hm hu r ih =>
    intro hid μ st fr σ H x cls d S xr P
    obtain ⟨C', h1, rfl, h3⟩ := id xr
    rw [hRun] at P
    simp only at P
    split at P
    · rename_i e
      split at P
      · exact ⟨true, hT _ _ _ e _ _ h1 hm, fun _ a na => key (sl := none) (fun i z => nomatch z) S xr P a, fun z => (nomatch z)⟩
      · exact P.elim
    · rename_i e
      exact ⟨false, hT _ _ _ e _ _ h1 hm, fun z => (nomatch z), fun _ => ih S xr P⟩
    · exact P.elim
  | @as n nn i C h s0 ss p1 p2 hs l m hg hd hm hi hl hk hu r ih =>
    intro hid μ st fr σ H x cls d S xr P
    obtain ⟨C', h1, rfl, h3⟩ := id xr
    rw [hRun] at P
    simp only at P
    split at P
    · rename_i e
      split at P
      · rename_i hs
        refine ⟨true, hT _ _ _ e _ _ h1 hm, fun _ a na => key (sl := some i) (fun j z => ?_) S xr P a, fun z => (nomatch z)⟩
        cases z
        exact ⟨hk, of_decide_eq_true hs⟩
      · exact P.elim
    · rename_i e
      exact ⟨false, hT _ _ _ e _ _ h1 hm, fun z => (nomatch z), fun _ => ih S xr P⟩
    · exact P.elim
theorem sv_try {k : Nat} {T : ExT} {body : List Stmt} {g0 : ExceptHandler} {gs : List ExceptHandler} {b : SSem} {l : List HndS} {m : List Hnd} {pos : Pos} (C : Ctx X Wx k) (hT : ExTOk X.K X.mg T) (hst : X.stack = X.env :: X.outer) (hfm : X.env.frame = some X.env.locals)
    (hb : ∀ (W : WX) (pl : List (Addr × Obj)) (xe : Value → Shared → Prop), Ctx (X.tr pl xe) (Wx.tr W) k → BV (X.tr pl xe) (Wx.tr W) body b) (hh : HV X Wx (g0 :: gs) l m) : SV X Wx (.Try body (g0 :: gs) [] [] pos) (sTry T b l) :=
  PSm (ps_tryG (tb := fun W => tS X.K X.mg (Wx.tr W) b) C.nd hst hfm C.tk (fun W pl xe tk hp => hb W pl xe ⟨C.calm, C.nd, C.room, tk, hp⟩) hh.ok) fun D σ H ⟨μ, st, hid, fr, S, P⟩ => by
    refine ⟨μ, st, hid, fr, S.tr _, ?_⟩
    unfold sTry at P
    cases e : b fr st with
    | bad => rw [e] at P; exact P
    | rt w s => rw [e] at P; exact P
    | nx f s => rw [e] at P; exact fun μ' σ' H' S' g => P μ' σ' H' S'.ofTr g
    | bk f s => rw [e] at P; exact fun μ' σ' H' S' g => P μ' σ' H' S'.ofTr g
    | ct f s => rw [e] at P; exact fun μ' σ' H' S' g => P μ' σ' H' S'.ofTr g
    | er x f s =>
      rw [e] at P
      intro μ' σ' H' c d S' g xr
      exact hRun_at hT hh S'.ofTr xr (SPost.from g P)
/-! ## a field of a caught error -/
def lkp : List Str → List W → Str → Option W
  | n :: ns, w :: ws, f => if f == n then some w else lkp ns ws f
  | _, _, _ => none
theorem lkp_at {K : PySem.W.Frag} {mg : Str → Option Value} {F : Hp} {μ : List Addr} {f : Str} {w : W} : ∀ {ns : List Str} {ws : List W} {vs : List V}, lkp ns ws f = some w → Reps K mg F μ ws vs → ∃ v, (ns.zip vs).lookup f = some v ∧ Rep K mg F μ w v
  | [], _, _, h, _ => by unfold lkp at h; cases h
  | _ :: _, [], _, h, _ => by unfold lkp at h; cases h
  | n :: ns, u :: ws, vs, h, r => by
    unfold lkp at h
    obtain ⟨v, t, rfl, h1, h2⟩ := r.cons_inv
    rw [List.zip_cons_cons, List.lookup_cons]
    cases e : f == n with
    | true => rw [e] at h; cases h; exact ⟨v, rfl, h1⟩
    | false => rw [e] at h; exact lkp_at h h2
def eXf (x : Exc) (c n : Str) : Sem := fun _ st => if x.c = c then (match lkp x.ns x.vs n with
  | some w => .ok w st
  | none => .bad) else .bad
theorem ev_xf {a : Addr} {oe : Obj} {cls : Value} {d : Option Addr} {pn : List (Addr × Obj)} {C : Addr} {x : Exc} {c nm n : Str} {i : Nat} {p pos : Pos} (T : XfC X.K C) (hm : X.mg c = some (.ref C)) (hno : PySem.W.findIn X.K (.ref C) n = some none) (hz : Zc cls d oe) (hf : ∃ vs, oe.data = .fields vs)
    (hN : X.N[i]? = some nm) (hv : Vis X.env.scope nm) (hd : (nm == ("__debug__" : Str)) = false := by decide) (hcd : (nm == ("__classdict__" : Str)) = false := by decide) (hb : attributeBase (.Name nm p) n X.env (eval (.Name nm p) X.env) = eval (.Name nm p) X.env := by rfl) :
    EV (X.suite a ((a, oe) :: pn)) (Wx.suite X.K X.mg (some i) x a cls d) (.Attribute (.Name nm p) n pos) (eXf x c n) :=
  PEm (pe_xf T hno hz hf (pe_var (X := X.suite a ((a, oe) :: pn)) (i := i) hN hv hd hcd) hb) fun σ H Q ⟨μ, st, hid, fr, S, P⟩ => by
    obtain ⟨_, ⟨C', h1, h2, h3⟩, h4⟩ := S.ex
    refine ⟨.ref a, h4 i rfl, rfl, ?_⟩
    unfold eXf at P
    split at P
    · rename_i e
      have h1' : X.mg c = some (.ref C') := by rw [← e]; exact h1
      rw [hm] at h1'
      cases h1'
      refine ⟨h2, ?_⟩
      split at P
      · rename_i w ew
        rcases h3 with h3 | ⟨dx, vs, h3, h4, h5, h6⟩
        · rw [h3] at ew
          cases ew
        · obtain ⟨v, h7, h8⟩ := lkp_at ew h6
          exact ⟨dx, _, v, h3, (Fz.sub h5).1, h7, P μ H v S.sto .refl h8⟩
      · exact P.elim
    · exact P.elim
end
end SL

namespace SL
open PySem PySem.Spec PyProof.Rows L2

/-! ## a def's end: its own cells are let go -/
mutual
def fz0 (n : Nat) (f : Nat → Option W) : W → Option W
  | .tup ws => (fz0s n f ws).map .tup
  | .lst ws => (fz0s n f ws).map .lst
  | .ro ws => (fz0s n f ws).map .ro
  | .tpn ws => (fz0s n f ws).map .tpn
  | .dct ks ws => (fz0s n f ws).map (.dct ks)
  | .ins c ns ws => (fz0s n f ws).map (.ins c ns)
  | .cell k => if k < n then some (.cell k) else f k
  | .non => some .non
  | .bl b => some (.bl b)
  | .int i => some (.int i)
  | .str x => some (.str x)
  | .ty x => some (.ty x)
  | .cls x => some (.cls x)
def fz0s (n : Nat) (f : Nat → Option W) : List W → Option (List W)
  | [] => some []
  | w :: r => match fz0 n f w, fz0s n f r with
    | some a, some b => some (a :: b)
    | _, _ => none
end
def fzc (n : Nat) (st : Sto) : Nat → Nat → Option W
  | 0, _ => none
  | m + 1, k => match st[k]? with
    | some (.lst ws) => (fz0s n (fzc n st m) ws).map .lst
    | some (.dct ks ws) => (fz0s n (fzc n st m) ws).map (.dct ks)
    | some (.ins c ns ws) => (fz0s n (fzc n st m) ws).map (.ins c ns)
    | some (.frz w) => fz0 n (fzc n st m) w
    | none => none
/-- the old cells know no new ones -/
def oldW (n : Nat) (c : Cel) : Bool := match c with
  | .lst ws => (fz0s n (fun _ => none) ws).isSome
  | .dct _ ws => (fz0s n (fun _ => none) ws).isSome
  | .ins _ _ ws => (fz0s n (fun _ => none) ws).isSome
  | .frz w => (fz0 n (fun _ => none) w).isSome
def leave (n : Nat) (w : W) (st : Sto) : Out W := if st.length = n then .ok w st else match fz0 n (fzc n st (st.length + 1)) w with
  | some u => if (st.take n).all (oldW n) = true then .ok u (st.take n) else .bad
  | none => .bad
def leaveX (n : Nat) (x : Exc) (st : Sto) : Out W := if st.length = n then .err x st else match fz0s n (fzc n st (st.length + 1)) x.vs with
  | some us => if (st.take n).all (oldW n) = true then .err ⟨x.c, x.ns, us⟩ (st.take n) else .bad
  | none => .bad
/-- .. but the one cell that it hands back, which goes on to live -/
def leaveC (n : Nat) (w : W) (st : Sto) : Out W := match w with
  | .cell j => if n ≤ j then (match st[j]? with
    | some c => if c.live = true ∧ oldW n c = true ∧ (st.take n).all (oldW n) = true then .ok (.cell n) (st.take n ++ [c]) else .bad
    | none => .bad) else .bad
  | _ => .bad
def mkFnG (lv : Nat → W → Sto → Out W) (m : Nat) (b : SSem) : Fn := fun ws st => match b (ws.map some ++ List.replicate (m - ws.length) none) st with
  | .nx _ st1 => leave st.length .non st1
  | .rt w st1 => lv st.length w st1
  | .er x _ st1 => leaveX st.length x st1
  | _ => .bad
def mkFn (m : Nat) (b : SSem) : Fn := mkFnG leave m b
def mkFnC (m : Nat) (b : SSem) : Fn := mkFnG leaveC m b
/-- .. or all goes on to live -/
def leaveA (n : Nat) (w : W) (st : Sto) : Out W := .ok w st
def mkFnA (m : Nat) (b : SSem) : Fn := mkFnG leaveA m b
section
variable {K : PySem.W.Frag} {mg : Str → Option Value} {F F' : Hp} {μ μ' : List Addr} {n : Nat} {f : Nat → Option W}
mutual
theorem fz0_at (l : Le F F') (hc : ∀ k, k < n → ∀ v, Rep K mg F μ (.cell k) v → Rep K mg F' μ' (.cell k) v) (hf : ∀ k, n ≤ k → ∀ u v, f k = some u → Rep K mg F μ (.cell k) v → Rep K mg F' μ' u v) : ∀ (w u : W) (v : V), fz0 n f w = some u → Rep K mg F μ w v → Rep K mg F' μ' u v
  | .non, u, v, h, r => by unfold fz0 at h; cases h; cases rep_non_inv r; exact rep_non
  | .bl b, u, v, h, r => by unfold fz0 at h; cases h; cases rep_bl_inv r; exact rep_bl
  | .int b, u, v, h, r => by unfold fz0 at h; cases h; cases rep_int_inv r; exact rep_int
  | .str b, u, v, h, r => by unfold fz0 at h; cases h; cases rep_str_inv r; exact rep_str
  | .ty b, u, v, h, r => by unfold fz0 at h; cases h; unfold Rep at r ⊢; exact r
  | .cls b, u, v, h, r => by unfold fz0 at h; cases h; unfold Rep at r ⊢; exact r
  | .tup ws, u, v, h, r => by
    unfold fz0 at h
    cases e : fz0s n f ws with
    | none => rw [e] at h; cases h
    | some us =>
      rw [e] at h; cases h
      unfold Rep at r ⊢
      obtain ⟨a, vs, rfl, h1, h2⟩ := r
      exact ⟨a, vs, rfl, h1.le l, fz0s_at l hc hf ws us vs e h2⟩
  | .lst ws, u, v, h, r => by
    unfold fz0 at h
    cases e : fz0s n f ws with
    | none => rw [e] at h; cases h
    | some us =>
      rw [e] at h; cases h
      unfold Rep at r ⊢
      obtain ⟨a, vs, rfl, h1, h2⟩ := r
      exact ⟨a, vs, rfl, l.lst h1, fz0s_at l hc hf ws us vs e h2⟩
  | .tpn ws, u, v, h, r => by
    unfold fz0 at h
    cases e : fz0s n f ws with
    | none => rw [e] at h; cases h
    | some us =>
      rw [e] at h; cases h
      unfold Rep at r ⊢
      obtain ⟨a, vs, rfl, h1, h2⟩ := r
      exact ⟨a, vs, rfl, h1.le l, fz0s_at l hc hf ws us vs e h2⟩
  | .ro ws, u, v, h, r => by
    unfold fz0 at h
    cases e : fz0s n f ws with
    | none => rw [e] at h; cases h
    | some us =>
      rw [e] at h; cases h
      unfold Rep at r ⊢
      obtain ⟨a, vs, rfl, h1, h2⟩ := r
      exact ⟨a, vs, rfl, SqL.le l h1, fz0s_at l hc hf ws us vs e h2⟩
  | .dct ks ws, u, v, h, r => by
    unfold fz0 at h
    cases e : fz0s n f ws with
    | none => rw [e] at h; cases h
    | some us =>
      rw [e] at h; cases h
      unfold Rep at r ⊢
      obtain ⟨a, vs, rfl, h1, h2⟩ := r
      exact ⟨a, vs, rfl, h1.le l, fz0s_at l hc hf ws us vs e h2⟩
  | .ins c ns ws, u, v, h, r => by
    unfold fz0 at h
    cases e : fz0s n f ws with
    | none => rw [e] at h; cases h
    | some us =>
      rw [e] at h; cases h
      unfold Rep at r ⊢
      obtain ⟨a, C, dx, vs, rfl, g, ll, h1, h2⟩ := r
      exact ⟨a, C, dx, vs, rfl, g, ll, l.ins h1, fz0s_at l hc hf ws us vs e h2⟩
  | .cell k, u, v, h, r => by
    unfold fz0 at h
    split at h
    · rename_i hk
      cases h
      exact hc k hk v r
    · rename_i hk
      exact hf k (Nat.le_of_not_lt hk) u v h r
theorem fz0s_at (l : Le F F') (hc : ∀ k, k < n → ∀ v, Rep K mg F μ (.cell k) v → Rep K mg F' μ' (.cell k) v) (hf : ∀ k, n ≤ k → ∀ u v, f k = some u → Rep K mg F μ (.cell k) v → Rep K mg F' μ' u v) : ∀ (ws us : List W) (vs : List V), fz0s n f ws = some us → Reps K mg F μ ws vs → Reps K mg F' μ' us vs
  | [], us, vs, h, r => by
    unfold fz0s at h; cases h
    rw [Reps.nil_iff] at r; subst r; exact .nil
  | w :: ws, us, vs, h, r => by
    unfold fz0s at h
    obtain ⟨v, t, rfl, h1, h2⟩ := r.cons_inv
    cases e1 : fz0 n f w with
    | none => rw [e1] at h; cases h
    | some a =>
      cases e2 : fz0s n f ws with
      | none => rw [e1, e2] at h; cases h
      | some b =>
        rw [e1, e2] at h; cases h
        exact .cons (fz0_at l hc hf w a v e1 h1) (fz0s_at l hc hf ws b t e2 h2)
end
end
mutual
/-- with nothing for new cells a value stays what it is -/
theorem fz0_id {n : Nat} : ∀ (w u : W), fz0 n (fun _ => none) w = some u → u = w
  | .non, u, h => by unfold fz0 at h; cases h; rfl
  | .bl b, u, h => by unfold fz0 at h; cases h; rfl
  | .int b, u, h => by unfold fz0 at h; cases h; rfl
  | .str b, u, h => by unfold fz0 at h; cases h; rfl
  | .ty b, u, h => by unfold fz0 at h; cases h; rfl
  | .cls b, u, h => by unfold fz0 at h; cases h; rfl
  | .tup ws, u, h => by
    unfold fz0 at h
    cases e : fz0s n (fun _ => none) ws with
    | none => rw [e] at h; cases h
    | some us => rw [e] at h; cases h; rw [fz0s_id ws us e]
  | .lst ws, u, h => by
    unfold fz0 at h
    cases e : fz0s n (fun _ => none) ws with
    | none => rw [e] at h; cases h
    | some us => rw [e] at h; cases h; rw [fz0s_id ws us e]
  | .tpn ws, u, h => by
    unfold fz0 at h
    cases e : fz0s n (fun _ => none) ws with
    | none => rw [e] at h; cases h
    | some us => rw [e] at h; cases h; rw [fz0s_id ws us e]
  | .ro ws, u, h => by
    unfold fz0 at h
    cases e : fz0s n (fun _ => none) ws with
    | none => rw [e] at h; cases h
    | some us => rw [e] at h; cases h; rw [fz0s_id ws us e]
  | .dct ks ws, u, h => by
    unfold fz0 at h
    cases e : fz0s n (fun _ => none) ws with
    | none => rw [e] at h; cases h
    | some us => rw [e] at h; cases h; rw [fz0s_id ws us e]
  | .ins c ns ws, u, h => by
    unfold fz0 at h
    cases e : fz0s n (fun _ => none) ws with
    | none => rw [e] at h; cases h
    | some us => rw [e] at h; cases h; rw [fz0s_id ws us e]
  | .cell k, u, h => by
    unfold fz0 at h
    split at h
    · cases h; rfl
    · cases h
theorem fz0s_id {n : Nat} : ∀ (ws us : List W), fz0s n (fun _ => none) ws = some us → us = ws
  | [], us, h => by unfold fz0s at h; cases h; rfl
  | w :: ws, us, h => by
    unfold fz0s at h
    cases e1 : fz0 n (fun _ => none) w with
    | none => rw [e1] at h; cases h
    | some a =>
      cases e2 : fz0s n (fun _ => none) ws with
      | none => rw [e1, e2] at h; cases h
      | some b => rw [e1, e2] at h; cases h; rw [fz0_id w a e1, fz0s_id ws b e2]
end
section
variable {K : PySem.W.Frag} {mg : Str → Option Value} {μ : List Addr} {st : Sto} {hid : List Addr} {H : Hp} {n : Nat}
theorem take_get {α : Type} {l : List α} {n k : Nat} {a : α} (h : (l.take n)[k]? = some a) : k < n ∧ l[k]? = some a := by
  rw [List.getElem?_take] at h
  split at h
  · exact ⟨by assumption, h⟩
  · cases h
theorem live_take {a : Addr} (h : LiveA (μ.take n) (st.take n) hid a) : LiveA μ st hid a := by
  rcases h with h | ⟨k, c, h1, h2, h3⟩
  · exact .inl h
  · exact .inr ⟨k, c, (take_get h1).2, (take_get h2).2, h3⟩
theorem fz_take (μ : List Addr) (st : Sto) (hid : List Addr) (H : Hp) (n : Nat) : Le (Fz μ st hid H) (Fz (μ.take n) (st.take n) hid H) := Le.of fun a o h => by
  obtain ⟨h1, h2⟩ := Fz.sub h
  exact Fz.mk h1 fun z => h2 (live_take z)
theorem cell_take {F F' : Hp} : ∀ k, k < n → ∀ v, Rep K mg F μ (.cell k) v → Rep K mg F' (μ.take n) (.cell k) v := fun k hk v r => by
  unfold Rep at r ⊢
  obtain ⟨a, h1, h2⟩ := r
  exact ⟨a, by rw [List.getElem?_take, if_pos hk]; exact h1, h2⟩
/-- the cells from n on are let go -/
theorem StOk.take (k : StOk K mg μ st hid H) (hn : n ≤ st.length) (ho : (st.take n).all (oldW n) = true) : StOk K mg (μ.take n) (st.take n) hid H := by
  refine ⟨by rw [List.length_take, List.length_take, k.len], fun i j a c d h1 h2 h3 h4 h5 h6 => k.inj i j a c d (take_get h1).2 (take_get h2).2 (take_get h3).2 (take_get h4).2 h5 h6, fun i a c h1 h2 h3 => k.hidn i a c (take_get h1).2 (take_get h2).2 h3, k.hidt, fun i a c h1 h2 => ?_⟩
  have q := k.ok i a c (take_get h1).2 (take_get h2).2
  have l := fz_take μ st hid H n
  have old : oldW n c = true := List.all_eq_true.mp ho c (List.mem_of_getElem? h2)
  have go : ∀ {ws : List W} {vs : List V}, (fz0s n (fun _ => none) ws).isSome = true → Reps K mg (Fz μ st hid H) μ ws vs → Reps K mg (Fz (μ.take n) (st.take n) hid H) (μ.take n) ws vs := fun {ws vs} hs r => by
    cases e : fz0s n (fun _ => none) ws with
    | none => rw [e] at hs; cases hs
    | some us =>
      have z := fz0s_id ws us e
      subst z
      exact fz0s_at l cell_take (fun _ _ _ _ z => by cases z) _ _ _ e r
  cases c with
  | lst ws => obtain ⟨vs, e, r⟩ := q; exact ⟨vs, e, go old r⟩
  | dct ks ws => obtain ⟨vs, e, r⟩ := q; exact ⟨vs, e, go old r⟩
  | ins c ns ws => obtain ⟨C, dx, vs, g, l', e, r⟩ := q; exact ⟨C, dx, vs, g, l', e, go old r⟩
  | frz w =>
    have old' : (fz0 n (fun _ => none) w).isSome = true := old
    cases e : fz0 n (fun _ => none) w with
    | none => rw [e] at old'; cases old'
    | some u =>
      have z := fz0_id w u e
      subst z
      exact fz0_at l cell_take (fun _ _ _ _ z => by cases z) _ _ _ e q
theorem fzc_at (k : StOk K mg μ st hid H) : ∀ (m j : Nat) (u : W) (v : V), n ≤ j → fzc n st m j = some u → Rep K mg (Fz μ st hid H) μ (.cell j) v → Rep K mg (Fz (μ.take n) (st.take n) hid H) (μ.take n) u v := by
  have l := fz_take μ st hid H n
  intro m
  induction m with
  | zero => intro j u v hj h r; cases h
  | succ m ih =>
    intro j u v hj h r
    obtain ⟨a, e1, rfl⟩ := rep_cell_inv r
    have seen : ∀ {c : Cel} {o : HO}, st[j]? = some c → c.live = true → H a = some o → Fz (μ.take n) (st.take n) hid H a = some o := fun {c o} e2 lc e3 => Fz.mk e3 fun z => by
      rcases z with z | ⟨i, d, h1, h2, h3⟩
      · exact k.hidn j a c e1 e2 lc z
      · have q := k.inj i j a d c (take_get h1).2 e1 (take_get h2).2 e2 h3 lc
        have := (take_get h1).1
        omega
    have go : ∀ {ws us : List W} {vs : List V}, fz0s n (fzc n st m) ws = some us → Reps K mg (Fz μ st hid H) μ ws vs → Reps K mg (Fz (μ.take n) (st.take n) hid H) (μ.take n) us vs := fun e r => fz0s_at l cell_take (fun i hi u v e r => ih i u v hi e r) _ _ _ e r
    unfold fzc at h
    split at h
    · rename_i ws e2
      cases e : fz0s n (fzc n st m) ws with
      | none => rw [e] at h; cases h
      | some us =>
        rw [e] at h; cases h
        obtain ⟨vs, h1, h2⟩ := k.ok j a _ e1 e2
        unfold Rep
        exact ⟨a, vs, rfl, seen e2 rfl h1, go e h2⟩
    · rename_i ks ws e2
      cases e : fz0s n (fzc n st m) ws with
      | none => rw [e] at h; cases h
      | some us =>
        rw [e] at h; cases h
        obtain ⟨vs, h1, h2⟩ := k.ok j a _ e1 e2
        obtain ⟨o, h3⟩ := h1.some
        unfold Rep
        exact ⟨a, vs, rfl, h1.at ((seen e2 rfl h3).trans h3.symm), go e h2⟩
    · rename_i c ns ws e2
      cases e : fz0s n (fzc n st m) ws with
      | none => rw [e] at h; cases h
      | some us =>
        rw [e] at h; cases h
        obtain ⟨C, dx, vs, g, ll, h1, h2⟩ := k.ok j a _ e1 e2
        unfold Rep
        exact ⟨a, C, dx, vs, rfl, g, ll, seen e2 rfl h1, go e h2⟩
    · rename_i w e2
      have q := k.ok j a _ e1 e2
      exact fz0_at l cell_take (fun i hi u v e r => ih i u v hi e r) w u _ h q
    · cases h
theorem leave_at {Wx : WX} {μ0 : List Addr} {st0 : Sto} {H0 : Hp} {σ : L2.St} {Q : VK} {w : W} {v : V} (hn : μ0.length = n) (g : Grow hid μ0 st0 H0 μ st H) (k : StOk K mg μ st hid H) (r : Rep K mg (Fz μ st hid H) μ w v) (P : EPost K mg Wx hid μ0 st0 σ H0 Q (leave n w st)) : Q v H := by
  unfold leave at P
  split at P
  · exact P μ H v k g r
  · split at P
    · rename_i u e
      split at P
      · rename_i ho
        obtain ⟨e2, he⟩ := id g.pre
        have hle : n ≤ st.length := by rw [← k.len, he, List.length_append, hn]; omega
        have ht : μ.take n = μ0 := by rw [he, ← hn]; simp
        have l := fz_take μ st hid H n
        refine P (μ.take n) H v (k.take hle ho) ⟨by rw [ht]; exact .refl _, g.le.trans l, g.hid, g.lck⟩ (fz0_at l cell_take (fun i hi u v e r => fzc_at k _ i u v hi e r) w u v e r)
      · exact P.elim
    · exact P.elim
theorem leaveX_at {Wx : WX} {μ0 : List Addr} {st0 : Sto} {H0 : Hp} {σ : L2.St} {Q : VK} {x : Exc} {c : Value} {d : Option Addr} (hn : μ0.length = n) (g : Grow hid μ0 st0 H0 μ st H) (k : StOk K mg μ st hid H) (r : XRep K mg (Fz μ st hid H) μ x c d) (P : EPost K mg Wx hid μ0 st0 σ H0 Q (leaveX n x st)) : Wx c d σ H := by
  unfold leaveX at P
  split at P
  · exact P μ H c d k g r
  · split at P
    · rename_i us e
      split at P
      · rename_i ho
        obtain ⟨e2, he⟩ := id g.pre
        have hle : n ≤ st.length := by rw [← k.len, he, List.length_append, hn]; omega
        have ht : μ.take n = μ0 := by rw [he, ← hn]; simp
        have l := fz_take μ st hid H n
        refine P (μ.take n) H c d (k.take hle ho) ⟨by rw [ht]; exact .refl _, g.le.trans l, g.hid, g.lck⟩ ?_
        obtain ⟨C, h1, h2, h3⟩ := r
        refine ⟨C, h1, h2, ?_⟩
        rcases h3 with h3 | ⟨dx, vs, h3, h4, h5, h6⟩
        · exact .inl h3
        · exact .inr ⟨dx, vs, h3, h4, l.xd h5, fz0s_at l cell_take (fun i hi u v e r => fzc_at k _ i u v hi e r) _ _ _ e h6⟩
      · exact P.elim
    · exact P.elim
end

/-- a way to leave is sound -/
def LvOk (K : PySem.W.Frag) (mg : Str → Option Value) (lv : Nat → W → Sto → Out W) : Prop := ∀ (n : Nat) (hid μ0 μ : List Addr) (st0 st : Sto) (H0 H : Hp) (Wx : WX) (σ : L2.St) (Q : VK) (w : W) (v : V), μ0.length = n → Grow hid μ0 st0 H0 μ st H → StOk K mg μ st hid H → Rep K mg (Fz μ st hid H) μ w v → EPost K mg Wx hid μ0 st0 σ H0 Q (lv n w st) → Q v H
theorem lv_leave {K : PySem.W.Frag} {mg : Str → Option Value} : LvOk K mg leave := fun n hid μ0 μ st0 st H0 H Wx σ Q w v hn g k r P => leave_at hn g k r P
theorem lv_leaveA {K : PySem.W.Frag} {mg : Str → Option Value} : LvOk K mg leaveA := fun n hid μ0 μ st0 st H0 H Wx σ Q w v hn g k r P => P μ H v k g r
theorem lv_leaveC {K : PySem.W.Frag} {mg : Str → Option Value} : LvOk K mg leaveC := fun n hid μ0 μ st0 st H0 H Wx σ Q w v hn g k r P => by
  unfold leaveC at P
  split at P
  · rename_i j
    split at P
    · rename_i hj
      split at P
      · rename_i c e
        split at P
        · rename_i hc
          obtain ⟨lc, oc, ho⟩ := hc
          obtain ⟨e2, he⟩ := id g.pre
          have hle : n ≤ st.length := by rw [← k.len, he, List.length_append, hn]; omega
          have ht : μ.take n = μ0 := by rw [he, ← hn]; simp
          obtain ⟨a, e1, rfl⟩ := rep_cell_inv r
          have k1 := k.take hle ho
          have l := fz_take μ st hid H n
          have na : ¬ LiveA (μ.take n) (st.take n) hid a := fun z => by
            rcases z with z | ⟨i, d, h1, h2, h3⟩
            · exact k.hidn j a c e1 e lc z
            · have q := k.inj i j a d c (take_get h1).2 e1 (take_get h2).2 e h3 lc
              have := (take_get h1).1
              omega
          have lt : (μ.take n).length = n := by rw [ht]; exact hn
          have ls : (st.take n).length = n := by rw [List.length_take]; omega
          have spl : ∀ {m : Nat} {b : Addr} {d : Cel}, (μ.take n ++ [a])[m]? = some b → (st.take n ++ [c])[m]? = some d → (m < n ∧ μ[m]? = some b ∧ st[m]? = some d ∧ (μ.take n)[m]? = some b ∧ (st.take n)[m]? = some d) ∨ (m = n ∧ b = a ∧ d = c) := fun {m b d} h1 h2 => by
            by_cases z : m < n
            · rw [List.getElem?_append_left (by omega)] at h1 h2
              exact .inl ⟨z, (take_get h1).2, (take_get h2).2, h1, h2⟩
            · by_cases y : m = n
              · subst y
                rw [List.getElem?_append_right (by omega), lt] at h1
                rw [List.getElem?_append_right (by omega), ls] at h2
                simp at h1 h2
                exact .inr ⟨rfl, h1.symm, h2.symm⟩
              · rw [List.getElem?_append_right (by omega), ls, List.getElem?_eq_none (by simp; omega)] at h2
                cases h2
          have lv : ∀ b, LiveA (μ.take n ++ [a]) (st.take n ++ [c]) hid b → b = a ∨ LiveA (μ.take n) (st.take n) hid b := fun b z => by
            rcases z with z | ⟨i, d, h1, h2, h3⟩
            · exact .inr (.inl z)
            · rcases spl h1 h2 with ⟨y1, y2, y3, y4, y5⟩ | ⟨y1, y2, y3⟩
              · exact .inr (.inr ⟨i, d, y4, y5, h3⟩)
              · exact .inl y2
          have lf : ∀ b o, b ≠ a → Fz (μ.take n) (st.take n) hid H b = some o → Fz (μ.take n ++ [a]) (st.take n ++ [c]) hid H b = some o := fun b o hb q => by
            obtain ⟨q1, q2⟩ := Fz.sub q
            exact Fz.mk q1 fun z => (lv b z).elim hb q2
          -- from the whole state: a was live there, so nothing read leans on it
          have lw : Le (Fz μ st hid H) (Fz (μ.take n ++ [a]) (st.take n ++ [c]) hid H) := Le.of fun b o q => by
            obtain ⟨q1, q2⟩ := Fz.sub q
            exact Fz.mk q1 fun z => (lv b z).elim (fun y => q2 (y ▸ .inr ⟨j, c, e1, e, lc⟩)) fun y => q2 (live_take y)
          have cw : ∀ {F : Hp} (i : Nat), i < n → ∀ v, Rep K mg (Fz μ st hid H) μ (.cell i) v → Rep K mg F (μ.take n ++ [a]) (.cell i) v := fun i hi v r => by
            unfold Rep at r ⊢
            obtain ⟨b, h1, h2⟩ := r
            exact ⟨b, by rw [List.getElem?_append_left (by omega), List.getElem?_take, if_pos hi]; exact h1, h2⟩
          have go : ∀ {ws : List W} {vs : List V}, (fz0s n (fun _ => none) ws).isSome = true → Reps K mg (Fz μ st hid H) μ ws vs → Reps K mg (Fz (μ.take n ++ [a]) (st.take n ++ [c]) hid H) (μ.take n ++ [a]) ws vs := fun {ws vs} hs r => by
            cases q : fz0s n (fun _ => none) ws with
            | none => rw [q] at hs; cases hs
            | some us =>
              have z := fz0s_id ws us q
              subst z
              exact fz0s_at lw cw (fun _ _ _ _ z => by cases z) _ _ _ q r
          have cel : ∀ {m : Nat} {b : Addr} {d : Cel}, μ[m]? = some b → st[m]? = some d → oldW n d = true → CelOk K mg (Fz (μ.take n ++ [a]) (st.take n ++ [c]) hid H) (μ.take n ++ [a]) H b d := fun {m b d} h1 h2 old => by
            have q := k.ok m b d h1 h2
            cases d with
            | lst ws => obtain ⟨vs, e, r⟩ := q; exact ⟨vs, e, go old r⟩
            | dct ks ws => obtain ⟨vs, e, r⟩ := q; exact ⟨vs, e, go old r⟩
            | ins c ns ws => obtain ⟨C, dx, vs, g, l', e, r⟩ := q; exact ⟨C, dx, vs, g, l', e, go old r⟩
            | frz w =>
              have old' : (fz0 n (fun _ => none) w).isSome = true := old
              cases y : fz0 n (fun _ => none) w with
              | none => rw [y] at old'; cases old'
              | some u =>
                have z := fz0_id w u y
                subst z
                exact fz0_at lw cw (fun _ _ _ _ z => by cases z) _ _ _ y q
          have oldT : ∀ {m : Nat} {d : Cel}, (st.take n)[m]? = some d → oldW n d = true := fun h => List.all_eq_true.mp ho _ (List.mem_of_getElem? h)
          refine P (μ.take n ++ [a]) H _ ⟨by simp [lt, ls], fun i i2 b d d2 h1 h2 h3 h4 h5 h6 => ?_, fun i b d h1 h2 h3 => ?_, k.hidt, fun i b d h1 h2 => ?_⟩ ⟨by rw [ht]; exact ⟨[a], rfl⟩, g.le.trans lw, g.hid, g.lck⟩ ?_
          · rcases spl h1 h3 with ⟨y1, y2, y3, _, _⟩ | ⟨y1, y2, y3⟩ <;> rcases spl h2 h4 with ⟨z1, z2, z3, _, _⟩ | ⟨z1, z2, z3⟩
            · exact k.inj i i2 b d d2 y2 z2 y3 z3 h5 h6
            · subst z2 z3
              have := k.inj i j b d d2 y2 e1 y3 e h5 h6
              omega
            · subst y2 y3
              have := k.inj i2 j b d2 d z2 e1 z3 e h6 h5
              omega
            · omega
          · rcases spl h1 h2 with ⟨y1, y2, y3, _, _⟩ | ⟨y1, y2, y3⟩
            · exact k.hidn i b d y2 y3 h3
            · subst y2 y3; exact k.hidn j b d e1 e h3
          · rcases spl h1 h2 with ⟨y1, y2, y3, y4, y5⟩ | ⟨y1, y2, y3⟩
            · exact cel y2 y3 (oldT y5)
            · subst y2 y3; exact cel e1 e oc
          · unfold Rep
            exact ⟨a, by rw [List.getElem?_append_right (by omega), lt]; simp, rfl⟩
        · exact P.elim
      · exact P.elim
    · exact P.elim
  · exact P.elim

/-! ## a def keeps what its body says -/
theorem start_get {N : List Str} {vs : List V} {i : Nat} {v : V} (h : vs[i]? = some v) : (L2.start N vs)[i]? = some (some v) := by
  have hi : i < vs.length := by
    rcases Nat.lt_or_ge i vs.length with q | q
    · exact q
    · rw [List.getElem?_eq_none q] at h; cases h
  unfold L2.start
  rw [List.getElem?_append_left (by simpa using hi), List.getElem?_map, h]; rfl
theorem fn_okG {lv : Nat → W → Sto → Out W} {P : Program} {w : World} {K : PySem.W.Frag} {mg : Str → Option Value} {base : Heap} {x qual : Str} {st : Stmt} {f : Addr} {fd : FuncData} {N ps : List Str} {k m n : Nat} {b : SSem} (hlv : LvOk K mg lv) (F : Fun K x qual st f fd) (S : FnScope N ps (defScope st)) (hm : N.length = m := by rfl) (hn : ps.length = n := by rfl)
    (hb : ∀ (cdv : Value) (A : Around) (outer : List Env) (s : Shared) (H : Hp) (E : XK), Ctx (cxOf (L2.CX P w) P w K mg base N qual (defScope st) f cdv A outer s H E) (Wish.of fun c d _ H => E c d H) k → BV (cxOf (L2.CX P w) P w K mg base N qual (defScope st) f cdv A outer s H E) (Wish.of fun c d _ H => E c d H) (defBody st) b) :
    FnOk P w K mg base (L2.CX P w) (k + 1) f fd ps (spF K mg n (mkFnG lv m b)) := by
  refine F.okX S (fun vs H Q E h => ?_) (fun cdv A outer s H vs Q E hr h => ?_)
  · obtain ⟨_, _, _, _, h, _⟩ := h
    rw [h, hn]
  · refine ⟨_, hb cdv A outer s H E ⟨rfl, S.nd, hr, takes_of rfl rfl rfl rfl, passes_of (K := fun e s'' => L2.CX P w outer H s E e s'') rfl⟩, ?_⟩
    obtain ⟨hid, μ, st0, ws, hl, k0, r, P0⟩ := h
    have wl : ws.length = vs.length := r.length
    refine ⟨μ, st0, hid, ws.map some ++ List.replicate (m - ws.length) none, ⟨k0, ?_, fun i u hi => ?_, trivial⟩, ?_⟩
    · unfold L2.start
      simp only [List.length_append, List.length_map, List.length_replicate, wl, hm]
    · by_cases hlt : i < ws.length
      · rw [List.getElem?_append_left (by simpa using hlt), List.getElem?_map] at hi
        cases e : ws[i]? with
        | none => rw [e] at hi; cases hi
        | some u' =>
          rw [e] at hi
          cases hi
          obtain ⟨v, e1, e2⟩ := r.get e
          exact ⟨v, start_get e1, e2⟩
      · rw [List.getElem?_append_right (by simpa using hlt), List.getElem?_replicate] at hi
        split at hi <;> cases hi
    · unfold mkFnG at P0
      cases e : b (ws.map some ++ List.replicate (m - ws.length) none) st0 with
      | bad => rw [e] at P0; exact P0
      | bk f s => rw [e] at P0; exact P0.elim
      | ct f s => rw [e] at P0; exact P0.elim
      | nx f s =>
        rw [e] at P0
        exact fun μ' σ' H' S' g => leave_at k0.len g S'.sto rep_non P0
      | rt u s =>
        rw [e] at P0
        exact fun μ' H' v k' g r' => hlv _ _ _ _ _ _ _ _ _ _ _ _ _ k0.len g k' r' P0
      | er x f s =>
        rw [e] at P0
        exact fun μ' σ' H' c d S' g xr => leaveX_at k0.len g S'.sto xr P0
end SL

namespace SL
open PySem PySem.Spec PyProof.Rows L2

/-! ## a def of the text, by its name -/
structure FnIs (P : Program) (w : World) (K : PySem.W.Frag) (mg : Str → Option Value) (base : Heap) (x : Str) (k n : Nat) (F : Fn) : Prop where
  ex : ∃ (g : Addr) (fd : FuncData) (ps : List Str), FnOk P w K mg base (L2.CX P w) k g fd ps (spF K mg n F) ∧ mg x = some (.ref g) ∧ PySem.W.keepIn K (.ref g) = true ∧ Binds K fd ps []
section
variable {X : Cx} {Wx : Wish}
theorem ev_callI {k j n : Nat} {x : Str} {F : Fn} {e : Expr} {es : List Expr} {f : SemL} {p pos : Pos} (I : FnIs X.prog X.w X.K X.mg X.base x k n F) (C : Ctx X Wx j) (hk : k ≤ j) (ha : AV X Wx (e :: es) f) (ar : ArN n f) (hg : Gl X x := by rfl) (hdb : (x == ("__debug__" : Str)) = false := by decide)
    (he : starEach (e :: es) X.env = (false, eval e X.env) :: starEach es X.env := by rfl) (hpl : (backTo pos (starEach es X.env)).any (·.1) = false := by rfl) : EV X Wx (.Call (.Name x p) (e :: es) [] pos) (eCall F f) := by
  obtain ⟨g, fd, ps, h1, h2, h3, h4⟩ := I.ex
  exact ev_call h1 (C.room.mono hk) h2 h3 h4 C.tk ha ar hg hdb he hpl
theorem ev_call0 {k j : Nat} {x : Str} {F : Fn} {p pos : Pos} (I : FnIs X.prog X.w X.K X.mg X.base x k 0 F) (C : Ctx X Wx j) (hk : k ≤ j) (hg : Gl X x := by rfl) (hdb : (x == ("__debug__" : Str)) = false := by decide) : EV X Wx (.Call (.Name x p) [] [] pos) (eCall F aNil) := by
  obtain ⟨g, fd, ps, h1, h2, h3, h4⟩ := I.ex
  refine ⟨fun pins s σ H Q J hq => ?_⟩
  refine wpAny_Call_Name_kw (ld_glob J hg h2 ?_ hdb)
  exact PySem.W.callWith_K0 J.kIn h3 (run_fnS (us := []) (E := WE Wx.w) h1 (C.room.mono hk) h4 (passAt C.tk σ) J .nil (eCall_read (f := aNil) arN_nil σ H Q hq |> fun z => by
    obtain ⟨μ, st, hid, fr, S, P⟩ := z
    exact P μ H [] S.sto .refl .nil))
/-- a method of a built-in type -/
theorem ev_m {T id : String} {name : Str} {ty : Sto → W → Bool} {op : OpM} {r : V → List V → Hp → VK → Prop} {o e : Expr} {es : List Expr} {f : Sem} {g : SemL} {apos cpos : Pos} (pa : PlainAttrs T) (slot : Slot T name id) (hty : typeOf (.builtin id) = pure (.type "method_descriptor"))
    (ht : ∀ (hid μ : List Addr) (st : Sto) (H : Hp) (w : W) (v : V), StOk X.K X.mg μ st hid H → Rep X.K X.mg (Fz μ st hid H) μ w v → ty st w = true → tyV X.K T v H) (hm : MtR X id r) (hs : OpMS X op r) (ho : EV X Wx o f) (ha : AV X Wx (e :: es) g)
    (hbase : attributeBase o name X.env (eval o X.env) = eval o X.env := by rfl) (hline : (apos.endLine == cpos.line) = true := by rfl) (he : starEach (e :: es) X.env = (false, eval e X.env) :: starEach es X.env := by rfl) (hpl : (backTo cpos (starEach es X.env)).any (·.1) = false := by rfl)
    (hfew : ((backTo cpos (starEach (e :: es) X.env)).all (fun x => !x.1) && (backToKw cpos (keywordEach [] X.env)).all (fun x => x.1.isSome) && decide ((e :: es).length + ([] : List Keyword).length + (if ([] : List Keyword).isEmpty then 0 else 1) < 30)) = true := by rfl) :
    EV X Wx (.Call (.Attribute o name apos) (e :: es) [] cpos) (eM ty op f g) := PEm (pe_bm pa slot hty hm ho ha (hbase := hbase) (hline := hline) (hs := he) (hplain := hpl) (hfew := hfew)) (eM_read ht hs)
/-- {} -/
theorem ev_dict0 {pos : Pos} : EV X Wx (.Dict [] [] pos) (eC (.dct [] [])) := PEm pe_dnewK fun σ H Q ⟨μ, st, hid, fr, S, P⟩ => by
  intro d hd
  refine ok_new (o := .dK []) P S.sto hd fun F l e => ?_
  unfold Rep
  exact ⟨d, [], rfl, ⟨false, .inl [], rfl, rfl, .inl e, fun _ kk z => nomatch z⟩, .nil⟩
theorem lkS {K : PySem.W.Frag} {mg : Str → Option Value} {i j : Nat} {x : Exc} {a : Addr} {cls : Value} {d : Option Addr} (h : i ≠ j) (h2 : i ∉ Wx.lock) : i ∉ (Wx.suite K mg (some j) x a cls d).lock := fun z => by
  rcases List.mem_append.mp z with z | z
  · exact h (List.mem_singleton.mp z)
  · exact h2 z
theorem lkN {K : PySem.W.Frag} {mg : Str → Option Value} {i : Nat} {x : Exc} {a : Addr} {cls : Value} {d : Option Addr} (h2 : i ∉ Wx.lock) : i ∉ (Wx.suite K mg none x a cls d).lock := h2
end
/-- the body's own context -/
theorem fn_is {lv : Nat → W → Sto → Out W} {P : Program} {w : World} {K : PySem.W.Frag} {mg : Str → Option Value} {base : Heap} {x qual : Str} {st : Stmt} {f : Addr} {fd : FuncData} {N ps : List Str} {k m n : Nat} {b : SSem} (hlv : LvOk K mg lv) (F : Fun K x qual st f fd) (hx : mg x = some (.ref f)) (hB : Binds K fd ps []) (S : FnScope N ps (defScope st))
    (hb : ∀ (cdv : Value) (A : Around) (outer : List Env) (s : Shared) (H : Hp) (E : XK), Ctx (cxOf (L2.CX P w) P w K mg base N qual (defScope st) f cdv A outer s H E) (Wish.of fun c d _ H => E c d H) k → BV (cxOf (L2.CX P w) P w K mg base N qual (defScope st) f cdv A outer s H E) (Wish.of fun c d _ H => E c d H) (defBody st) b)
    (hm : N.length = m := by rfl) (hn : ps.length = n := by rfl) : FnIs P w K mg base x (k + 1) n (mkFnG lv m b) :=
  ⟨f, fd, ps, fn_okG hlv F S hm hn hb, hx, F.kp, hB⟩
end SL

namespace SL
open PySem PySem.Spec PyProof.Rows L2
section
variable {X : Cx} {Wx : Wish}
theorem ev_blk {k : Nat} {s : Shared} {H : Hp} {scope : Scope} {cenv : Env} {fp : List Addr} {elt : Expr} {e : Sem} (C : Ctx X Wx k) (h : Ctx (X.blk s H scope cenv fp) Wx.blk k → EV (X.blk s H scope cenv fp) Wx.blk elt e) : EV (X.blk s H scope cenv fp) Wx.blk elt e := h (C.blk ..)
theorem pt_blk {k : Nat} {s : Shared} {H : Hp} {scope : Scope} {cenv : Env} {fp : List Addr} {ifs : List Expr} {t : TT} (C : Ctx X Wx k) (h : Ctx (X.blk s H scope cenv fp) Wx.blk k → PTs (X.blk s H scope cenv fp) ifs t) : PTs (X.blk s H scope cenv fp) ifs t := h (C.blk ..)
theorem bv_bad {ss : List Stmt} : BV X Wx ss (fun _ _ => .bad) := ⟨fun pins s σ H D I h => by
  obtain ⟨μ, st, hid, fr, S, P⟩ := h
  exact False.elim P⟩
theorem ev_gI {x : Str} {i : Int} {pos : Pos} (hm : ∃ t, X.mg x = some (.int i t)) (hg : Gl X x := by rfl) (hd : (x == ("__debug__" : Str)) = false := by decide) : EV X Wx (.Name x pos) (eC (.int i)) := by
  obtain ⟨t, h⟩ := hm
  exact ev_globI h hg hd
theorem ev_gS {x : Str} {i : Str} {pos : Pos} (hm : ∃ t, X.mg x = some (.str i t)) (hg : Gl X x := by rfl) (hd : (x == ("__debug__" : Str)) = false := by decide) : EV X Wx (.Name x pos) (eC (.str i)) := by
  obtain ⟨t, h⟩ := hm
  exact ev_globS h hg hd
end
theorem cx_no {P : Program} (w : World) (H : Hp) (s : Shared) (e : Value) (s' : Shared) (z : L2.CX P w [] H s (fun _ _ _ => False) e s') : False := by
  obtain ⟨_, _, _, _, _, _, _, _, _, _, _, _, z⟩ := z
  exact z
theorem ro_reps {K : PySem.W.Frag} {mg : Str → Option Value} {F : Hp} {μ : List Addr} : ∀ ns : List Int, Reps K mg F μ (ns.map W.int) (ns.map V.int)
  | [] => .nil
  | n :: r => .cons rep_int (ro_reps r)
theorem fz_nil {H : Hp} : Fz [] [] [] H = H := by
  funext a
  unfold Fz
  rw [if_neg]
  rintro (h | ⟨k, c, h, _⟩)
  · cases h
  · cases h
theorem spF_of {K : PySem.W.Frag} {mg : Str → Option Value} {F : Fn} {a : Addr} {ns : List Int} {H : Hp} {Q : VK} {E : XK} {st : Sto} (hS : SqL K H a (ns.map V.int)) (e : F [.ro (ns.map W.int)] [] = .ok (.bl true) st) (hq : ∀ H', Q (.bl true) H') : spF K mg 1 F [.ref a] H Q E := by
  refine ⟨[], [], [], [.ro (ns.map W.int)], rfl, ⟨rfl, fun i j a c d h => (nomatch h), fun i a c h => (nomatch h), fun a h => (nomatch h), fun i a c h => (nomatch h)⟩, .cons ?_ .nil, ?_⟩
  · unfold Rep
    exact ⟨a, _, rfl, by rw [fz_nil]; exact hS, ro_reps ns⟩
  · rw [e]
    intro μ' H' v k g r
    cases rep_bl_inv r
    exact hq H'
end SL

namespace SL
open PySem PySem.Spec PyProof.Rows L2
/-! ## instances of own classes -/
def insW (st : Sto) : W → Option (Str × List Str × List W)
  | .ins c ns ws => some (c, ns, ws)
  | .cell k => match st[k]? with
    | some (.ins c ns ws) => some (c, ns, ws)
    | some (.frz (.ins c ns ws)) => some (c, ns, ws)
    | _ => none
  | _ => none
theorem rep_ins_inv {K : PySem.W.Frag} {mg : Str → Option Value} {F : Hp} {μ : List Addr} {c : Str} {ns : List Str} {ws : List W} {v : V} (h : Rep K mg F μ (.ins c ns ws) v) : ∃ a C dx vs, v = .ref a ∧ mg c = some (.ref C) ∧ ns.length = vs.length ∧ F a = some (.ins C dx (ns.zip vs)) ∧ Reps K mg F μ ws vs := by
  unfold Rep at h; exact h
theorem insW_at {K : PySem.W.Frag} {mg : Str → Option Value} {μ : List Addr} {st : Sto} {hid : List Addr} {H : Hp} (s : StOk K mg μ st hid H) {w : W} {c : Str} {ns : List Str} {ws : List W} {v : V} (h : insW st w = some (c, ns, ws)) (r : Rep K mg (Fz μ st hid H) μ w v) :
    ∃ a C dx vs, v = .ref a ∧ mg c = some (.ref C) ∧ ns.length = vs.length ∧ H a = some (.ins C dx (ns.zip vs)) ∧ Reps K mg (Fz μ st hid H) μ ws vs := by
  cases w with
  | ins c' ns' ws' =>
    unfold insW at h; cases h
    obtain ⟨a, C, dx, vs, h1, h2, h3, h4, h5⟩ := rep_ins_inv r
    exact ⟨a, C, dx, vs, h1, h2, h3, (Fz.sub h4).1, h5⟩
  | cell k =>
    unfold insW at h
    simp only at h
    split at h
    · rename_i c' ns' ws' e
      cases h
      obtain ⟨a, e1, e2, C, dx, vs, h1, h2, h3, h4⟩ := s.cell e r
      exact ⟨a, C, dx, vs, e1, h1, h2, h3, h4⟩
    · rename_i c' ns' ws' e
      cases h
      obtain ⟨a, e1, e2, h1⟩ := s.cell e r
      obtain ⟨b, C, dx, vs, e3, h1, h2, h3, h4⟩ := rep_ins_inv h1
      cases e3
      exact ⟨a, C, dx, vs, e1, h1, h2, (Fz.sub h3).1, h4⟩
    · cases h
  | _ => cases h
def FldOk (K : PySem.W.Frag) (mg : Str → Option Value) (cs : List Str) (f : Str) : Prop := ∀ c ∈ cs, ∀ C, mg c = some (.ref C) → Cls K C ∧ NoAttr K C f
theorem fldNil {K : PySem.W.Frag} {mg : Str → Option Value} {f : Str} : FldOk K mg [] f := fun c h => (nomatch h)
theorem fldCons {K : PySem.W.Frag} {mg : Str → Option Value} {c f : Str} {cs : List Str} {C : Addr} (hm : mg c = some (.ref C)) (h : Cls K C) (n : PySem.W.findIn K (.ref C) f = some none) (t : FldOk K mg cs f) : FldOk K mg (c :: cs) f := fun d hd D hD => by
  rcases List.mem_cons.mp hd with rfl | hd
  · rw [hm] at hD; cases hD; exact ⟨h, n⟩
  · exact t d hd D hD
/-- e.n -/
def eFld (cs : List Str) (n : Str) (f : Sem) : Sem := fun fr st => (f fr st).bind fun w st1 => match insW st1 w with
  | some (c, ns, ws) => if cs.contains c = true then (match lkp ns ws n with
    | some u => .ok u st1
    | none => .bad) else .bad
  | none => .bad
def putNs (n : Str) : List Str → List Str
  | [] => [n]
  | m :: r => if m = n then m :: r else m :: putNs n r
def putL {α : Type} (n : Str) (a : α) : List Str → List α → List α
  | [], _ => [a]
  | m :: r, u :: us => if m = n then a :: us else u :: putL n a r us
  | _ :: _, [] => [a]
theorem put_zip {n : Str} {v : V} : ∀ {ns : List Str} {vs : List V}, ns.length = vs.length → putF n v (ns.zip vs) = (putNs n ns).zip (putL n v ns vs) ∧ (putNs n ns).length = (putL n v ns vs).length
  | [], [], _ => ⟨rfl, rfl⟩
  | m :: ns, [], h => by simp at h
  | [], v :: vs, h => by simp at h
  | m :: ns, u :: vs, h => by
    obtain ⟨h1, h2⟩ := put_zip (n := n) (v := v) (ns := ns) (vs := vs) (by simpa using h)
    have hl : ns.length = vs.length := by simpa using h
    unfold putNs putL
    rw [List.zip_cons_cons, putF]
    by_cases e : m = n
    · rw [if_pos e, if_pos e, if_pos e]
      exact ⟨rfl, by simpa using h⟩
    · rw [if_neg e, if_neg e, if_neg e, h1]
      exact ⟨rfl, by simpa using h2⟩
theorem put_reps {K : PySem.W.Frag} {mg : Str → Option Value} {F : Hp} {μ : List Addr} {n : Str} {w : W} {v : V} (rw_ : Rep K mg F μ w v) : ∀ {ns : List Str} {ws : List W} {vs : List V}, Reps K mg F μ ws vs → ns.length = vs.length → Reps K mg F μ (putL n w ns ws) (putL n v ns vs)
  | [], ws, vs, r, h => by
    cases vs with
    | nil => cases ws <;> exact .cons rw_ .nil
    | cons => simp at h
  | m :: ns, [], vs, r, h => by rw [Reps.nil_iff] at r; subst r; simp at h
  | m :: ns, u :: ws, vs, r, h => by
    obtain ⟨x, t, rfl, h1, h2⟩ := r.cons_inv
    unfold putL
    by_cases e : m = n
    · rw [if_pos e, if_pos e]; exact .cons rw_ h2
    · rw [if_neg e, if_neg e]; exact .cons h1 (put_reps rw_ h2 (by simpa using h))
/-- o.n = e, o under construction -/
def sFldS (cs : List Str) (n : Str) (e o : Sem) : SSem := fun fr st => (e fr st).stm fr fun w st1 => (o fr st1).stm fr fun x st2 => match x with
  | .cell k => match st2[k]? with
    | some (.ins c ns ws) => if cs.contains c = true ∧ ns.length < 1000 then .nx fr (st2.set k (.ins c (putNs n ns) (putL n w ns ws))) else .bad
    | _ => .bad
  | _ => .bad
section
variable {X : Cx} {Wx : Wish}
theorem ev_fld {cs : List Str} {n : Str} {e : Expr} {f : Sem} {pos : Pos} (T : FldOk X.K X.mg cs n) (he : EV X Wx e f) (hb : attributeBase e n X.env (eval e X.env) = eval e X.env := by rfl) : EV X Wx (.Attribute e n pos) (eFld cs n f) := PEm (pe_fld he hb) fun σ H Q ⟨μ, st, hid, fr, S, P⟩ => by
  refine ⟨μ, st, hid, fr, S, ?_⟩
  unfold eFld at P
  cases h : f fr st with
  | bad => rw [h] at P; exact P
  | err x s => rw [h] at P; exact P
  | ok w st1 =>
    rw [h, Out.bind_ok] at P
    intro μ1 H1 v k1 g1 r1
    have P1 := EPost.from g1 P
    split at P1
    · rename_i c ns ws e
      split at P1
      · rename_i hc
        obtain ⟨a, C, dx, vs, rfl, hm, hl, ha, rr⟩ := insW_at k1 e r1
        obtain ⟨cl, no⟩ := T c (by simpa using hc) C hm
        split at P1
        · rename_i u eu
          obtain ⟨y, ey, ry⟩ := lkp_at eu rr
          exact ⟨a, C, dx, _, y, rfl, ha, cl, no, ey, P1 μ1 H1 y k1 .refl ry⟩
        · exact P1.elim
      · exact P1.elim
    · exact P1.elim
theorem sv_fld {cs : List Str} {n : Str} {o e : Expr} {fo fe : Sem} {pos pos' : Pos} (T : FldOk X.K X.mg cs n) (he : EV X Wx e fe) (ho : EV X Wx o fo) (hs : swapsWith e (some (.Attribute o n pos')) pos.line X.env = pure false := by rfl) :
    SV X Wx (.Assign [.Attribute o n pos'] e pos) (sFldS cs n fe fo) := PSm (ps_fld ho he hs) fun D σ H ⟨μ, st, hid, fr, S, P⟩ => by
  refine stm_read (t := id) S P fun w st1 μ1 H1 v S1 g1 r1 P1 => ?_
  refine stm_read (t := id) S1 P1 fun x st2 μ2 H2 ov S2 g2 r2 P2 => ?_
  split at P2
  · rename_i k
    split at P2
    · rename_i c ns ws ek
      split at P2
      · rename_i hc
        obtain ⟨a, rfl, h1, C, dx, vs, hm, hl, ha, rr⟩ := S2.sto.cell ek r2
        obtain ⟨cl, no⟩ := T c (by simpa using hc.1) C hm
        obtain ⟨z1, z2⟩ := put_zip (n := n) (v := v) hl
        refine ⟨a, C, dx, _, rfl, ha, cl, no, by rw [List.length_zip, ← hl, Nat.min_self]; exact hc.2, ?_⟩
        obtain ⟨k2, g3⟩ := S2.sto.setCell (c' := .ins c (putNs n ns) (putL n w ns ws)) (o := .ins C dx (putF n v (ns.zip vs))) h1 ek rfl rfl ⟨C, dx, putL n v ns vs, hm, z2, by rw [upd_same, z1], put_reps (Rep.mono g2.le g2.pre _ _ r1) rr hl⟩
        exact P2 μ2 σ _ (S2.next k2 g3) g3
      · exact P2.elim
    · exact P2.elim
  · exact P2.elim
end
/-! ## making -/
structure MkIs (P : Program) (w : World) (K : PySem.W.Frag) (mg : Str → Option Value) (base : Heap) (c : Str) (k n : Nat) (F : Fn) : Prop where
  ex : ∃ (C g : Addr) (fd : FuncData) (ps : List Str), Mk K C g ∧ FnOk P w K mg base (L2.CX P w) k g fd ps (spF K mg (n + 1) F) ∧ mg c = some (.ref C) ∧ Binds K fd ps []
def eMakeG (lv : Nat → W → Sto → Out W) (c : Str) (F : Fn) (f : SemL) : Sem := fun fr st => (f fr st).bind fun ws st1 => match F (.cell st1.length :: ws) (st1 ++ [.ins c [] []]) with
  | .ok .non st2 => lv st1.length (.cell st1.length) st2
  | .err x st2 => leaveX st1.length x st2
  | _ => .bad
abbrev eMake (c : Str) (F : Fn) (f : SemL) : Sem := eMakeG leave c F f
/-- the wish at one state -/
def tMakeS (C : Addr) (sp : Sp) (E : L2.St → XK) (t : TA) : TE := fun σ H Q => t σ H fun us H1 => ∀ x dx, H1 x = none → H1 dx = none → dx ≠ x → sp (V.ref x :: us) (upd (upd H1 dx (.own x)) x (.ins C dx [])) (fun v H2 => v = .non ∧ Q (.ref x) H2) (E σ)
section
variable {X : Cx} {Wx : Wish}
theorem make_run {k : Nat} {C g : Addr} {fd : FuncData} {ps : List Str} {sp : Sp} {E : XK} {pins : List (Addr × Obj)} {σ : L2.St} {H : Hp} {s : Shared} {Q : VK} {us : List Value} {vs : List V} (M : Mk X.K C g) (G : FnOk X.prog X.w X.K X.mg X.base (L2.CX X.prog X.w) k g fd ps sp) (hr : Room (k + 1) X.A) (B : Binds X.K fd ps [])
    (hx : PassesAt (L2.CX X.prog X.w) X σ E) (J : Inv X pins σ H s) (r : Vals vs us) (hq : ∀ x dx, H x = none → H dx = none → dx ≠ x → sp (V.ref x :: vs) (upd (upd H dx (.own x)) x (.ins C dx [])) (fun v H2 => v = .non ∧ Q (.ref x) H2) E) :
    wpAny (model X.prog X.w) X.A (call (.ref C) us) (EP X pins σ Q) X.xe s := by
  have q1 := hq (s.heap.objs.size + 1) s.heap.objs.size (J.hok.fresh (Nat.le_succ _)) (J.hok.fresh (Nat.le_refl _)) (Nat.ne_of_lt (Nat.lt_succ_self _))
  have J2 := Inv.made (C := C) J
  have rr : Vals (V.ref (s.heap.objs.size + 1) :: vs) (Value.ref (s.heap.objs.size + 1) :: us) := .cons rfl r
  have ll : (Value.ref (s.heap.objs.size + 1) :: us).length = ps.length := by
    have z := rr.length
    rw [G.len _ _ _ _ q1] at z
    exact z.symm
  have bb := B { s with heap := (s.heap.push PySem.W.emptyDict).push (PySem.W.instObj C s.heap.objs.size) } (Value.ref (s.heap.objs.size + 1) :: us) J2.kIn (by rw [List.append_nil]; exact ll)
  rw [List.append_nil] at bb
  refine wpAny_call (make_map (f := g) J.kIn M.makes M.init (beq_iff_eq.mp M.fn) (codeAny_mono (G.run _ X.stack _ _ ⟨Value.ref (s.heap.objs.size + 1) :: us, []⟩ (Value.ref (s.heap.objs.size + 1) :: us) _ _ E (hr.make C us [])
    (J2.env0.make C us []) bb rr q1) fun o s' z => ?_))
  cases o with
  | error e => exact hx pins _ _ e s' J2 z
  | ok fl =>
    cases fl with
    | ret u =>
      obtain ⟨v, H', J3, rv, ev, q3⟩ := J2.after z
      subst ev
      exact ⟨rv, ⟨V.ref (s.heap.objs.size + 1), H', J3, rfl, q3⟩⟩
    | next => exact False.elim z
    | brk => exact False.elim z
    | cont => exact False.elim z
theorem pe_makeS {k : Nat} {C g : Addr} {fd : FuncData} {ps : List Str} {sp : Sp} {E : L2.St → XK} {t : TA} {c : Str} {e : Expr} {es : List Expr} {p pos : Pos} (M : Mk X.K C g) (G : FnOk X.prog X.w X.K X.mg X.base (L2.CX X.prog X.w) k g fd ps sp) (hr : Room (k + 1) X.A) (B : Binds X.K fd ps []) (hm : X.mg c = some (.ref C)) (hx : ∀ σ, PassesAt (L2.CX X.prog X.w) X σ (E σ)) (ha : PA X (e :: es) t) (hg : Gl X c)
    (hdb : (c == ("__debug__" : Str)) = false) (he : starEach (e :: es) X.env = (false, eval e X.env) :: starEach es X.env) (hpl : (backTo pos (starEach es X.env)).any (·.1) = false) : PE X (.Call (.Name c p) (e :: es) [] pos) (tMakeS C sp E t) := ⟨fun pins s σ H Q J hq =>
  wpAny_Call_Name_kw (ld_glob J hg hm (PySem.W.callWith_K (h₀ := X.base) J.ok.mod.kin M.kp (thn (ha.run pos pins s σ H _ J hq) fun us s1 ⟨vs, H1, J1, r, q⟩ => ⟨J1.kIn, make_run M G hr B (hx σ) J1 r q⟩) he hpl) hdb)⟩
theorem make_read {lv : Nat → W → Sto → Out W} (hlv : LvOk X.K X.mg lv) {n : Nat} {c : Str} {C : Addr} {F : Fn} {f : SemL} (hm : X.mg c = some (.ref C)) (ar : ArN n f) : ∀ σ H Q, tE X.K X.mg Wx (eMakeG lv c F f) σ H Q → tMakeS C (spF X.K X.mg (n + 1) F) (WE Wx.w) (tA X.K X.mg Wx f) σ H Q := fun σ H Q ⟨μ, st, hid, fr, S, P⟩ => by
  refine ⟨μ, st, hid, fr, S, ?_⟩
  unfold eMakeG at P
  cases h : f fr st with
  | bad => rw [h] at P; exact P
  | err x s => rw [h] at P; exact P
  | ok ws st1 =>
    rw [h, Out.bind_ok] at P
    intro μ1 H1 vs k1 g1 r1 x dx nx nd ne
    have P1 := EPost.from g1 P
    obtain ⟨k2, g2, _⟩ := k1.laid (o := .own x) nd
    obtain ⟨k3, g3⟩ := k2.newCell (c := .ins c [] []) (p := x) (o := .ins C dx []) (by rw [upd_ne (Ne.symm ne)]; exact nx) rfl ⟨C, dx, [], hm, rfl, upd_same, .nil⟩
    have g4 := g2.trans g3
    refine ⟨hid, μ1 ++ [x], st1 ++ [.ins c [] []], .cell st1.length :: ws, by rw [List.length_cons, ← r1.length, ar _ _ _ _ h], k3, .cons ?_ (r1.mono g4.le g4.pre), ?_⟩
    · unfold Rep
      exact ⟨x, by rw [← k1.len]; simp, rfl⟩
    · cases e : F (.cell st1.length :: ws) (st1 ++ [.ins c [] []]) with
      | bad => rw [e] at P1; exact P1
      | err y st2 =>
        rw [e] at P1
        exact fun μ' H' c d k' g' xr => leaveX_at k1.len (g4.trans g') k' xr P1
      | ok u st2 =>
        rw [e] at P1
        intro μ' H' v k' g' rv
        cases u with
        | non =>
          refine ⟨rep_non_inv rv, ?_⟩
          refine hlv st1.length hid μ1 μ' st1 st2 H1 H' Wx.w σ Q (.cell st1.length) (.ref x) k1.len (g4.trans g') k' ?_ P1
          unfold Rep
          exact ⟨x, g'.pre.get (by rw [← k1.len]; simp), rfl⟩
        | _ => exact P1.elim
theorem ev_makeG {lv : Nat → W → Sto → Out W} (hlv : LvOk X.K X.mg lv) {k j n : Nat} {c : Str} {F : Fn} {f : SemL} {e : Expr} {es : List Expr} {p pos : Pos} (I : MkIs X.prog X.w X.K X.mg X.base c k n F) (C : Ctx X Wx j) (hk : k + 1 ≤ j) (ha : AV X Wx (e :: es) f) (ar : ArN n f) (hg : Gl X c := by rfl) (hdb : (c == ("__debug__" : Str)) = false := by decide)
    (he : starEach (e :: es) X.env = (false, eval e X.env) :: starEach es X.env := by rfl) (hpl : (backTo pos (starEach es X.env)).any (·.1) = false := by rfl) : EV X Wx (.Call (.Name c p) (e :: es) [] pos) (eMakeG lv c F f) := by
  obtain ⟨A, g, fd, ps, M, G, hm, B⟩ := I.ex
  exact PEm (pe_makeS M G (C.room.mono hk) B hm (fun σ => passAt C.tk σ) ha hg hdb he hpl) (make_read hlv hm ar)
end
end SL

namespace SL
open PySem PySem.Spec PyProof.Rows L2
/-! ## own classes: isinstance, == -/
structure ClsC (K : PySem.W.Frag) (C : Addr) : Prop where
  cl : Cls K C
  ha : PySem.W.findIn K (.ref C) "__class__" = some (some (.builtin "object.__class__"))
  hn : PySem.W.specialIn K (.builtin "object.__class__") "__get__" = some (some (.builtin "getset_descriptor.__get__"))
  htk : PySem.W.takesIn K (.builtin "object.__class__") = some true
  hm : PySem.W.mroIn K C (.type "object") = some true
  ic : PySem.W.isClsIn K C = true
  ty : PySem.W.typeIn K (.ref C) = some (.type "type")
def mroNo (t : String) : Bool := match fastBuiltinMro t with
  | some l => l.all fun v => match v with
    | .type _ => true
    | _ => false
  | none => false
theorem sub_no {K : PySem.W.Frag} {C : Addr} {t : String} (h : mroNo t = true) : PySem.W.subIn K (.type t) (.ref C) = some false := by
  show (fastBuiltinMro t).map (·.contains (.ref C)) = some false
  unfold mroNo at h
  cases e : fastBuiltinMro t with
  | none => rw [e] at h; cases h
  | some l =>
    rw [e] at h
    show some (l.contains (Value.ref C)) = some false
    congr 1
    have h' : (l.all fun v => match v with | .type _ => true | _ => false) = true := h
    clear e h
    induction l with
    | nil => rfl
    | cons a l ih =>
      rw [List.all_cons, Bool.and_eq_true] at h'
      rw [List.contains_cons, ih h'.2]
      cases a <;> first | rfl | (exact absurd h'.1 (by simp))
theorem kit_no {K : PySem.W.Frag} {C : Addr} (T : ClsC K C) {t : String} (ht : tyN t = true) : PySem.W.kitOne K (.type t) (.ref C) = some false := by
  have h : mroNo t = true := by
    simp only [tyN, Bool.or_eq_true, beq_iff_eq] at ht
    rcases ht with (((((rfl | rfl) | rfl) | rfl) | rfl) | rfl) | rfl <;> decide +kernel
  have e1 : ((PySem.W.clsIn K C).isSome && PySem.W.typeIn K (.ref C) == some (.type "type")) = true := by
    have z : (PySem.W.clsIn K C).isSome = true := T.ic
    rw [z, T.ty]; rfl
  show (if (Value.type t == Value.ref C) = true then some true else (if ((PySem.W.clsIn K C).isSome && PySem.W.typeIn K (.ref C) == some (.type "type")) = true then PySem.W.subIn K (.type t) (.ref C) else none)) = some false
  rw [if_pos e1, sub_no h]
  rfl
theorem kit_self {K : PySem.W.Frag} {C : Addr} : PySem.W.kitOne K (.ref C) (.ref C) = some true := by
  unfold PySem.W.kitOne
  rw [if_pos (by simp)]
/-- isinstance(x, c) -/
def oIsC (c : Str) : OpN := fun ws st => match ws with
  | [x, .cls d] => if d = c then (match insW st x with
    | some (e, _, _) => if e = c then .ok (.bl true) st else .bad
    | none => match tyW st x with
      | some t => if tyN t = true then .ok (.bl false) st else .bad
      | none => .bad) else .bad
  | _ => .bad
section
variable {X : Cx} {Wx : Wish}
theorem ev_cls {c : Str} {C : Addr} {pos : Pos} (hm : X.mg c = some (.ref C)) (hg : Gl X c := by rfl) (hd : (c == ("__debug__" : Str)) = false := by decide) : EV X Wx (.Name c pos) (eC (.cls c)) :=
  ev_c (v := .ref C) (pe_glob hg hm rfl hd) fun F μ => by unfold Rep; exact ⟨C, hm, rfl⟩
theorem os_isC {c : Str} {C : Addr} (hm : X.mg c = some (.ref C)) (T : ClsC X.K C) : OpNS X (oIsC c) (rIsi X.K) := by
  intro Wx hid μ st σ H Q ws vs k r P
  unfold oIsC at P
  split at P
  · rename_i x d
    obtain ⟨v, z, rfl, r1, r2⟩ := reps2 r
    split at P
    · rename_i hd
      subst hd
      obtain ⟨C', h1, rfl⟩ := rep_cls_inv r2
      rw [hm] at h1
      cases h1
      split at P
      · rename_i e n w hi
        split at P
        · rename_i he
          subst he
          obtain ⟨a, D, dx, us, rfl, g1, g2, g3, g4⟩ := insW_at k hi r1
          rw [hm] at g1
          cases g1
          exact ⟨.ref a, .ref C, .ref C, .ref C, true, rfl, .own C, .base (.ins g3 T.cl T.ha T.hn T.htk T.hm), kit_self, P μ H _ k .refl rep_bl⟩
        · exact P.elim
      · split at P
        · rename_i t ht
          split at P
          · rename_i hn
            exact ⟨v, .ref C, .type t, .ref C, false, rfl, .own C, tyW_at k ht r1, kit_no T hn, P μ H _ k .refl rep_bl⟩
          · exact P.elim
        · exact P.elim
    · exact P.elim
  · exact P.elim
/-! ### == by an own __eq__ -/
structure EqIs (P : Program) (w : World) (K : PySem.W.Frag) (mg : Str → Option Value) (base : Heap) (c : Str) (k : Nat) (F : Fn) : Prop where
  ex : ∃ (C g : Addr) (fd : FuncData) (ps : List Str), mg c = some (.ref C) ∧ FnOk P w K mg base (L2.CX P w) k g fd ps (spF K mg 2 F) ∧ PySem.W.findIn K (.ref C) "__eq__" = some (some (.ref g)) ∧ PySem.W.isFn K (.ref g) = true ∧ Binds K fd ps []
/-- both of the class c, or both data -/
def oEqO (c : Str) (F : Fn) : Op2 := fun x y st => match insW st x, insW st y with
  | some (d, _, _), some (e, _, _) => if d = c ∧ e = c then (match F [x, y] st with
    | .ok (.bl b) st1 => .ok (.bl b) st1
    | _ => .bad) else .bad
  | none, none => oEq x y st
  | _, _ => .bad
def rOwn (K : PySem.W.Frag) (mg : Str → Option Value) (C : Addr) (F : Fn) : R2 := fun x y H Q => ∃ a b dx dy fs gs, x = .ref a ∧ y = .ref b ∧ H a = some (.ins C dx fs) ∧ H b = some (.ins C dy gs) ∧ spF K mg 2 F [x, y] H (fun v H2 => (∃ t, v = .bl t) ∧ Q v H2) fun _ _ _ => False
theorem op_own {k : Nat} {C g : Addr} {fd : FuncData} {ps : List Str} {F : Fn} (G : FnOk X.prog X.w X.K X.mg X.base (L2.CX X.prog X.w) k g fd ps (spF X.K X.mg 2 F)) (he : PySem.W.findIn X.K (.ref C) "__eq__" = some (some (.ref g))) (hf : PySem.W.isFn X.K (.ref g) = true) (B : Binds X.K fd ps []) (hr : Room k X.A) :
    OpR X (compareOp .Eq) (rOwn X.K X.mg C F) := by
  intro pins s σ H x y v u Q J rx ry hq
  obtain ⟨a, b, dx, dy, fs, gs, rfl, rfl, h1, h2, q⟩ := hq
  cases rx
  cases ry
  show wpAny (model X.prog X.w) X.A (richCompare .Eq (.ref a) (.ref b)) (EP X pins σ Q) X.xe s
  obtain ⟨mA, i1, _⟩ := ins_get J.hok h1
  obtain ⟨mB, i2, _⟩ := ins_get J.hok h2
  obtain ⟨oa, i1, _⟩ := i1.look
  obtain ⟨ob, i2, _⟩ := i2.look
  obtain ⟨m, hF⟩ := J.fr
  refine PySem.W.cmp_K (op := .Eq) (tb := .ref C) hr.units0 hF J.ok.mod.kin i1 i2.type (by simp [PySem.W.notFirst]) he hf ?_
  have ll := G.len _ _ _ _ q
  have rr : Vals [V.ref a, V.ref b] [Value.ref a, Value.ref b] := .cons rfl (.cons rfl .nil)
  have bb := B s [.ref a, .ref b] J.kIn (by rw [List.append_nil]; exact ll)
  rw [List.append_nil] at bb
  refine wpAny_call (codeAny_mono (G.run X.A X.stack s H ⟨[.ref a, .ref b], []⟩ [.ref a, .ref b] [.ref a, .ref b] _ _ hr J.env0 bb rr q) fun o s' z => ?_)
  cases o with
  | error e =>
    obtain ⟨_, _, _, _, _, _, _, _, _, _, _, _, z⟩ := z
    exact z.elim
  | ok fl =>
    cases fl with
    | ret w =>
      obtain ⟨t, H', J', rz, ⟨b, ez⟩, ex⟩ := J.after z
      subst ez
      cases rz
      exact ⟨.bl b, H', J', rfl, ex⟩
    | next => exact False.elim z
    | brk => exact False.elim z
    | cont => exact False.elim z
def rEqAllO (K : PySem.W.Frag) (mg : Str → Option Value) (C : Addr) (F : Fn) (r : R2) : R2 := fun x y H Q => r x y H Q ∨ rOwn K mg C F x y H Q
theorem ev_eqO {k j : Nat} {c : Str} {F : Fn} {a b : Expr} {f g : Sem} {pos : Pos} (I : EqIs X.prog X.w X.K X.mg X.base c k F) (C : Ctx X Wx j) (hk : k ≤ j) (ha : EV X Wx a f) (hb : EV X Wx b g) (hmk : behindInMarks .Eq b = false) : EV X Wx (.Compare a [.Eq] [b] pos) (e2 (oEqO c F) f g) := by
  obtain ⟨A, ad, fd, ps, hm, G, he, hf, B⟩ := I.ex
  refine ev_cmp ((op_eqD C.room.units).or (op_own G he hf B (C.room.mono hk))) ?_ ha hb hmk
  intro Wx' hid μ st σ H Q w u x y k1 rx ry P
  unfold oEqO at P
  split at P
  · rename_i d n1 w1 e n2 w2 h1 h2
    split at P
    · rename_i hde
      obtain ⟨rfl, rfl⟩ := hde
      obtain ⟨p, D, dx, us, rfl, g1, g2, g3, g4⟩ := insW_at k1 h1 rx
      obtain ⟨q, D', dy, us', rfl, g1', g2', g3', g4'⟩ := insW_at k1 h2 ry
      rw [hm] at g1 g1'
      cases g1
      cases g1'
      refine .inr ⟨p, q, dx, dy, _, _, rfl, rfl, g3, g3', hid, μ, st, [w, u], rfl, k1, .cons rx (.cons ry .nil), ?_⟩
      cases z : F [w, u] st with
      | bad => rw [z] at P; exact P.elim
      | err e s => rw [z] at P; exact P.elim
      | ok r st1 =>
        rw [z] at P
        cases r with
        | bl t =>
          intro μ' H' v k' g' rv
          exact ⟨⟨t, rep_bl_inv rv⟩, P μ' H' v k' g' rv⟩
        | _ => exact P.elim
    · exact P.elim
  · exact .inl (os_eq _ hid μ st σ H Q w u x y k1 rx ry P)
  · exact P.elim
end
end SL

/-! # sorted of tuples of ints, any number of them -/
namespace SLs
open PySem PySem.Spec PyProof.Rows
section
variable {prog : Program} {w : World} {A : Around} {E : Value → Shared → Prop} {s : Shared}
theorem swo_rank (r : Value → Int) : SrtO.Swo fun v u => decide (r v < r u) := by
  refine ⟨fun x y h => ?_, fun x y z h1 h2 => ?_⟩
  · have := of_decide_eq_true h
    exact decide_eq_false (by omega)
  · have a := of_decide_eq_false h1
    have b := of_decide_eq_false h2
    exact decide_eq_false (by omega)
theorem ints_len {xs : List Value} {ns : List Int} (i : IntsAre xs ns) : xs.length = ns.length := by
  induction i with
  | nil => rfl
  | cons => simp_all
theorem tups_any {a : Addr} {vs : List Value} {d : Nat} {B : Int} (hd : 1 ≤ d) (h2 : 2 ≤ vs.length) (x : TS.TupsOk s.heap d B vs) (r : Value → Int) (hr : ∀ v, v ∈ vs → ∀ ns, TS.TupInts s.heap v ns → r v = TS.code B ns) (ha : ∀ o, s.heap.get? a = some o → o.cls ≠ .type "tuple") :
    SrtO.SortableO prog w A s a vs fun v u => decide (r v < r u) := by
  intro h' keep
  have kp : ∀ b o, s.heap.get? b = some o → o.cls = .type "tuple" → h'.get? b = some o := fun b o e c => keep b o (fun z => by subst z; exact ha o e c) e
  have x' := x.keeps kp
  obtain ⟨fs, k, hl, hi⟩ := TS.firsts_of hd vs x'
  refine ⟨_, fun Q E hq => PySem.W.kat_kind (T := Value.type "int") k (by omega) (fun f hf => ?_) rfl hq, ?_⟩
  · obtain ⟨n, t, rfl⟩ := hi f hf
    exact PySem.W.Looks.of_pure rfl
  · intro p q hm hm'
    obtain ⟨ns0, t0, hn0, hb0⟩ := x _ hm
    obtain ⟨ms0, u0, hn1, hb1⟩ := x _ hm'
    have r1 := hr _ hm _ t0
    have r2 := hr _ hm' _ u0
    obtain ⟨a1, xs, e1, ⟨o1, ho1, hc1, n1, hd1⟩, i1⟩ := t0.keeps kp
    obtain ⟨a2, ys, e2, ⟨o2, ho2, hc2, n2, hd2⟩, i2⟩ := u0.keeps kp
    show wpAny (model prog w) A (keyLt' _ p.1 q.1) (fun z s' => s' = _ ∧ z = decide (r p.1 < r q.1)) (fun _ _ => False) _
    rw [r1, r2, e1, e2]
    refine PySem.W.kat_lt ho1 hd1 ho2 hd2 ?_
    have sz : decide (xs.size < ys.size) = false := by
      have l1 := ints_len i1
      have l2 := ints_len i2
      rw [Array.length_toList] at l1 l2
      exact decide_eq_false (by omega)
    rw [sz]
    exact TS.lex_ints 0 i1 i2 (by omega) hb0 hb1 ⟨rfl, rfl⟩
end
end SLs
namespace SL
open PySem PySem.Spec PyProof.Rows L2
def rSortAny (K : PySem.W.Frag) : List V → Hp → VK → Prop := fun vs H Q => ∃ (a : Addr) (xs : List V) (d : Nat) (B : Int), vs = [V.ref a] ∧ SqL K H a xs ∧ 1 ≤ d ∧ (∀ x ∈ xs, ∃ ns, TupI K H x ns ∧ ns.length = d ∧ TS.Bd B ns) ∧
  ∀ (ys : List V) (p : Addr), ys.Perm xs → ys.Pairwise (fun x y => ∀ n m, TupI K H x n → TupI K H y m → TS.code B n ≤ TS.code B m) → H p = none → Q (.ref p) (upd H p (.lst ys))
section
variable {X : Cx}
theorem cr_sortAny : CallR X (.builtin "sorted") (rSortAny X.K) := by
  intro pins s σ H vs us Q J r hq
  obtain ⟨a, xs, d, B, rfl, hs, hd, hx, q⟩ := hq
  obtain ⟨its, rq, hl, hz⟩ := J.list hs
  rw [Vals.ref1 r]
  obtain ⟨e1, e2⟩ := bkV_refs rq fun x mx => by
    obtain ⟨ks, ⟨t, e, _⟩, _⟩ := hx x mx
    exact ⟨t, e⟩
  have raw : TS.TupsOk s.heap d B its := fun v hv => by
    obtain ⟨t, rfl⟩ := e2 v hv
    have hm : V.ref t ∈ xs := by
      rw [e1]
      exact List.mem_map.mpr ⟨_, hv, rfl⟩
    obtain ⟨ns, ⟨t', e, ht⟩, hn, hb⟩ := hx _ hm
    cases e
    exact ⟨ns, tupI_raw J ht, hn, hb⟩
  refine SrtO.sorted_ord (SLs.swo_rank fun v => TS.code B (TS.intsOf s.heap v)) hl.isList (by rw [← rq.length]; exact hz) (fun h2 h₁ b hb kk => ?_) fun out hs1 hb1 => ?_
  · refine SLs.tups_any (s := { s with heap := h₁ }) hd h2 (raw.keeps fun b o e _ => (kk b o e).2) _ (fun v hv ns t => ?_) fun o e => ?_
    · obtain ⟨ms, t2, _⟩ := raw v hv
      rw [t2.ints, ← t.ints, (t2.keeps fun b o e _ => (kk b o e).2).ints]
    · have e' : some o = some (seqObj "list" its.toArray 0) := e.symm.trans hb
      cases e'
      intro c
      exact absurd (Value.type.inj c) (by decide)
  · obtain ⟨n, hn⟩ := sortedAll_at s.heap its out.toArray
    have h3 : ∀ u ∈ out, ∃ a, u = Value.ref a := fun u hu => e2 u (hb1.perm.mem_iff.mp hu)
    have pm : (out.map bkV).Perm xs := by
      rw [e1]
      exact hb1.perm.map bkV
    have hlen : (out.map bkV).length ≤ sizeLine := by
      rw [pm.length_eq]
      exact hz
    refine ⟨.ref _, upd H (s.heap.objs.size + 1) (.lst (out.map bkV)), J.laid (t' := s.toks) (fun _ _ => sortedAll_old) (Nat.le_succ _) ⟨hlen, out, n, bkV_vals h3, hn⟩, rfl, q _ _ pm ?_ (J.hok.fresh (Nat.le_succ _))⟩
    rw [List.pairwise_map]
    refine List.Pairwise.imp (fun {u v} huv n m k1 k2 => ?_) hs1
    obtain ⟨t, et, ht⟩ := k1
    obtain ⟨t', et', ht'⟩ := k2
    have i1 := (tupI_raw J ht).ints
    have i2 := (tupI_raw J ht').ints
    rw [← bkV_ref et] at i1
    rw [← bkV_ref et'] at i2
    have z := of_decide_eq_false huv
    rw [i1, i2] at z
    omega
end
end SL

/-! # (x,) * n for n = 1 and n <= 0 (for n >= 2 the library has it) -/
namespace SLm
open PySem PySem.Spec PyProof.Rows L2
/-- times one: the tuple itself -/
theorem tup_one (l : Addr) (items : Array Value) (n : Nat) (dd : Option Addr) (sl : Array (Option Value)) (u : Tok) :
    Meets (Builtin.«tuple.__mul__» ⟨[.ref l, .int 1 u], []⟩) (fun _ R s => s.heap.get? l = some { cls := .type "tuple", dict := dd, data := .seq items n, slots := sl } ∧ R (.ok (.ret (Value.ref l))) s) :=
  .of_wp fun prog w A R s h => by
    obtain ⟨hp, g, d, tk, os⟩ := s
    obtain ⟨hl, h⟩ := h
    have f1 := AutoSeq1.idx_int
    have c1 : (items.isEmpty || (1 : Int) == 1) = true := by simp
    wp_walk using wpAny_loadPart' hl
    repeat (first
      | (refine wpAny_ite_false (decide_eq_false (by decide)) ?_; wp_walk using wpAny_loadPart' hl)
      | (refine wpAny_ite_true (decide_eq_true (by exact c1)) ?_; wp_walk using wpAny_loadPart' hl))
    exact ⟨_, rfl, h⟩
/-- times nothing: a new empty tuple -/
theorem tup_none (l : Addr) (items : Array Value) (n : Nat) (dd : Option Addr) (sl : Array (Option Value)) (x : Int) (u : Tok) (c0 : (decide (x < -(2 ^ 63)) || decide (x ≥ 2 ^ 63)) = false) (c1 : x ≤ 0) (c3 : items.isEmpty = false) :
    Meets (Builtin.«tuple.__mul__» ⟨[.ref l, .int x u], []⟩) (fun _ R s => s.heap.get? l = some { cls := .type "tuple", dict := dd, data := .seq items n, slots := sl } ∧
      R (.ok (.ret (Value.ref s.heap.objs.size))) { s with heap := s.heap.push { cls := Value.type "tuple", data := Data.seq #[] }, toks := s.toks }) :=
  .of_wp fun prog w A R s h => by
    obtain ⟨hp, g, d, tk, os⟩ := s
    obtain ⟨hl, h⟩ := h
    have f1 := AutoSeq1.idx_int
    have k1 : (items.isEmpty || x == 1) = false := by
      rw [c3, Bool.false_or]
      exact beq_eq_false_iff_ne.mpr (by omega)
    have k2 : (decide (x ≤ 0) || items.isEmpty) = true := by
      rw [decide_eq_true c1]; rfl
    wp_walk using wpAny_loadPart' hl
    repeat (first
      | (refine wpAny_ite_false (decide_eq_false (by rw [c0]; exact Bool.false_ne_true)) ?_; wp_walk using wpAny_loadPart' hl)
      | (refine wpAny_ite_false (decide_eq_false (by rw [k1]; exact Bool.false_ne_true)) ?_; wp_walk using wpAny_loadPart' hl)
      | (refine wpAny_ite_true (decide_eq_true (by exact k2)) ?_; wp_walk using wpAny_loadPart' hl))
    exact ⟨_, rfl, h⟩
end SLm
namespace SL
open PySem PySem.Spec PyProof.Rows L2
def rRepFew (K : PySem.W.Frag) : R2 := fun x y H Q => ∃ l k xs, x = .ref l ∧ y = .int k ∧ SqT K H l xs ∧ xs ≠ [] ∧ -1000 ≤ k ∧ k ≤ 1 ∧ (k = 1 → Q (.ref l) H) ∧ (k ≤ 0 → ∀ p, H p = none → Q (.ref p) (upd H p (.tup [])))
section
variable {X : Cx}
theorem op_repFew : OpR X (binaryOp .Mult) (rRepFew X.K) := by
  intro pins s σ H x y v u Q J rx ry hq
  obtain ⟨l, k, xs, rfl, rfl, hT, hne, b1, b2, q1, q0⟩ := hq
  cases rx
  obtain ⟨t, rfl⟩ := ry
  obtain ⟨its, r, ⟨⟨cls, dd, data, sl⟩, ho, hc, n, hd⟩, hs⟩ := J.tuple hT
  simp only at hc hd
  subst hc hd
  have em : its.toArray.isEmpty = false := by
    cases its with
    | nil => exact absurd (List.eq_nil_of_length_eq_zero r.length) hne
    | cons a b => rfl
  have rest : ∀ (R : Value → Shared → Prop), (call (.builtin "tuple.__mul__") [.ref l, .int k t] |> fun m => wpAny (model X.prog X.w) X.A m R X.xe s) → wpAny (model X.prog X.w) X.A (binaryOp .Mult (.ref l) (.int k t)) R X.xe s := fun R hm =>
    wpAny_binaryOp_repeat_ref (T := "tuple") (U := "int") (by decide) ⟨_, ho, rfl⟩ (fun s' => typeIs_int s' k t) noFill_tuple_mul F.fills_int_mul F.slot_int_rmul repeat_tuple F.slot_int_index.lookup
      (call_meets F.slot_int_rmul (typeIs_int s k t) F.entry_int_rmul (F.args_int_rmul_2 _ _) (int_rmul_tuple k t l its.toArray n dd sl) ⟨ho, rfl, ⟨_, ho, rfl⟩, hm⟩)
  refine rest _ ?_
  by_cases h1 : k = 1
  · subst h1
    exact call_meets F.slot_tuple_mul ⟨_, ho, rfl⟩ F.entry_tuple_mul (F.args_tuple_mul_2 _ _) (SLm.tup_one l its.toArray n dd sl t) ⟨ho, .ref l, H, J, rfl, q1 rfl⟩
  · have h0 : k ≤ 0 := by omega
    have c0 : (decide (k < -(2 ^ 63)) || decide (k ≥ 2 ^ 63)) = false := by
      rw [decide_eq_false (by omega), decide_eq_false (by omega)] <;> rfl
    refine call_meets F.slot_tuple_mul ⟨_, ho, rfl⟩ F.entry_tuple_mul (F.args_tuple_mul_2 _ _) (SLm.tup_none l its.toArray n dd sl k t c0 h0 em) ⟨ho, ?_⟩
    refine ⟨.ref s.heap.objs.size, _, J.laid (t' := s.toks) (o := .tup []) (fun b ob q => Heap.get?_push_of_some _ q) (Nat.le_refl _) ?_, rfl, q0 h0 _ (J.hok.fresh (Nat.le_refl _))⟩
    exact ⟨Nat.zero_le _, [], .nil, IsTup.new _ _⟩
/-- ints; a tuple so many times -/
noncomputable def oMulX : Op2 := fun x y st => match x, y with
  | .tup ws, .int k => if ws = [] then .bad else if dec (-1000 ≤ k ∧ k ≤ 1000 ∧ ws.length ≤ 1000) = true then .ok (.tup (List.replicate k.toNat ws).flatten) st else .bad
  | x, y => oMul x y st
def rMulX (K : PySem.W.Frag) : R2 := fun x y H Q => rMulAll x y H Q ∨ rRepT K x y H Q ∨ rRepFew K x y H Q
theorem or_mulX : OpR X (binaryOp .Mult) (rMulX X.K) := or_mul.or (op_repT.or op_repFew)
theorem reps_rep {K : PySem.W.Frag} {mg : Str → Option Value} {F : Hp} {μ : List Addr} {ws : List W} {vs : List V} (r : Reps K mg F μ ws vs) : ∀ m : Nat, Reps K mg F μ (List.replicate m ws).flatten (List.replicate m vs).flatten
  | 0 => .nil
  | m + 1 => by
    rw [List.replicate_succ, List.replicate_succ, List.flatten_cons, List.flatten_cons]
    exact r.append (reps_rep r m)
theorem os_mulX : Op2S X oMulX (rMulX X.K) := by
  intro Wx hid μ st σ H Q w u x y k rx ry P
  unfold oMulX at P
  split at P
  · rename_i ws m
    cases rep_int_inv ry
    split at P
    · exact P.elim
    · rename_i hne
      split at P
      · rename_i hg
        obtain ⟨g1, g2, g3⟩ := dec_of hg
        obtain ⟨a, vs, rfl, h1, h2⟩ := rep_tup_inv rx
        have hl := h2.length
        have hv : vs ≠ [] := fun z => by
          rw [z] at hl
          exact hne (List.eq_nil_of_length_eq_zero hl)
        by_cases hm : 2 ≤ m
        · exact .inr (.inl ⟨a, m, vs, rfl, rfl, h1.fz, hv, hm, g2, by rw [← hl]; exact g3, fun p hp => ok_new P k hp fun F l e => rep_tup e (reps_rep (h2.mono l (.refl _)) _)⟩)
        · refine .inr (.inr ⟨a, m, vs, rfl, rfl, h1.fz, hv, g1, by omega, fun e => ?_, fun e p hp => ?_⟩)
          · subst e
            have z : (List.replicate (1 : Int).toNat ws).flatten = ws := by simp
            rw [z] at P
            exact P μ H _ k .refl rx
          · have z : (List.replicate m.toNat ws).flatten = [] := by
              have : m.toNat = 0 := by omega
              rw [this]; rfl
            rw [z] at P
            exact ok_new P k hp fun F l e => rep_tup e .nil
      · exact P.elim
  · exact .inl (os_mul _ hid μ st σ H Q _ _ _ _ k rx ry P)
/-! ## sorted -/
def tupsI : List W → Option (List (List Int))
  | [] => some []
  | .tup ws :: r => match intsW ws, tupsI r with
    | some n, some l => some (n :: l)
    | _, _ => none
  | _ => none
def lexLt : List Int → List Int → Bool
  | [], [] => false
  | [], _ :: _ => true
  | _ :: _, [] => false
  | a :: l, b :: m => if a = b then lexLt l m else decide (a < b)
def sortT (L : List (List Int)) : List (List Int) := L.mergeSort fun a b => !lexLt b a
noncomputable def oSortT : OpN := fun ws st => match ws with
  | [x] => match (lstW st x).bind tupsI with
    | some L => if dec (∃ (d : Nat) (B : Int), 1 ≤ d ∧ ∀ l ∈ L, l.length = d ∧ TS.Bd B l) = true then .ok (.lst ((sortT L).map fun l => .tup (l.map .int))) st else .bad
    | none => .bad
  | _ => .bad
theorem lex_code {B : Int} : ∀ {a b : List Int}, a.length = b.length → TS.Bd B a → TS.Bd B b → lexLt a b = decide (TS.code B a < TS.code B b)
  | [], [], _, _, _ => (decide_eq_false (Int.lt_irrefl _)).symm
  | [], _ :: _, h, _, _ => by simp at h
  | _ :: _, [], h, _, _ => by simp at h
  | p :: l, q :: m, h, h1, h2 => by
    have hl : l.length = m.length := by simpa using h
    unfold lexLt
    by_cases e : p = q
    · subst e
      rw [if_pos rfl, lex_code hl h1.tail h2.tail]
      exact decide_eq_decide.mpr (TS.code_same hl).symm
    · rw [if_neg e]
      refine decide_eq_decide.mpr ⟨fun x => TS.code_lt hl h1.tail h2.tail x, fun x => ?_⟩
      rcases Int.lt_trichotomy p q with y | y | y
      · exact y
      · exact absurd y e
      · have := TS.code_lt hl.symm h2.tail h1.tail y
        omega
theorem lex_tri : ∀ {a b : List Int}, a.length = b.length → lexLt a b = false → lexLt b a = false → a = b
  | [], [], _, _, _ => rfl
  | [], _ :: _, h, _, _ => by simp at h
  | _ :: _, [], h, _, _ => by simp at h
  | p :: l, q :: m, h, h1, h2 => by
    unfold lexLt at h1 h2
    by_cases e : p = q
    · subst e
      rw [if_pos rfl] at h1 h2
      rw [lex_tri (by simpa using h) h1 h2]
    · rw [if_neg e] at h1
      rw [if_neg (Ne.symm e)] at h2
      have a := of_decide_eq_false h1
      have b := of_decide_eq_false h2
      exact absurd (by omega) e
theorem lex_asym : ∀ (a b : List Int), lexLt a b = false ∨ lexLt b a = false
  | [], [] => .inl rfl
  | [], _ :: _ => .inr rfl
  | _ :: _, [] => .inl rfl
  | p :: l, q :: m => by
    unfold lexLt
    by_cases e : p = q
    · subst e
      rw [if_pos rfl, if_pos rfl]
      exact lex_asym l m
    · rw [if_neg e, if_neg (Ne.symm e)]
      rcases Int.lt_or_gt_of_ne e with h | h
      · exact .inr (decide_eq_false (by omega))
      · exact .inl (decide_eq_false (by omega))
theorem lex_trans : ∀ (a b c : List Int), lexLt b a = false → lexLt c b = false → lexLt c a = false
  | [], b, [], _, _ => rfl
  | [], [], _ :: _, _, _ => rfl
  | [], _ :: _, _ :: _, _, _ => rfl
  | _ :: _, [], _, h, _ => by unfold lexLt at h; cases h
  | _ :: _, _ :: _, [], _, h => by unfold lexLt at h; cases h
  | p :: l, q :: m, r :: n, h1, h2 => by
    unfold lexLt at h1 h2 ⊢
    by_cases e1 : q = p
    · subst e1
      rw [if_pos rfl] at h1
      by_cases e2 : r = q
      · subst e2
        rw [if_pos rfl] at h2 ⊢
        exact lex_trans l m n h1 h2
      · rw [if_neg e2] at h2 ⊢
        exact h2
    · rw [if_neg e1] at h1
      have a := of_decide_eq_false h1
      by_cases e2 : r = q
      · subst e2
        rw [if_neg e1]
        exact h1
      · rw [if_neg e2] at h2
        have b := of_decide_eq_false h2
        rw [if_neg (by omega)]
        exact decide_eq_false (by omega)
/-- there is one sorted order -/
theorem one_order {α : Type} {R : α → α → Prop} : ∀ {l m : List α}, l.Perm m → l.Pairwise R → m.Pairwise R → (∀ a ∈ l, ∀ b ∈ l, R a b → R b a → a = b) → l = m
  | [], m, p, _, _, _ => by rw [p.symm.eq_nil]
  | a :: l, [], p, _, _, _ => by exact absurd p.eq_nil (by simp)
  | a :: l, b :: m, p, h1, h2, h => by
    have ha : a ∈ b :: m := p.mem_iff.mp List.mem_cons_self
    have hb : b ∈ a :: l := p.mem_iff.mpr List.mem_cons_self
    have e : a = b := by
      rcases List.mem_cons.mp ha with e | ha'
      · exact e
      · rcases List.mem_cons.mp hb with e | hb'
        · exact e.symm
        · exact h a List.mem_cons_self b hb ((List.pairwise_cons.mp h1).1 b hb') ((List.pairwise_cons.mp h2).1 a ha')
    subst e
    rw [one_order (List.Perm.cons_inv p) (List.pairwise_cons.mp h1).2 (List.pairwise_cons.mp h2).2 fun x hx y hy => h x (List.mem_cons_of_mem _ hx) y (List.mem_cons_of_mem _ hy)]
end
end SL

namespace SL
open PySem PySem.Spec PyProof.Rows L2
/-! ## sorted, sound -/
section
variable {K : PySem.W.Frag} {mg : Str → Option Value} {F : Hp} {μ : List Addr}
def tupOf (l : List Int) : W := .tup (l.map .int)
theorem intsW_eq : ∀ {ws : List W} {ns : List Int}, intsW ws = some ns → ws = ns.map .int
  | [], ns, h => by unfold intsW at h; cases h; rfl
  | .int b :: ws, ns, h => by
    unfold intsW at h
    cases e : intsW ws with
    | none => rw [e] at h; cases h
    | some ms => rw [e] at h; cases h; rw [intsW_eq e]; rfl
  | .non :: _, _, h | .ty _ :: _, _, h | .bl _ :: _, _, h | .str _ :: _, _, h | .tup _ :: _, _, h | .lst _ :: _, _, h | .dct _ _ :: _, _, h | .ins _ _ _ :: _, _, h | .cell _ :: _, _, h | .ro _ :: _, _, h | .tpn _ :: _, _, h | .cls _ :: _, _, h => by unfold intsW at h; cases h
theorem tupsI_eq : ∀ {ws : List W} {L : List (List Int)}, tupsI ws = some L → ws = L.map tupOf
  | [], L, h => by unfold tupsI at h; cases h; rfl
  | .tup us :: ws, L, h => by
    unfold tupsI at h
    cases e1 : intsW us with
    | none => rw [e1] at h; cases h
    | some n =>
      cases e2 : tupsI ws with
      | none => rw [e1, e2] at h; cases h
      | some l =>
        rw [e1, e2] at h; cases h
        rw [intsW_eq e1, tupsI_eq e2]; rfl
  | .non :: _, _, h | .ty _ :: _, _, h | .bl _ :: _, _, h | .str _ :: _, _, h | .int _ :: _, _, h | .lst _ :: _, _, h | .dct _ _ :: _, _, h | .ins _ _ _ :: _, _, h | .cell _ :: _, _, h | .ro _ :: _, _, h | .tpn _ :: _, _, h | .cls _ :: _, _, h => by unfold tupsI at h; cases h
theorem reps_ints : ∀ {ns : List Int} {vs : List V}, Reps K mg F μ (ns.map .int) vs → vs = ns.map .int
  | [], vs, h => by rw [List.map_nil, Reps.nil_iff] at h; exact h
  | n :: ns, vs, h => by
    obtain ⟨v, t, rfl, h1, h2⟩ := h.cons_inv
    rw [rep_int_inv h1, reps_ints h2]; rfl
/-- another order of the values: another order of what they stand for -/
theorem reps_perm {α : Type} {f : α → W} {xs ys : List V} (p : ys.Perm xs) : ∀ {L : List α}, Reps K mg F μ (L.map f) xs → ∃ M : List α, M.Perm L ∧ Reps K mg F μ (M.map f) ys := by
  induction p with
  | nil => intro L r; exact ⟨L, .refl _, r⟩
  | cons x _ ih =>
    intro L r
    cases L with
    | nil => rw [List.map_nil, Reps.nil_iff] at r; cases r
    | cons a L =>
      obtain ⟨v, t, e, h1, h2⟩ := r.cons_inv
      cases e
      obtain ⟨M, h3, h4⟩ := ih h2
      exact ⟨a :: M, h3.cons a, .cons h1 h4⟩
  | swap x y l =>
    intro L r
    match L, r with
    | [], r => rw [List.map_nil, Reps.nil_iff] at r; cases r
    | [a], r =>
      obtain ⟨v, t, e, h1, h2⟩ := r.cons_inv
      cases e
      rw [List.map_nil, Reps.nil_iff] at h2; cases h2
    | a :: b :: L, r =>
      obtain ⟨v, t, e, h1, h2⟩ := r.cons_inv
      cases e
      obtain ⟨v2, t2, e2, h3, h4⟩ := h2.cons_inv
      cases e2
      exact ⟨b :: a :: L, .swap a b L, .cons h3 (.cons h1 h4)⟩
  | trans _ _ ih1 ih2 =>
    intro L r
    obtain ⟨M, h1, h2⟩ := ih2 r
    obtain ⟨N, h3, h4⟩ := ih1 h2
    exact ⟨N, h3.trans h1, h4⟩
theorem pair_of {α : Type} {f : α → W} {R : V → V → Prop} {S : α → α → Prop} {ys : List V} (hp : ys.Pairwise R) : ∀ {M : List α}, Reps K mg F μ (M.map f) ys → (∀ a ∈ M, ∀ b ∈ M, ∀ v u, Rep K mg F μ (f a) v → Rep K mg F μ (f b) u → R v u → S a b) → M.Pairwise S := by
  induction hp with
  | nil =>
    intro M r _
    cases M with
    | nil => exact .nil
    | cons a M => have := r.length; simp at this
  | @cons v ys h _ ih =>
    intro M r hs
    cases M with
    | nil => have := r.length; simp at this
    | cons a M =>
      obtain ⟨v', t, e, h1, h2⟩ := r.cons_inv
      cases e
      refine .cons (fun b hb => ?_) (ih h2 fun a ha b hb => hs a (List.mem_cons_of_mem _ ha) b (List.mem_cons_of_mem _ hb))
      obtain ⟨i, hi, rfl⟩ := List.mem_iff_getElem.mp hb
      obtain ⟨u, e1, e2⟩ := h2.get (i := i) (w := f M[i]) (by simp [hi])
      exact hs a List.mem_cons_self _ (List.mem_cons_of_mem _ (List.getElem_mem hi)) v u h1 e2 (h u (List.mem_of_getElem? e1))
end
section
variable {X : Cx}
theorem tup_I {K : PySem.W.Frag} {mg : Str → Option Value} {H : Hp} {hid μ : List Addr} {st : Sto} {l : List Int} {v : V} (r : Rep K mg (Fz μ st hid H) μ (tupOf l) v) : TupI K H v l := by
  obtain ⟨a, vs, rfl, h1, h2⟩ := rep_tup_inv r
  rw [reps_ints h2] at h1
  exact ⟨a, rfl, h1.fz⟩
theorem os_sortT : OpNS X oSortT (rSortAny X.K) := by
  intro Wx hid μ st σ H Q ws vs k r P
  unfold oSortT at P
  split at P
  · rename_i x
    obtain ⟨v, rfl, r1⟩ := reps1 (ws := []) r
    split at P
    · rename_i L e
      split at P
      · rename_i hg
        obtain ⟨d, B, hd, hL⟩ := dec_of hg
        cases e1 : lstW st x with
        | none => rw [e1] at e; cases e
        | some us =>
          rw [e1] at e
          obtain ⟨a, xs, rfl, h1, h2⟩ := lstW_at k e1 r1
          rw [tupsI_eq e] at h2
          refine ⟨a, xs, d, B, rfl, h1, hd, fun y hy => ?_, fun ys p pm sr hp => ?_⟩
          · obtain ⟨i, hi⟩ := List.getElem?_of_mem hy
            obtain ⟨w, g1, g2⟩ := h2.get' hi
            rw [List.getElem?_map] at g1
            obtain ⟨l, g3, rfl⟩ := Option.map_eq_some_iff.mp g1
            exact ⟨l, tup_I g2, hL l (List.mem_of_getElem? g3)⟩
          · obtain ⟨M, pM, rM⟩ := reps_perm pm h2
            have hM : ∀ l ∈ M, l.length = d ∧ TS.Bd B l := fun l hl => hL l (pM.mem_iff.mp hl)
            have s1 : M.Pairwise fun a b => (!lexLt b a) = true := pair_of sr rM fun a ha b hb v u hv hu hc => by
              have z := hc a b (tup_I hv) (tup_I hu)
              rw [lex_code (by rw [(hM a ha).1, (hM b hb).1]) (hM b hb).2 (hM a ha).2]
              simp
              omega
            have s2 : (sortT L).Pairwise fun a b => (!lexLt b a) = true := by
              refine List.pairwise_mergeSort (le := fun a b => !lexLt b a) (fun a b c h1 h2 => ?_) (fun a b => ?_) L
              · simp at h1 h2 ⊢
                exact lex_trans a b c h1 h2
              · rcases lex_asym a b with h | h <;> simp [h]
            have e2 : M = sortT L := one_order (pM.trans (List.mergeSort_perm L _).symm) s1 s2 fun a ha b hb h1 h2 => lex_tri (by rw [(hM a ha).1, (hM b hb).1]) (by simpa using h2) (by simpa using h1)
            rw [e2] at rM
            exact ok_new P k hp fun F l e => rep_lst e (rM.mono l (.refl _))
      · exact P.elim
    · exact P.elim
  · exact P.elim
end
end SL

/-! # sum of a tuple of ints -/
namespace SLt
open PySem PySem.Spec PyProof.Rows
section
variable {prog : Program} {w : World} {A : Around} {E : Value → Shared → Prop} {s : Shared}
theorem sum_tup {t : Addr} {its : List Value} {ns : List Int} {Q : Value → Shared → Prop} (hh : A.handled = none) (ht : s.heap.IsTuple t its.toArray) (hi : IntsAre its ns)
    (h : ∀ h' tk t', (∀ b o, s.heap.get? b = some o → h'.get? b = some o) → Q (.int ns.sum t') { s with heap := h', toks := tk }) : wpAny (model prog w) A (call (.builtin "sum") [.ref t]) Q E s := by
  obtain ⟨xs, e⟩ := hi.allInts.items
  have hn : numsOf (intItems xs).toList = ns := by rw [← e]; exact hi.numsOf
  rw [nums_intItems] at hn
  rw [e] at ht
  have hlt : t < s.heap.objs.size := by obtain ⟨_, q, _⟩ := ht; exact Heap.lt_size q
  refine call_sum_walkG (wpAny_pyIter_tuple ht ?_)
  refine ⟨_, _, _, _, _, _, numAt xs, rfl, Walks.tuple (A := A.in1) hh s.heap.objs.size t (Nat.ne_of_lt hlt) (intItems xs), ⟨⟨_, Heap.get?_push_size _ rfl, rfl, rfl⟩, ht.at fun o q => Heap.get?_push_of_some _ q⟩, fun b hb => ?_, (fun _ _ => intItems_at), fun h' tk t' hk => ?_⟩
  · show b < (s.heap.push _).objs.size
    rw [Heap.size_push]
    rcases List.mem_cons.mp hb with rfl | hb
    · exact Nat.lt_succ_self _
    · rcases List.mem_cons.mp hb with rfl | hb
      · exact Nat.lt_succ_of_lt hlt
      · cases hb
  · have q := h h' tk t' fun b o eb => hk b o (fun z => by
      rcases List.mem_cons.mp z with rfl | z
      · exact Nat.lt_irrefl _ (Heap.lt_size eb)
      · cases z) (Heap.get?_push_of_some _ eb)
    have z : preSum (numAt xs) (intItems xs).size = ns.sum := by
      rw [preSum_eq, List.take_of_length_le (by simp [intItems]), hn]
    rw [z]
    exact q
end
end SLt
namespace SL
open PySem PySem.Spec PyProof.Rows L2
def rSumT (K : PySem.W.Frag) : List V → Hp → VK → Prop := fun vs H Q => ∃ (a : Addr) (ns : List Int), vs = [V.ref a] ∧ SqT K H a (ns.map V.int) ∧ Q (.int ns.sum) H
section
variable {X : Cx}
theorem cr_sumT (hc : X.calm = true) : CallR X (.builtin "sum") (rSumT X.K) := by
  intro pins s σ H vs us Q J r hq
  obtain ⟨a, ns, rfl, hs, q⟩ := hq
  obtain ⟨its, rr, hT, _⟩ := J.tuple hs
  rw [Vals.ref1 r]
  exact SLt.sum_tup (J.ok.hd hc) hT rr.ints fun h' tk t' hk => ⟨.int _, H, J.kept hk, ⟨_, rfl⟩, q⟩
/-- sum(x), a list or a tuple -/
def oSumX : OpN := fun ws st => match ws with
  | [x] => match (seqW st x).bind intsW with
    | some bs => .ok (.int bs.sum) st
    | none => .bad
  | _ => .bad
theorem os_sumX : OpNS X oSumX (fun vs H Q => rSum X.K vs H Q ∨ rSumT X.K vs H Q) := by
  intro Wx hid μ st σ H Q ws vs k r P
  unfold oSumX at P
  split at P
  · rename_i x
    obtain ⟨v, rfl, r1⟩ := reps1 (ws := []) r
    split at P
    · rename_i bs e
      cases e1 : seqW st x with
      | none => rw [e1] at e; cases e
      | some us =>
        rw [e1] at e
        obtain ⟨a, xs, rfl, h1, h2⟩ := seqW_at k e1 r1
        rw [intsW_eq e] at h2
        rw [reps_ints h2] at h1
        rcases h1 with h1 | h1
        · exact .inl ⟨a, bs, rfl, h1, P μ H _ k .refl rep_int⟩
        · exact .inr ⟨a, bs, rfl, h1, P μ H _ k .refl rep_int⟩
    · exact P.elim
  · exact P.elim
theorem cr_sumX (hc : X.calm = true) : CallR X (.builtin "sum") (fun vs H Q => rSum X.K vs H Q ∨ rSumT X.K vs H Q) := (cr_sum hc).or (cr_sumT hc)
/-! ## list(x), that is to change -/
def oListC : OpN := fun ws st => match ws with
  | [x] => match seqW st x with
    | some us => .ok (.cell st.length) (st ++ [.lst us])
    | none => .bad
  | _ => .bad
theorem os_listC : OpNS X oListC (fun xs H Q => ∃ p ys, xs = [.ref p] ∧ (SqL X.K H p ys ∨ SqT X.K H p ys) ∧ ∀ l, H l = none → Q (.ref l) (upd H l (.lst ys))) := by
  intro Wx hid μ st σ H Q ws vs k r P
  unfold oListC at P
  split at P
  · rename_i x
    obtain ⟨v, rfl, r1⟩ := reps1 (ws := []) r
    split at P
    · rename_i us e
      obtain ⟨a, xs, rfl, h1, h2⟩ := seqW_at k e r1
      refine ⟨a, xs, rfl, h1, fun l hl => ?_⟩
      obtain ⟨k2, g2⟩ := k.newCell (c := .lst us) (o := .lst xs) hl rfl ⟨xs, upd_same, h2.mono (.refl _) ⟨[l], rfl⟩⟩
      refine P _ _ _ k2 g2 ?_
      unfold Rep
      exact ⟨l, by rw [← k.len]; simp, rfl⟩
    · exact P.elim
  · exact P.elim
end
end SL

namespace SL
open PySem PySem.Spec PyProof.Rows L2
/-! # more of lists: extend by a list, pop; max and min -/
section
variable {X : Cx}
def mExtend : OpM := fun x ws st => match x, ws with
  | .cell k, [.lst us] => match st[k]? with
    | some (.lst vs) => if vs.length + us.length ≤ LINE then .ok .non (st.set k (.lst (vs ++ us))) else .bad
    | _ => .bad
  | _, _ => .bad
theorem os_extend : OpMS X mExtend rExtend := by
  intro Wx hid μ st σ H Q w ws x vs k rx rs P
  unfold mExtend at P
  split at P
  · rename_i n us
    obtain ⟨v, rfl, r1⟩ := reps1 (ws := []) rs
    obtain ⟨b, ys, rfl, h1, h2⟩ := rep_lst_inv r1
    split at P
    · rename_i zs e1
      split at P
      · rename_i hz
        obtain ⟨a, rfl, h3, xs, h4, h5⟩ := k.cell e1 rx
        refine ⟨a, b, xs, ys, rfl, rfl, h4, (Fz.sub h1).1, by rw [← h5.length, ← h2.length]; exact le_line hz, ?_⟩
        obtain ⟨k2, g2⟩ := k.setCell (c' := .lst (zs ++ us)) (o := .lst (xs ++ ys)) h3 e1 rfl rfl ⟨_, upd_same, h5.append h2⟩
        exact P μ _ _ k2 g2 rep_non
      · exact P.elim
    · exact P.elim
  · exact P.elim
theorem reps_dropLast {K : PySem.W.Frag} {mg : Str → Option Value} {F : Hp} {μ : List Addr} {ws : List W} {vs : List V} (r : Reps K mg F μ ws vs) : Reps K mg F μ ws.dropLast vs.dropLast := by
  rw [List.dropLast_eq_take, List.dropLast_eq_take, r.length]
  exact r.take _
def mPop : OpM := fun x ws st => match x, ws with
  | .cell k, [] => match st[k]? with
    | some (.lst vs) => match vs[vs.length - 1]? with
      | some u => .ok u (st.set k (.lst vs.dropLast))
      | none => .bad
    | _ => .bad
  | _, _ => .bad
theorem os_pop : OpMS X mPop rPop := by
  intro Wx hid μ st σ H Q w ws x vs k rx rs P
  unfold mPop at P
  split at P
  · rename_i n
    rw [Reps.nil_iff] at rs
    subst rs
    split at P
    · rename_i zs e1
      split at P
      · rename_i u eu
        obtain ⟨a, rfl, h3, xs, h4, h5⟩ := k.cell e1 rx
        obtain ⟨y, ey, ry⟩ := h5.get eu
        refine ⟨a, xs, y, rfl, rfl, h4, by rw [← h5.length]; exact ey, ?_⟩
        obtain ⟨k2, g2⟩ := k.setCell (c' := .lst zs.dropLast) (o := .lst xs.dropLast) h3 e1 rfl rfl ⟨_, upd_same, reps_dropLast h5⟩
        exact P μ _ _ k2 g2 (Rep.mono g2.le g2.pre _ _ ry)
      · exact P.elim
    · exact P.elim
  · exact P.elim
def oMax2 : OpN := fun ws st => match ws with
  | [.int i, .int j] => .ok (.int (if j > i then j else i)) st
  | _ => .bad
def oMin2 : OpN := fun ws st => match ws with
  | [.int i, .int j] => .ok (.int (if j < i then j else i)) st
  | _ => .bad
theorem os_max2 : OpNS X oMax2 (fun xs H Q => ∃ i j, xs = [.int i, .int j] ∧ Q (.int (if j > i then j else i)) H) := by
  intro Wx hid μ st σ H Q ws vs k r P
  unfold oMax2 at P
  split at P
  · obtain ⟨v, y, rfl, r1, r2⟩ := reps2 r
    cases rep_int_inv r1
    cases rep_int_inv r2
    exact ⟨_, _, rfl, P μ H _ k .refl rep_int⟩
  · exact P.elim
theorem os_min2 : OpNS X oMin2 (fun xs H Q => ∃ i j, xs = [.int i, .int j] ∧ Q (.int (if j < i then j else i)) H) := by
  intro Wx hid μ st σ H Q ws vs k r P
  unfold oMin2 at P
  split at P
  · obtain ⟨v, y, rfl, r1, r2⟩ := reps2 r
    cases rep_int_inv r1
    cases rep_int_inv r2
    exact ⟨_, _, rfl, P μ H _ k .refl rep_int⟩
  · exact P.elim
end
end SL

namespace SLx
open PySem PySem.AutoSeq1
theorem ext_tup (l : Addr) (ia : Array Value) (n : Nat) (b : Addr) (ib : Array Value) (m : Nat) (dd : Option Addr) (sl : Array (Option Value)) (c0 : ¬(!ia.isEmpty && Builtin.List.listTooLong (ia.size + ib.size)) = true) (c1 : ia.size ≤ sizeLine) (c2 : ia.size + ib.size ≤ sizeLine + 1) :
    Meets (Builtin.«list.extend» ⟨[.ref l, .ref b], []⟩) (fun _ R s => s.heap.get? l = some { cls := .type "list", dict := none, data := .seq ia n, slots := #[] } ∧ s.heap.get? b = some { cls := .type "tuple", dict := dd, data := .seq ib m, slots := sl } ∧
      R (.ok (.ret Value.none)) { s with heap := s.heap.update l (Obj.mapSeq fun x => x ++ ib), toks := s.toks }) :=
  .of_wp fun prog w A R s h => by
    obtain ⟨hp, g, d, tk, os⟩ := s
    obtain ⟨hl, hb, h⟩ := h
    have f1 := idx_int
    have f2 := sub_tuple_tuple
    have f3 := sub_list_list
    have f4 := sub_tuple_list
    have f5 := sub_list_tuple
    have z2 : (ia ++ ib).size ≤ sizeLine + 1 := by rw [Array.size_append]; exact c2
    wp_walk using (wpAny_updateSeq hl rfl (hz := c1) (_hz' := z2)), wpAny_loadPart' hl, wpAny_loadPart' hb
    exact ⟨_, rfl, h⟩
end SLx
namespace SL
open PySem PySem.Spec PyProof.Rows L2
/-! # extend by a tuple -/
section
variable {X : Cx}
def rExtT (K : PySem.W.Frag) : V → List V → Hp → VK → Prop := fun x vs H Q => ∃ l b xs zs, x = .ref l ∧ vs = [.ref b] ∧ H l = some (.lst xs) ∧ SqT K H b zs ∧ xs.length + zs.length ≤ 1000000 ∧ Q .non (upd H l (.lst (xs ++ zs)))
theorem mt_extT : MtM X "list.extend" (rExtT X.K) := by
  intro pins s σ H x vs v us Q J rx rv hq
  obtain ⟨l, b, xs, zs, rfl, rfl, hH, hB, hz, q⟩ := hq
  cases rx
  obtain ⟨u, rfl, ru⟩ := rv.one
  cases ru
  obtain ⟨z, its, n, r, hl, e⟩ := J.lstM hH
  obtain ⟨its2, r2, ⟨⟨cls, dd, data, sl⟩, ho, hc, n2, hd⟩, hs⟩ := J.tuple hB
  simp only at hc hd
  subst hc hd
  have l1 : its.length = xs.length := r.length.symm
  have l2 : its2.length = zs.length := r2.length.symm
  have sz : its.toArray.size + its2.toArray.size ≤ sizeLine := by rw [List.size_toArray, List.size_toArray, sizeLine_eq]; omega
  have lg : ¬ (!its.toArray.isEmpty && Builtin.List.listTooLong (its.toArray.size + its2.toArray.size)) = true := by
    rw [notLongL sz, Bool.and_false]
    exact Bool.false_ne_true
  refine call_meets F.slot_list_extend ⟨_, e, rfl⟩ F.entry_list_extend (F.args_list_extend_2 _ _) (SLx.ext_tup l its.toArray n b its2.toArray n2 dd sl lg (by omega) (by omega)) ⟨e, ho, ?_⟩
  refine ⟨.non, _, J.lset (its' := its ++ its2) hH e (by simp) (r.append r2) ?_, rfl, q⟩
  rw [List.length_append, sizeLine_eq]
  omega
/-- extend by data: a list or a tuple -/
def mExt : OpM := fun x ws st => match x, ws with
  | .cell k, [u] => match st[k]?, tupW st u with
    | some (.lst vs), some us => if vs.length + us.length ≤ 1000000 then .ok .non (st.set k (.lst (vs ++ us))) else .bad
    | some (.lst _), none => mExtend x ws st
    | _, _ => .bad
  | _, _ => .bad
theorem mt_ext : MtM X "list.extend" (fun x vs H Q => rExtend x vs H Q ∨ rExtT X.K x vs H Q) := by
  intro pins s σ H x vs v us Q J rx rv hq
  rcases hq with hq | hq
  · exact mt_extend pins s σ H x vs v us Q J rx rv hq
  · exact mt_extT pins s σ H x vs v us Q J rx rv hq
theorem os_ext : OpMS X mExt (fun x vs H Q => rExtend x vs H Q ∨ rExtT X.K x vs H Q) := by
  intro Wx hid μ st σ H Q w ws x vs k rx rs P
  unfold mExt at P
  split at P
  · rename_i n u
    split at P
    · rename_i zs us e1 e2
      split at P
      · rename_i hz
        obtain ⟨v, rfl, r1⟩ := reps1 (ws := []) rs
        obtain ⟨a, rfl, h3, xs, h4, h5⟩ := k.cell e1 rx
        obtain ⟨b, ys, rfl, h1, h2⟩ := tupW_at k e2 r1
        refine .inr ⟨a, b, xs, ys, rfl, rfl, h4, h1, by rw [← h5.length, ← h2.length]; exact hz, ?_⟩
        obtain ⟨k2, g2⟩ := k.setCell (c' := .lst (zs ++ us)) (o := .lst (xs ++ ys)) h3 e1 rfl rfl ⟨_, upd_same, h5.append h2⟩
        exact P μ _ _ k2 g2 rep_non
      · exact P.elim
    · exact .inl (os_extend Wx hid μ st σ H Q _ _ x vs k rx rs P)
    · exact P.elim
  · exact P.elim
end
end SL

/-! # max, min of a tuple of ints -/
namespace SLt
open PySem PySem.Spec PyProof.Rows
section
variable {prog : Program} {w : World} {A : Around} {E : Value → Shared → Prop} {s : Shared}
theorem iter_tupInts {t : Addr} {xs : Array (Int × Tok)} {Q : Value → Shared → Prop} (ht : s.heap.IsTuple t (intItems xs))
    (h : ∀ s2 : Shared, s2 = { s with heap := s.heap.push { cls := .type "tuple_iterator", data := .fields #[.ref t, .int 0 0] } } → (s2.heap.IsTupleIter s.heap.objs.size t 0 ∧ s2.heap.IsTuple t (intItems xs)) → (∀ b ∈ [s.heap.objs.size, t], b < s2.heap.objs.size) → t ≠ s.heap.objs.size → Q (.ref s.heap.objs.size) s2) :
    wpAny (model prog w) A (pyIter (.ref t)) Q E s := by
  have hlt : t < s.heap.objs.size := by obtain ⟨_, q, _⟩ := ht; exact Heap.lt_size q
  refine wpAny_pyIter_tuple ht (h _ rfl ⟨⟨_, Heap.get?_push_size _ rfl, rfl, rfl⟩, ht.at fun o q => Heap.get?_push_of_some _ q⟩ (fun b hb => ?_) (Nat.ne_of_lt hlt))
  show b < (s.heap.push _).objs.size
  rw [Heap.size_push]
  rcases List.mem_cons.mp hb with e | hb
  · subst e; exact Nat.lt_succ_self _
  · rcases List.mem_cons.mp hb with e | hb
    · subst e; exact Nat.lt_succ_of_lt hlt
    · cases hb
theorem max_tup {t : Addr} {its : List Value} {ns : List Int} {Q : Value → Shared → Prop} (hh : A.handled = none) (ht : s.heap.IsTuple t its.toArray) (hi : IntsAre its ns) (hne : 0 < ns.length)
    (h : ∀ h' tk M t', (∀ b o, s.heap.get? b = some o → h'.get? b = some o) → M ∈ ns → (∀ a, a ∈ ns → a ≤ M) → Q (.int M t') { s with heap := h', toks := tk }) : wpAny (model prog w) A (call (.builtin "max") [.ref t]) Q E s := by
  obtain ⟨xs, e⟩ := hi.allInts.items
  have en : numsOf (intItems xs).toList = ns := by rw [← e]; exact hi.numsOf
  rw [nums_intItems] at en
  subst en
  rw [e] at ht
  have hsz : 0 < xs.size := by simpa using hne
  refine call_max_walk (iter_tupInts ht fun s2 e2 st hfp hlI => ?_)
  subst e2
  refine ⟨_, _, _, _, _, _, _, rfl, Walks.tuple (A := A.in1) hh _ t hlI (intItems xs), st, hfp, by simpa [intItems] using hsz, CmpOf.ints_gt (numAt xs) (fun _ _ => intItems_at), fun v h' tk hP hk => ?_⟩
  have hv : (intItems xs)[argBest (fun i j => decide (numAt xs i > numAt xs j)) (xs.size - 1)]? = some v := by simpa [intItems] using hP
  obtain ⟨u, rfl⟩ := intItems_at hv
  obtain ⟨g1, g2⟩ := argBest_gt (numAt xs) (xs.size - 1)
  refine h h' tk _ u (fun b o eb => hk b o (fun z => by
    rcases List.mem_cons.mp z with z | z
    · subst z; exact Nat.lt_irrefl _ (Heap.lt_size eb)
    · cases z) (Heap.get?_push_of_some _ eb)) ?_ fun a ha => ?_
  · rw [numAt_eq]; exact PySem.getD_mem (by rw [List.length_map, Array.length_toList]; omega)
  · obtain ⟨j, hj, rfl⟩ := mem_getD ha
    rw [List.length_map, Array.length_toList] at hj
    rw [← numAt_eq]; exact g2 j (by omega)
theorem min_tup {t : Addr} {its : List Value} {ns : List Int} {Q : Value → Shared → Prop} (hh : A.handled = none) (ht : s.heap.IsTuple t its.toArray) (hi : IntsAre its ns) (hne : 0 < ns.length)
    (h : ∀ h' tk M t', (∀ b o, s.heap.get? b = some o → h'.get? b = some o) → M ∈ ns → (∀ a, a ∈ ns → M ≤ a) → Q (.int M t') { s with heap := h', toks := tk }) : wpAny (model prog w) A (call (.builtin "min") [.ref t]) Q E s := by
  obtain ⟨xs, e⟩ := hi.allInts.items
  have en : numsOf (intItems xs).toList = ns := by rw [← e]; exact hi.numsOf
  rw [nums_intItems] at en
  subst en
  rw [e] at ht
  have hsz : 0 < xs.size := by simpa using hne
  refine call_min_walk (iter_tupInts ht fun s2 e2 st hfp hlI => ?_)
  subst e2
  refine ⟨_, _, _, _, _, _, _, rfl, Walks.tuple (A := A.in1) hh _ t hlI (intItems xs), st, hfp, by simpa [intItems] using hsz, CmpOf.ints_lt (numAt xs) (fun _ _ => intItems_at), fun v h' tk hP hk => ?_⟩
  have hv : (intItems xs)[argBest (fun i j => decide (numAt xs i < numAt xs j)) (xs.size - 1)]? = some v := by simpa [intItems] using hP
  obtain ⟨u, rfl⟩ := intItems_at hv
  obtain ⟨g1, g2⟩ := argBest_lt (numAt xs) (xs.size - 1)
  refine h h' tk _ u (fun b o eb => hk b o (fun z => by
    rcases List.mem_cons.mp z with z | z
    · subst z; exact Nat.lt_irrefl _ (Heap.lt_size eb)
    · cases z) (Heap.get?_push_of_some _ eb)) ?_ fun a ha => ?_
  · rw [numAt_eq]; exact PySem.getD_mem (by rw [List.length_map, Array.length_toList]; omega)
  · obtain ⟨j, hj, rfl⟩ := mem_getD ha
    rw [List.length_map, Array.length_toList] at hj
    rw [← numAt_eq]; exact g2 j (by omega)
end
end SLt
namespace SL
open PySem PySem.Spec PyProof.Rows L2
section
variable {X : Cx}
def rMaxT (K : PySem.W.Frag) : List V → Hp → VK → Prop := fun vs H Q => ∃ (a : Addr) (ns : List Int), vs = [V.ref a] ∧ SqT K H a (ns.map V.int) ∧ 0 < ns.length ∧ ∀ m, m ∈ ns → (∀ y, y ∈ ns → y ≤ m) → Q (.int m) H
def rMinT (K : PySem.W.Frag) : List V → Hp → VK → Prop := fun vs H Q => ∃ (a : Addr) (ns : List Int), vs = [V.ref a] ∧ SqT K H a (ns.map V.int) ∧ 0 < ns.length ∧ ∀ m, m ∈ ns → (∀ y, y ∈ ns → m ≤ y) → Q (.int m) H
theorem cr_maxT (hc : X.calm = true) : CallR X (.builtin "max") (rMaxT X.K) := by
  intro pins s σ H vs us Q J r hq
  obtain ⟨a, ns, rfl, hs, hne, q⟩ := hq
  obtain ⟨its, rr, hT, _⟩ := J.tuple hs
  rw [Vals.ref1 r]
  exact SLt.max_tup (J.ok.hd hc) hT rr.ints hne fun h' tk m t' hk g1 g2 => ⟨.int _, H, J.kept hk, ⟨_, rfl⟩, q m g1 g2⟩
theorem cr_minT (hc : X.calm = true) : CallR X (.builtin "min") (rMinT X.K) := by
  intro pins s σ H vs us Q J r hq
  obtain ⟨a, ns, rfl, hs, hne, q⟩ := hq
  obtain ⟨its, rr, hT, _⟩ := J.tuple hs
  rw [Vals.ref1 r]
  exact SLt.min_tup (J.ok.hd hc) hT rr.ints hne fun h' tk m t' hk g1 g2 => ⟨.int _, H, J.kept hk, ⟨_, rfl⟩, q m g1 g2⟩
/-- the greatest, the least of a row of ints -/
def bestI (p : Int → Int → Bool) : List Int → Option Int
  | [] => none
  | a :: l => match bestI p l with
    | none => some a
    | some b => some (if p a b then a else b)
theorem best_max : ∀ {l : List Int} {m : Int}, bestI (fun a b => decide (b ≤ a)) l = some m → ∀ n ∈ l, (∀ y ∈ l, y ≤ n) → n = m
  | [], m, h, n, hn, _ => nomatch hn
  | a :: l, m, h, n, hn, hy => by
    unfold bestI at h
    cases e : bestI (fun a b => decide (b ≤ a)) l with
    | none =>
      rw [e] at h
      cases h
      cases l with
      | nil => exact List.mem_singleton.mp hn
      | cons b l =>
        unfold bestI at e
        split at e <;> cases e
    | some b =>
      rw [e] at h
      have hb : b ∈ l ∧ ∀ y ∈ l, y ≤ b := by
        have q : ∀ {l : List Int} {b : Int}, bestI (fun a b => decide (b ≤ a)) l = some b → b ∈ l ∧ ∀ y ∈ l, y ≤ b := by
          intro l
          induction l with
          | nil => intro b h; cases h
          | cons c l ih =>
            intro b h
            unfold bestI at h
            cases e : bestI (fun a b => decide (b ≤ a)) l with
            | none =>
              rw [e] at h
              cases h
              cases l with
              | nil => exact ⟨List.mem_cons_self, fun y hy => by rw [List.mem_singleton.mp hy]; exact Int.le_refl _⟩
              | cons d l =>
                unfold bestI at e
                split at e <;> cases e
            | some d =>
              rw [e] at h
              obtain ⟨h1, h2⟩ := ih e
              have h' : (if d ≤ c then c else d) = b := by simpa using h
              by_cases z : d ≤ c
              · rw [if_pos z] at h'
                subst h'
                refine ⟨List.mem_cons_self, fun y hy => ?_⟩
                rcases List.mem_cons.mp hy with hy | hy
                · rw [hy]; exact Int.le_refl _
                · exact Int.le_trans (h2 y hy) z
              · rw [if_neg z] at h'
                subst h'
                refine ⟨List.mem_cons_of_mem _ h1, fun y hy => ?_⟩
                rcases List.mem_cons.mp hy with hy | hy
                · rw [hy]; omega
                · exact h2 y hy
        exact q e
      have h' : (if b ≤ a then a else b) = m := by simpa using h
      by_cases z : b ≤ a
      · rw [if_pos z] at h'
        subst h'
        have g1 := hy a List.mem_cons_self
        rcases List.mem_cons.mp hn with e | e
        · exact e
        · have := hb.2 n e; omega
      · rw [if_neg z] at h'
        subst h'
        have g1 := hy b (List.mem_cons_of_mem _ hb.1)
        rcases List.mem_cons.mp hn with e | e
        · subst e; omega
        · have := hb.2 n e; omega
end
end SL

namespace SL
open PySem PySem.Spec PyProof.Rows L2
/-! # max(x), min(x), x a list or a tuple of ints -/
def IsMax (l : List Int) (m : Int) : Prop := m ∈ l ∧ ∀ y ∈ l, y ≤ m
def IsMin (l : List Int) (m : Int) : Prop := m ∈ l ∧ ∀ y ∈ l, m ≤ y
open Classical in
/-- the one that is so, if there is one -/
noncomputable def theOne (p : Int → Prop) : Option Int := if h : ∃ m, p m then some h.choose else none
theorem theOne_ok {p : Int → Prop} {m : Int} (h : theOne p = some m) : p m := by
  unfold theOne at h
  split at h
  · rename_i e
    cases h
    exact e.choose_spec
  · cases h
theorem theOne_is {p : Int → Prop} {m : Int} (h : p m) (u : ∀ k, p k → k = m) : theOne p = some m := by
  unfold theOne
  have e : ∃ m, p m := ⟨m, h⟩
  rw [dif_pos e, u _ e.choose_spec]
theorem max_one {l : List Int} {m k : Int} (h : IsMax l m) (g : IsMax l k) : k = m := by
  have a := h.2 k g.1
  have b := g.2 m h.1
  omega
theorem min_one {l : List Int} {m k : Int} (h : IsMin l m) (g : IsMin l k) : k = m := by
  have a := h.2 k g.1
  have b := g.2 m h.1
  omega
noncomputable def oBestX (P : List Int → Int → Prop) : OpN := fun ws st => match ws with
  | [x] => match (seqW st x).bind intsW with
    | some bs => match theOne (P bs) with
      | some m => .ok (.int m) st
      | none => .bad
    | none => .bad
  | _ => .bad
section
variable {X : Cx}
theorem os_maxX : OpNS X (oBestX IsMax) (fun vs H Q => rMax X.K vs H Q ∨ rMaxT X.K vs H Q) := by
  intro Wx hid μ st σ H Q ws vs k r P
  unfold oBestX at P
  split at P
  · rename_i x
    obtain ⟨v, rfl, r1⟩ := reps1 (ws := []) r
    split at P
    · rename_i bs e
      split at P
      · rename_i m em
        have g := theOne_ok em
        cases e1 : seqW st x with
        | none => rw [e1] at e; cases e
        | some us =>
          rw [e1] at e
          obtain ⟨a, xs, rfl, h1, h2⟩ := seqW_at k e1 r1
          rw [intsW_eq e] at h2
          rw [reps_ints h2] at h1
          have hne : 0 < bs.length := List.length_pos_of_mem g.1
          have fin : ∀ n, n ∈ bs → (∀ y, y ∈ bs → y ≤ n) → Q (.int n) H := fun n n1 n2 => by
            rw [max_one g ⟨n1, n2⟩]
            exact P μ H _ k .refl rep_int
          rcases h1 with h1 | h1
          · exact .inl ⟨a, bs, rfl, h1, hne, fin⟩
          · exact .inr ⟨a, bs, rfl, h1, hne, fin⟩
      · exact P.elim
    · exact P.elim
  · exact P.elim
theorem os_minX : OpNS X (oBestX IsMin) (fun vs H Q => rMin X.K vs H Q ∨ rMinT X.K vs H Q) := by
  intro Wx hid μ st σ H Q ws vs k r P
  unfold oBestX at P
  split at P
  · rename_i x
    obtain ⟨v, rfl, r1⟩ := reps1 (ws := []) r
    split at P
    · rename_i bs e
      split at P
      · rename_i m em
        have g := theOne_ok em
        cases e1 : seqW st x with
        | none => rw [e1] at e; cases e
        | some us =>
          rw [e1] at e
          obtain ⟨a, xs, rfl, h1, h2⟩ := seqW_at k e1 r1
          rw [intsW_eq e] at h2
          rw [reps_ints h2] at h1
          have hne : 0 < bs.length := List.length_pos_of_mem g.1
          have fin : ∀ n, n ∈ bs → (∀ y, y ∈ bs → n ≤ y) → Q (.int n) H := fun n n1 n2 => by
            rw [min_one g ⟨n1, n2⟩]
            exact P μ H _ k .refl rep_int
          rcases h1 with h1 | h1
          · exact .inl ⟨a, bs, rfl, h1, hne, fin⟩
          · exact .inr ⟨a, bs, rfl, h1, hne, fin⟩
      · exact P.elim
    · exact P.elim
  · exact P.elim
theorem cr_maxX (hc : X.calm = true) : CallR X (.builtin "max") (fun vs H Q => rMax X.K vs H Q ∨ rMaxT X.K vs H Q) := (cr_max hc).or (cr_maxT hc)
theorem cr_minX (hc : X.calm = true) : CallR X (.builtin "min") (fun vs H Q => rMin X.K vs H Q ∨ rMinT X.K vs H Q) := (cr_min hc).or (cr_minT hc)
end
end SL

namespace SL
open PySem PySem.Spec PyProof.Rows L2
/-! ## != of own instances: object.__ne__ asks the own __eq__ -/
section
variable {prog : Program} {w : World} {A : Around} {E : Value → Shared → Prop} {s : Shared} {K : PySem.W.Frag} {x y C f : Addr} {ox oy : Obj} {od od2 : Option Obj}
theorem ne_bound {M : Model} {args : List Value} {Q : Option Value → Shared → Prop} (hK : K.In s.heap) (I : PySem.W.InstAt s.heap x ox C od) (hs : PySem.W.findIn K (.ref C) "__ne__" = some (some (.builtin "object.__ne__")))
    (h : wpAny M A (call (.builtin "object.__ne__") (.ref x :: args)) (fun v => Q (some v)) E s) : wpAny M A (callSpecialIfBound? (.ref x) "__ne__" args) Q E s := by
  have last : wpAny M A (call (.builtin "object.__ne__") ([.ref x] ++ args) >>= fun v => pure (some v)) Q E s := wpAny_bind (wpAny_mono h (fun _ _ z => wpAny_pure z) fun _ _ z => z)
  simp only [callSpecialIfBound?, bindSpecialIfBound?]
  refine wpAny_holding (wpAny_bind ?_)
  refine wpAny_bind (wpAny_bind (I.type.here ((PySem.W.looks_findIn hK hs).here (wpAny_bind (wpAny_askSetting (wpAny_ite ?_))))))
  split
  · exact wpAny_bind (wpAny_of_eq (PySem.F.cmp_object.ne.bind _) (wpAny_pure (by exact last)))
  · exact wpAny_tryCatch (wpAny_bind (wpAny_of_eq (PySem.F.cmp_object.ne.bind _) (wpAny_pure (by exact last))))
theorem ne_entry (hK : K.In s.heap) (I : PySem.W.InstAt s.heap x ox C od) (hu : A.units < cLine) (he : PySem.W.findIn K (.ref C) "__eq__" = some (some (.ref f))) (hf : PySem.W.isFn K (.ref f) = true) {Q : Fin → Shared → Prop}
    (h : wpAny (model prog w) A (call (.ref f) [.ref x, .ref y]) (fun v s' => ∃ b, v = .bool b ∧ Q (.done (.ret (.bool (!b)))) s') E s) : wpAny (model prog w) A (Builtin.«object.__ne__» ⟨[.ref x, .ref y], []⟩) Q E s := by
  unfold Builtin.«object.__ne__»
  repeat (first
    | with_reducible refine wpAny_cRoomFor hu ?_
    | (refine wpAny_bind (m := callSpecialIfBound? (.ref x) (Str.ofString "__eq__") [.ref y])
        (PySem.W.ifBound_K hK I he hf (wpAny_mono h (fun r s' z => by
          obtain ⟨b, rfl, q⟩ := z
          repeat (first | exact q | exact wpAny_pure q | exact wpAny_truthy_bool q | (refine wpAny_bind (m := truthy (.bool _)) (wpAny_truthy_bool ?_)) | wp_step)) fun _ _ z => z)))
    | wp_step)
theorem rc_ne (hu : A.units + 1 < cLine) (hK : K.In s.heap) (I : PySem.W.InstAt s.heap x ox C od) (J : PySem.W.InstAt s.heap y oy C od2) (hm : PySem.W.mroIn K C (.type "object") = some true)
    (hs : PySem.W.findIn K (.ref C) "__ne__" = some (some (.builtin "object.__ne__"))) (he : PySem.W.findIn K (.ref C) "__eq__" = some (some (.ref f))) (hf : PySem.W.isFn K (.ref f) = true) {Q : Value → Shared → Prop}
    (h : wpAny (model prog w) A.in1 (call (.ref f) [.ref x, .ref y]) (fun v s' => ∃ b, v = .bool b ∧ Q (.bool (!b)) s') E s) : wpAny (model prog w) A (richCompare .NotEq (.ref x) (.ref y)) Q E s := by
  have one : wpAny (model prog w) A (tryCompare (.ref x) "__ne__" (.ref y)) (fun r s' => ∃ v, r = some v ∧ Q v s') E s := by
    unfold tryCompare
    refine wpAny_bind (ne_bound hK I hs (wpAny_call (codeAny_call_builtin PySem.F.cmp_object.ne.plain PySem.F.cmpEntry_ne (PySem.W.check_slot PySem.F.cmpKind_ne PySem.F.cmpSplit_ne (I.type.andThen (PySem.W.looks_mroIn hK hm)) (PySem.F.cmpArgs_ne _ _)
      (ne_entry (A := A.in1) hK I hu he hf (wpAny_mono h (fun v s' z => ?_) fun _ _ z => z))))))
    obtain ⟨b, rfl, q⟩ := z
    exact ⟨b, rfl, wpAny_pure ⟨_, rfl, q⟩⟩
  simp only [richCompare, cmpInfo_NotEq, oneThing_ref]
  refine wpAny_holding (wpAny_bind (wpAny_cRoomFor (Nat.lt_of_succ_lt hu) (wpAny_bind (I.type.here (wpAny_bind (J.type.here ?_))))))
  rw [show (Value.ref C != Value.ref C) = false from by simp]
  simp only [Bool.false_eq_true, if_false]
  refine wpAny_bind (wpAny_pure ?_)
  simp only [Bool.false_eq_true, if_false]
  refine wpAny_bind (wpAny_mono one (fun r s' z => ?_) fun _ _ z => z)
  obtain ⟨v, rfl, q⟩ := z
  exact wpAny_pure q
end
structure NeIs (K : PySem.W.Frag) (mg : Str → Option Value) (c : Str) : Prop where
  ex : ∃ C : Addr, mg c = some (.ref C) ∧ PySem.W.findIn K (.ref C) "__ne__" = some (some (.builtin "object.__ne__")) ∧ PySem.W.mroIn K C (.type "object") = some true
def oNeO (c : Str) (F : Fn) : Op2 := fun x y st => match insW st x, insW st y with
  | some (d, _, _), some (e, _, _) => if d = c ∧ e = c then (match F [x, y] st with
    | .ok (.bl b) st1 => .ok (.bl (!b)) st1
    | _ => .bad) else .bad
  | none, none => oNe x y st
  | _, _ => .bad
def rOwnN (K : PySem.W.Frag) (mg : Str → Option Value) (C : Addr) (F : Fn) : R2 := fun x y H Q => ∃ a b dx dy fs gs, x = .ref a ∧ y = .ref b ∧ H a = some (.ins C dx fs) ∧ H b = some (.ins C dy gs) ∧ spF K mg 2 F [x, y] H (fun v H2 => ∃ t, v = .bl t ∧ Q (.bl (!t)) H2) fun _ _ _ => False
section
variable {X : Cx} {Wx : Wish}
theorem op_ownN {k : Nat} {C g : Addr} {fd : FuncData} {ps : List Str} {F : Fn} (G : FnOk X.prog X.w X.K X.mg X.base (L2.CX X.prog X.w) k g fd ps (spF X.K X.mg 2 F)) (he : PySem.W.findIn X.K (.ref C) "__eq__" = some (some (.ref g))) (hf : PySem.W.isFn X.K (.ref g) = true) (B : Binds X.K fd ps []) (hs : PySem.W.findIn X.K (.ref C) "__ne__" = some (some (.builtin "object.__ne__"))) (hm : PySem.W.mroIn X.K C (.type "object") = some true) (hr : Room (k + 1) X.A) :
    OpR X (compareOp .NotEq) (rOwnN X.K X.mg C F) := by
  intro pins s σ H x y v u Q J rx ry hq
  obtain ⟨a, b, dx, dy, fs, gs, rfl, rfl, h1, h2, q⟩ := hq
  cases rx
  cases ry
  show wpAny (model X.prog X.w) X.A (richCompare .NotEq (.ref a) (.ref b)) (EP X pins σ Q) X.xe s
  obtain ⟨mA, i1, _⟩ := ins_get J.hok h1
  obtain ⟨mB, i2, _⟩ := ins_get J.hok h2
  obtain ⟨oa, i1, _⟩ := i1.look
  obtain ⟨ob, i2, _⟩ := i2.look
  have hu : X.A.units + 1 < cLine := by have := hr.un; omega
  refine rc_ne hu J.kIn i1 i2 hm hs he hf ?_
  have ll := G.len _ _ _ _ q
  have rr : Vals [V.ref a, V.ref b] [Value.ref a, Value.ref b] := .cons rfl (.cons rfl .nil)
  have bb := B s [.ref a, .ref b] J.kIn (by rw [List.append_nil]; exact ll)
  rw [List.append_nil] at bb
  have e0 : Env0 X.prog X.w X.K X.mg X.base X.A.in1 X.stack s H := by
    have e := J.env0
    exact ⟨e.frames, e.mod, e.bs, e.bsz, e.funs, e.frf, e.hok, e.bare⟩
  refine wpAny_call (codeAny_mono (G.run X.A.in1 X.stack s H ⟨[.ref a, .ref b], []⟩ [.ref a, .ref b] [.ref a, .ref b] _ _ hr.in1 e0 bb rr q) fun o s' z => ?_)
  cases o with
  | error e =>
    obtain ⟨_, _, _, _, _, _, _, _, _, _, _, _, z⟩ := z
    exact z.elim
  | ok fl =>
    cases fl with
    | ret w =>
      obtain ⟨t, H', J', rz, ⟨b, ez, ex⟩⟩ := J.after z
      subst ez
      cases rz
      exact ⟨b, rfl, .bl (!b), H', J', rfl, ex⟩
    | next => exact False.elim z
    | brk => exact False.elim z
    | cont => exact False.elim z
theorem os_neO {A : Addr} {c : Str} {F : Fn} (hm : X.mg c = some (.ref A)) : Op2S X (oNeO c F) (fun x y H Q => rNeD X.K x y H Q ∨ rOwnN X.K X.mg A F x y H Q) := by
  intro Wx' hid μ st σ H Q w u x y k1 rx ry P
  unfold oNeO at P
  split at P
  · rename_i d n1 w1 e n2 w2 h1 h2
    split at P
    · rename_i hde
      obtain ⟨rfl, rfl⟩ := hde
      obtain ⟨p, D, dx, us, rfl, g1, g2, g3, g4⟩ := insW_at k1 h1 rx
      obtain ⟨q, D', dy, us', rfl, g1', g2', g3', g4'⟩ := insW_at k1 h2 ry
      rw [hm] at g1 g1'
      cases g1
      cases g1'
      refine .inr ⟨p, q, dx, dy, _, _, rfl, rfl, g3, g3', hid, μ, st, [w, u], rfl, k1, .cons rx (.cons ry .nil), ?_⟩
      cases z : F [w, u] st with
      | bad => rw [z] at P; exact P.elim
      | err e s => rw [z] at P; exact P.elim
      | ok r st1 =>
        rw [z] at P
        cases r with
        | bl t =>
          intro μ' H' v k' g' rv
          exact ⟨t, rep_bl_inv rv, P μ' H' _ k' g' rep_bl⟩
        | _ => exact P.elim
    · exact P.elim
  · exact .inl (os_ne _ hid μ st σ H Q w u x y k1 rx ry P)
  · exact P.elim
theorem op_neO {k j : Nat} {A g : Addr} {c : Str} {F : Fn} {fd : FuncData} {ps : List Str} (C : Ctx X Wx j) (hk : k + 1 ≤ j) (N : NeIs X.K X.mg c) (hm : X.mg c = some (.ref A)) (G : FnOk X.prog X.w X.K X.mg X.base (L2.CX X.prog X.w) k g fd ps (spF X.K X.mg 2 F)) (he : PySem.W.findIn X.K (.ref A) "__eq__" = some (some (.ref g))) (hf : PySem.W.isFn X.K (.ref g) = true) (B : Binds X.K fd ps []) :
    OpR X (compareOp .NotEq) (fun x y H Q => rNeD X.K x y H Q ∨ rOwnN X.K X.mg A F x y H Q) := by
  obtain ⟨A2, hm2, hs, ho⟩ := N.ex
  rw [hm] at hm2
  cases hm2
  exact (op_neD C.room.units).or (op_ownN G he hf B hs ho (C.room.mono hk))
theorem ev_neO {k j : Nat} {c : Str} {F : Fn} {a b : Expr} {f g : Sem} {pos : Pos} (I : EqIs X.prog X.w X.K X.mg X.base c k F) (N : NeIs X.K X.mg c) (C : Ctx X Wx j) (hk : k + 1 ≤ j) (ha : EV X Wx a f) (hb : EV X Wx b g) (hmk : behindInMarks .NotEq b = false) : EV X Wx (.Compare a [.NotEq] [b] pos) (e2 (oNeO c F) f g) := by
  obtain ⟨A, ad, fd, ps, hm, G, he, hf, B⟩ := I.ex
  exact ev_cmp (op_neO C hk N hm G he hf B) (os_neO hm) ha hb hmk
theorem tv_neO {k j : Nat} {c : Str} {F : Fn} {a b : Expr} {f g : Sem} {pos : Pos} (I : EqIs X.prog X.w X.K X.mg X.base c k F) (N : NeIs X.K X.mg c) (C : Ctx X Wx j) (hk : k + 1 ≤ j) (ha : EV X Wx a f) (hb : EV X Wx b g) (hmk : behindInMarks .NotEq b = false) : TV X Wx (.Compare a [.NotEq] [b] pos) (bOf (e2 (oNeO c F) f g)) := by
  obtain ⟨A, ad, fd, ps, hm, G, he, hf, B⟩ := I.ex
  exact tv_cmp (op_neO C hk N hm G he hf B) (os_neO hm) ha hb hmk
theorem os_eqO {A : Addr} {c : Str} {F : Fn} (hm : X.mg c = some (.ref A)) : Op2S X (oEqO c F) (fun x y H Q => rEqD X.K x y H Q ∨ rOwn X.K X.mg A F x y H Q) := by
  intro Wx' hid μ st σ H Q w u x y k1 rx ry P
  unfold oEqO at P
  split at P
  · rename_i d n1 w1 e n2 w2 h1 h2
    split at P
    · rename_i hde
      obtain ⟨rfl, rfl⟩ := hde
      obtain ⟨p, D, dx, us, rfl, g1, g2, g3, g4⟩ := insW_at k1 h1 rx
      obtain ⟨q, D', dy, us', rfl, g1', g2', g3', g4'⟩ := insW_at k1 h2 ry
      rw [hm] at g1 g1'
      cases g1
      cases g1'
      refine .inr ⟨p, q, dx, dy, _, _, rfl, rfl, g3, g3', hid, μ, st, [w, u], rfl, k1, .cons rx (.cons ry .nil), ?_⟩
      cases z : F [w, u] st with
      | bad => rw [z] at P; exact P.elim
      | err e s => rw [z] at P; exact P.elim
      | ok r st1 =>
        rw [z] at P
        cases r with
        | bl t =>
          intro μ' H' v k' g' rv
          exact ⟨⟨t, rep_bl_inv rv⟩, P μ' H' _ k' g' rv⟩
        | _ => exact P.elim
    · exact P.elim
  · exact .inl (os_eq _ hid μ st σ H Q w u x y k1 rx ry P)
  · exact P.elim
theorem tv_eqO {k j : Nat} {c : Str} {F : Fn} {a b : Expr} {f g : Sem} {pos : Pos} (I : EqIs X.prog X.w X.K X.mg X.base c k F) (C : Ctx X Wx j) (hk : k ≤ j) (ha : EV X Wx a f) (hb : EV X Wx b g) (hmk : behindInMarks .Eq b = false) : TV X Wx (.Compare a [.Eq] [b] pos) (bOf (e2 (oEqO c F) f g)) := by
  obtain ⟨A, ad, fd, ps, hm, G, he, hf, B⟩ := I.ex
  exact tv_cmp ((op_eqD C.room.units).or (op_own G he hf B (C.room.mono hk))) (os_eqO hm) ha hb hmk
end
end SL

/-! # sorted of a tuple of ints; a list, times an int -/
namespace SLs
open PySem PySem.Spec PyProof.Rows Srt SrtO
section
variable {prog : Program} {w : World} {A : Around} {E : Value → Shared → Prop} {s : Shared}
theorem collect_tupL {t : Addr} {us : List Value} {Q : List Value → Shared → Prop} (ht : s.heap.IsTuple t us.toArray) (hu : us.length ≤ sizeLine)
    (hQ : Q us { s with heap := (s.heap.push (seqObj "list" #[] 0)).update s.heap.objs.size (Obj.mapSeq (· ++ us.toArray)) }) : wpAny (model prog w) A (collect (.ref t)) Q E s := by
  obtain ⟨ob, g1, g2, g3, g4⟩ := id ht
  have g1' : (s.heap.push (seqObj "list" #[] 0)).get? t = some ob := Heap.get?_push_of_some _ g1
  have gN : (s.heap.push (seqObj "list" #[] 0)).get? s.heap.objs.size = some (seqObj "list" #[] 0) := Heap.get?_push_size _ rfl
  have tt : (Value.type "tuple" == Value.type "tuple") = true := by rfl
  unfold collect
  refine wpAny_bind (wpAny_runValue (codeAny_builtin entry_proto_collect' ?_))
  show wpAny _ _ (newList [] >>= fun l => again (.builtin "list.__iadd__" ⟨[l, .ref t], []⟩)) _ _ s
  refine wpAny_bind (wpAny_newList (wpAny_pure ⟨Code.quiet_builtin _ (by decide +kernel), codeAny_builtin entry_list_iadd' ?_⟩))
  show wpAny _ _ (Builtin.List.listExtendWith (.ref s.heap.objs.size) (.ref t) (.ref s.heap.objs.size)) _ _ { s with heap := s.heap.push (seqObj "list" #[] 0) }
  unfold Builtin.List.listExtendWith
  refine wpAny_bind (wpAny_typeOf (T := "tuple") ⟨ob, g1', g2⟩ ?_)
  rw [if_pos (by rw [tt]; simp)]
  refine wpAny_bind (listItems_at g1' g4 (wpAny_bind (listItems_at (xs := #[]) (n := 0) gN rfl ?_)))
  rw [if_neg (by simp)]
  refine wpAny_bind (listUpdate_at (xs := #[]) (n := 0) gN rfl (wpAny_pure ?_) (Nat.zero_le _) (by show (#[] ++ us.toArray).size ≤ sizeLine + 1; simp only [Array.size_append, List.size_toArray, List.length_nil]; omega))
  show wpAny (model prog w) A (load s.heap.objs.size >>= fun o => match o.data with
      | .seq xs _ => pure xs.toList
      | _ => unsupported "internal:collect") Q E { s with heap := (s.heap.push (seqObj "list" #[] 0)).update s.heap.objs.size (Obj.mapSeq (· ++ us.toArray)) }
  refine wpAny_bind (wpAny_load (get?_update_seq gN _) ?_)
  show wpAny _ _ (pure ((#[] : Array Value) ++ us.toArray).toList) Q E _
  rw [show ((#[] : Array Value) ++ us.toArray).toList = us by simp]
  exact wpAny_pure hQ
theorem sorted_tupO {t : Addr} {us : List Value} {lt0 : Value → Value → Bool} {Q : Value → Shared → Prop} (O : Swo lt0) (ht : s.heap.IsTuple t us.toArray) (hu : us.length ≤ sizeLine)
    (hS : 2 ≤ us.length → ∀ (g : Heap) (a : Addr), SortableO prog w A.in1.in1 { s with heap := g } a us lt0)
    (hQ : ∀ out : List Value, Srtd lt0 out → Stb lt0 out us → Q (.ref (s.heap.objs.size + 1)) { s with heap := sortedAll s.heap us out.toArray }) :
    wpAny (model prog w) A (call (.builtin "sorted") [.ref t]) Q E s := by
  have z1 : ((s.heap.push (seqObj "list" #[] 0)).update s.heap.objs.size (Obj.mapSeq (· ++ us.toArray))).objs.size = s.heap.objs.size + 1 := by rw [Heap.size_update, size_push']
  have z2 : (((s.heap.push (seqObj "list" #[] 0)).update s.heap.objs.size (Obj.mapSeq (· ++ us.toArray))).push (seqObj "list" us.toArray 0)).get? (s.heap.objs.size + 1) = some (seqObj "list" us.toArray 0) := by rw [← z1]; exact Heap.get?_push_size _ rfl
  refine Calls.call_function_entry kind_sorted plain_sorted entry_sorted (args_sorted1 _) ?_
  unfold Builtin.«sorted»
  refine wpAny_bind (m := checkCount "sorted" 1 1 _) (wpAny_pure (wpAny_bind (collect_tupL ht hu (wpAny_bind (wpAny_newList ?_ hu)))))
  show wpAny _ _ _ _ _ { s with heap := ((s.heap.push (seqObj "list" #[] 0)).update s.heap.objs.size (Obj.mapSeq (· ++ us.toArray))).push (seqObj "list" us.toArray 0) }
  rw [z1]
  refine wpAny_bind (wpAny_holding (wpAny_call_entry slot_list_sort ⟨_, z2, rfl⟩ entry_list_sort (list_sort_ord O z2 hu (fun h2 => hS h2 _ _) fun out a1 a2 => ⟨_, rfl, ?_⟩) (args_list_sort _)))
  exact wpAny_pure ⟨_, rfl, hQ out a1 a2⟩
end
end SLs
namespace SL
open PySem PySem.Spec PyProof.Rows L2
def rSortIT (K : PySem.W.Frag) : List V → Hp → VK → Prop := fun vs H Q => ∃ (a : Addr) (ns : List Int), vs = [V.ref a] ∧ SqT K H a (ns.map V.int) ∧
  ∀ (ms : List Int) (p : Addr), ms.Perm ns → ms.Pairwise (· ≤ ·) → H p = none → Q (.ref p) (upd H p (.lst (ms.map V.int)))
def sortI (ns : List Int) : List Int := ns.mergeSort fun a b => decide (a ≤ b)
theorem sortI_of {ms ns : List Int} (p : ms.Perm ns) (h : ms.Pairwise (· ≤ ·)) : ms = sortI ns := by
  refine one_order (p.trans (List.mergeSort_perm ns _).symm) h ?_ fun a _ b _ h1 h2 => Int.le_antisymm h1 h2
  have z := List.pairwise_mergeSort (le := fun a b : Int => decide (a ≤ b)) (fun a b c h1 h2 => by simp at h1 h2 ⊢; omega) (fun a b => by simp; omega) ns
  exact z.imp fun {a b} h => of_decide_eq_true h
noncomputable def oSortX : OpN := fun ws st => match ws with
  | [x] => match (seqW st x).bind intsW with
    | some ns => .ok (.lst ((sortI ns).map .int)) st
    | none => oSortT ws st
  | _ => .bad
noncomputable def oMulL : Op2 := fun x y st => match x, y with
  | .lst ws, .int k => if dec (-1000 ≤ k ∧ k ≤ 1000 ∧ ws.length ≤ 1000) = true then .ok (.lst (List.replicate k.toNat ws).flatten) st else .bad
  | x, y => oMulX x y st
section
variable {X : Cx}
theorem cr_sortIT : CallR X (.builtin "sorted") (rSortIT X.K) := by
  intro pins s σ H vs us Q J r hq
  obtain ⟨a, ns, rfl, hs, q⟩ := hq
  obtain ⟨its, rr, hT, hz⟩ := J.tuple hs
  rw [Vals.ref1 r]
  have ii := rr.ints
  refine SLs.sorted_tupO SrtO.swo_int hT (by rw [← rr.length]; exact hz) (fun h2 g b => SrtO.ints_sortable ii h2) fun out a1 a2 => ?_
  obtain ⟨b1, b2, b3⟩ := SrtO.ints_out ii a1 a2
  obtain ⟨n, hn⟩ := sortedAll_at s.heap its out.toArray
  have hl : ((out.map SrtO.iv).map V.int).length ≤ sizeLine := by
    rw [List.length_map, b2.length_eq]
    rwa [List.length_map] at hz
  exact ⟨.ref _, upd H (s.heap.objs.size + 1) (.lst ((out.map SrtO.iv).map V.int)), J.laid (t' := s.toks) (fun _ _ => sortedAll_old) (Nat.le_succ _) ⟨hl, out, n, vals_of_ints b1, hn⟩, rfl, q _ _ b2 b3 (J.hok.fresh (Nat.le_succ _))⟩
def rSortX (K : PySem.W.Frag) : List V → Hp → VK → Prop := fun vs H Q => (rSortedI K vs H Q ∨ rSortIT K vs H Q) ∨ rSortAny K vs H Q
theorem cr_sortX : CallR X (.builtin "sorted") (rSortX X.K) := (cr_sortedI.or cr_sortIT).or cr_sortAny
theorem os_sortX : OpNS X oSortX (rSortX X.K) := by
  intro Wx hid μ st σ H Q ws vs k r P
  unfold oSortX at P
  split at P
  · rename_i x
    split at P
    · rename_i ns e
      obtain ⟨v, rfl, r1⟩ := reps1 (ws := []) r
      cases e1 : seqW st x with
      | none => rw [e1] at e; cases e
      | some us =>
        rw [e1] at e
        obtain ⟨a, xs, rfl, h1, h2⟩ := seqW_at k e1 r1
        rw [intsW_eq e] at h2
        rw [reps_ints h2] at h1
        have q : ∀ (ms : List Int) (p : Addr), ms.Perm ns → ms.Pairwise (· ≤ ·) → H p = none → Q (.ref p) (upd H p (.lst (ms.map V.int))) := fun ms p pm sr hp => by
          rw [sortI_of pm sr]
          exact ok_new P k hp fun F l e => rep_lst e (ro_reps _)
        rcases h1 with h1 | h1
        · exact .inl (.inl ⟨a, ns, rfl, h1, q⟩)
        · exact .inl (.inr ⟨a, ns, rfl, h1, q⟩)
    · exact .inr (os_sortT _ hid μ st σ H Q _ vs k r P)
  · exact P.elim
theorem or_mulL : OpR X (binaryOp .Mult) (fun x y H Q => rRep x y H Q ∨ rMulX X.K x y H Q) := op_rep.or or_mulX
theorem os_mulL : Op2S X oMulL (fun x y H Q => rRep x y H Q ∨ rMulX X.K x y H Q) := by
  intro Wx hid μ st σ H Q w u x y k rx ry P
  unfold oMulL at P
  split at P
  · rename_i ws m
    cases rep_int_inv ry
    split at P
    · rename_i hg
      obtain ⟨g1, g2, g3⟩ := dec_of hg
      obtain ⟨a, vs, rfl, h1, h2⟩ := rep_lst_inv rx
      have hl := h2.length
      refine .inl ⟨a, m, vs, rfl, rfl, Fz.le.lst h1, by omega, by omega, ?_, fun p hp => ok_new P k hp fun F l e => rep_lst e (reps_rep (h2.mono l (.refl _)) _)⟩
      have : vs.length * m.toNat ≤ 1000 * 1000 := Nat.mul_le_mul (by omega) (by omega)
      rw [sizeLine_eq]; omega
    · exact P.elim
  · exact .inr (os_mulX _ hid μ st σ H Q _ _ _ _ k rx ry P)
end
end SL

namespace SL
open PySem PySem.Spec PyProof.Rows L2
/-! ## a, b = a list or a tuple -/
def gTl (n : Nat) (r : TgsF) : TgF := fun w fr st => match seqW st w with
  | some ws => if ws.length = n then r ws fr st else none
  | none => none
section
variable {X : Cx} {Wx : Wish}
theorem pg_two {es : List Expr} {k n : Nat} {t : TGs} {pos : Pos} (hc : X.calm = true) (h : PGs X es t) (hn : (assignEach es X.env).length = n) (hst : (assignEach es X.env).findIdx? (·.1) = none) :
    PG X (.Tuple es k pos) (fun v σ H Q => gTup X.K n t v σ H Q ∨ gUnl X.K n t v σ H Q) :=
  ⟨fun pins s σ H v u Q I r q => q.elim (fun q => (pg_tup hc h hn hst).run pins s σ H v u Q I r q) fun q => (pg_unl hc h hn hst).run pins s σ H v u Q I r q⟩
theorem gv_tl {es : List Expr} {k n : Nat} {r : TgsF} {sl : List Nat} {pos : Pos} (hc : X.calm = true) (h : GsV X Wx es r sl) (hn : (assignEach es X.env).length = n := by rfl) (hst : (assignEach es X.env).findIdx? (·.1) = none := by rfl) : GV X Wx (.Tuple es k pos) (gTl n r) sl :=
  PGm (pg_two hc h hn hst) fun v σ H Q ⟨μ, st, hid, fr, w, fr', S, rr, e, q⟩ => by
    unfold gTl at e
    split at e
    · rename_i ws e1
      split at e
      · rename_i hl
        obtain ⟨a, vs, rfl, h1, h2⟩ := seqW_at S.sto e1 rr
        rcases h1 with h1 | h1
        · exact .inr ⟨a, vs, rfl, h1, by rw [← h2.length]; exact hl, μ, st, hid, fr, ws, fr', S, h2, e, q⟩
        · exact .inl ⟨a, vs, rfl, h1, by rw [← h2.length]; exact hl, μ, st, hid, fr, ws, fr', S, h2, e, q⟩
      · cases e
    · cases e
end
end SL

/-! # enumerate of a tuple -/
namespace SLe
open PySem Builtin
open AutoSeq1 (wpAny_loadPart')
section
variable {prog : Program} {w : World} {A : Around} {E : Value → Shared → Prop} {s : Shared}
theorem nextT_item {it l : Addr} {i : Nat} {items} {x : Value} {Q : Value → Shared → Prop} (zit : s.heap.IsTupleIter it l i)
    (zl : s.heap.IsTuple l items) (zx : items[i]? = some x)
    (zQ : ∀ m', m'.IsTupleIter it l (i + 1) → Heap.SameBut it s.heap m' → Q x { s with heap := m' }) :
    wpAny (model prog w) A (Builtin.SmallTypes.nextOf (.ref it)) Q E s := by
  obtain ⟨o, zo, zc, zd⟩ := id zit
  obtain ⟨zob, zol, _, zn, zdl⟩ := zl
  unfold Builtin.SmallTypes.nextOf
  refine wpAny_bind (wpAny_callSpecial?_slot (name := Str.ofString "__next__") zit.typeIs F.slot_tuple_iterator_next
    (wpAny_call_entry F.slot_tuple_iterator_next zit.typeIs F.entry_tuple_iterator_next ?_ (F.args_tuple_iterator_next_1 _)))
  show wpAny _ _ (field (.ref it) 0 >>= _) _ _ s
  refine wpAny_bind (wpAny_field zo zd (x := .ref l) rfl ?_)
  show wpAny _ _ (if (Value.ref l == Value.none) = true then _ else _) _ _ s
  rw [if_neg (show ¬ ((Value.ref l == Value.none) = true) from Bool.false_ne_true)]
  show wpAny _ _ (field (.ref it) 1 >>= _) _ _ s
  refine wpAny_bind (wpAny_field zo zd (x := .int i 0) rfl ?_)
  show wpAny _ _ (seqItems? (.ref l) >>= _) _ _ s
  refine wpAny_bind (wpAny_seqItems zol zdl ?_)
  simp only [Int.toNat_natCast, zx]
  refine wpAny_bind (wpAny_setField zo zd (by simp) (wpAny_pure ⟨x, rfl, wpAny_pure (zQ _ ?_ (Heap.SameBut.update ..))⟩))
  exact ⟨_, Heap.get?_update_self _ zo (Obj.isFreed_of_fields (Obj.data_mapFields zd _)), (Obj.cls_mapFields ..).trans zc, by
    rw [Obj.data_mapFields zd]; simp [rawInt]⟩

theorem nextT_end {it l : Addr} {i : Nat} {items} {Q : Value → Shared → Prop} (zh : A.handled = none)
    (zit : s.heap.IsTupleIter it l i) (zl : s.heap.IsTuple l items) (zx : items[i]? = none)
    (zE : ∀ m' e, Heap.ExtBut it s.heap m' → (∃ o, m'.get? e = some o ∧ o.cls = .type "StopIteration") → E (.ref e) { s with heap := m' }) :
    wpAny (model prog w) A (Builtin.SmallTypes.nextOf (.ref it)) Q E s := by
  obtain ⟨o, zo, zc, zd⟩ := id zit
  obtain ⟨zob, zol, _, zn, zdl⟩ := zl
  unfold Builtin.SmallTypes.nextOf
  refine wpAny_bind (wpAny_callSpecial?_slot (name := Str.ofString "__next__") zit.typeIs F.slot_tuple_iterator_next
    (wpAny_call_entry F.slot_tuple_iterator_next zit.typeIs F.entry_tuple_iterator_next ?_ (F.args_tuple_iterator_next_1 _)))
  show wpAny _ _ (field (.ref it) 0 >>= _) _ _ s
  refine wpAny_bind (wpAny_field zo zd (x := .ref l) rfl ?_)
  show wpAny _ _ (if (Value.ref l == Value.none) = true then _ else _) _ _ s
  rw [if_neg (show ¬ ((Value.ref l == Value.none) = true) from Bool.false_ne_true)]
  show wpAny _ _ (field (.ref it) 1 >>= _) _ _ s
  refine wpAny_bind (wpAny_field zo zd (x := .int i 0) rfl ?_)
  show wpAny _ _ (seqItems? (.ref l) >>= _) _ _ s
  refine wpAny_bind (wpAny_seqItems zol zdl ?_)
  simp only [Int.toNat_natCast, zx]
  refine wpAny_bind (wpAny_rule (wpAny_bind (wpAny_setField zo zd (by simp) ?_)))
  show wpAny _ _ (newExc (.type "StopIteration") [] >>= _) _ _ _
  refine wpAny_bind ?_
  simp only [newExc, newTuple]
  refine wpAny_bind (wpAny_newObj_type ?_ (by size_fits))
  refine wpAny_bind (m := firstArgMember _ _) (wpAny_of_eq (a := Value.none) (by first | rfl | (simp only [firstArgMember]; rfl)) ?_)
  refine wpAny_newObj_type ?_ (by size_fits)
  simp only [raiseNew]
  refine wpAny_bind (wpAny_handled ?_)
  first | rw [show A.in1.handled = none from zh] | rw [zh]
  refine wpAny_bind (wpAny_pure (wpAny_throw ?_))
  exact zE _ _ (((Heap.SameBut.update ..).extBut.push _).push _) ⟨_, Heap.get?_push_size _ rfl, rfl⟩

theorem enumT_next {e it l : Addr} {i : Nat} {items : Array Value} {x was : Value} {Q : Value → Shared → Prop}
    (ze : IsEnum s.heap e it i was) (zit : s.heap.IsTupleIter it l i) (zl : s.heap.IsTuple l items) (zx : items[i]? = some x) (zne : e ≠ it)
    (zQ : ∀ m', IsEnumOut m' e it ((i : Int) + 1) x s.heap.objs.size → m'.IsTupleIter it l (i + 1) →
      m'.get? s.heap.objs.size = some { cls := .type "tuple", data := .seq #[.int i s.toks, x] } → m'.objs.size = s.heap.objs.size + 1 →
      (∀ b o, b ≠ e → b ≠ it → s.heap.get? b = some o → m'.get? b = some o) → Q (.ref s.heap.objs.size) { s with heap := m', toks := s.toks + 1 }) :
    wpAny (model prog w) A (Builtin.«enumerate.__next__» ⟨[.ref e], []⟩) (fun fin s' => ∃ v, fin = .done (.ret v) ∧ Q v s') E s := by
  obtain ⟨zp, g, d, tk, os⟩ := s
  show wpAny _ _ (field (.ref e) 2 >>= _) _ _ _
  refine wpAny_bind (wpAny_field ze rfl (x := .ref it) rfl ?_)
  refine wpAny_bind (nextT_item zit zl zx fun k1 zi1 zs1 => ?_)
  replace zs1 : Heap.SameBut it zp k1 := zs1
  have ze1 : IsEnum k1 e it i was := (zs1.2 e zne).trans ze
  show wpAny _ _ (field (.ref e) 3 >>= _) _ _ ⟨k1, g, d, tk, os⟩
  refine wpAny_bind (wpAny_field ze1 rfl (x := rawInt i) rfl ?_)
  show wpAny _ _ (field (.ref e) 4 >>= _) _ _ ⟨k1, g, d, tk, os⟩
  refine wpAny_bind (wpAny_field ze1 rfl (x := .none) rfl ?_)
  show wpAny _ _ (mkInt i >>= _) _ _ ⟨k1, g, d, tk, os⟩
  refine wpAny_bind (wpAny_mkInt ?_)
  show wpAny _ _ (setField (.ref e) 3 (rawInt ((i : Int) + 1)) >>= _) _ _ ⟨k1, g, d, tk + 1, os⟩
  refine wpAny_bind (wpAny_setField_rec ze1 (by simp) fun k2 ze2 zs2 => ?_)
  replace zs2 : Heap.SameBut e k1 k2 := zs2
  replace ze2 : IsEnum k2 e it ((i : Int) + 1) was := ze2
  show wpAny _ _ (setField (.ref e) 4 .none >>= _) _ _ ⟨k2, g, d, tk + 1, os⟩
  refine wpAny_bind (wpAny_setField_rec ze2 (by simp) fun k3 ze3 zs3 => ?_)
  replace zs3 : Heap.SameBut e k2 k3 := zs3
  replace ze3 : IsEnum k3 e it ((i : Int) + 1) was := ze3
  show wpAny _ _ (newTuple [.int i tk, x] >>= _) _ _ ⟨k3, g, d, tk + 1, os⟩
  refine wpAny_bind (wpAny_newTuple ?_)
  have ze4 : IsEnum (k3.push { cls := .type "tuple", data := .seq #[.int i tk, x] }) e it ((i : Int) + 1) was := Heap.get?_push_of_some _ ze3
  generalize zh4 : k3.push { cls := .type "tuple", data := .seq #[.int i tk, x] } = k4 at ze4
  have zsz : k3.objs.size = zp.objs.size := by rw [zs3.1, zs2.1, zs1.1]
  have zel : e < zp.objs.size := Heap.lt_size ze
  have zt4 : k4.get? zp.objs.size = some { cls := .type "tuple", data := .seq #[.int i tk, x] } := by rw [← zh4, ← zsz]; exact Heap.get?_push_size _ rfl
  have zz4 : k4.objs.size = zp.objs.size + 1 := by rw [← zh4, Heap.size_push, zsz]
  have zk4 : ∀ b o, b ≠ e → b ≠ it → zp.get? b = some o → k4.get? b = some o := fun b o zbe zbi zb => by
    rw [← zh4]; exact Heap.get?_push_of_some _ (zs3.extBut b o zbe (zs2.extBut b o zbe (zs1.extBut b o zbi zb)))
  have zi4 : k4.IsTupleIter it l (i + 1) := by
    rw [← zh4]; obtain ⟨o, zo, r⟩ := (zi1.extBut zs2.extBut (Ne.symm zne)).extBut zs3.extBut (Ne.symm zne); exact ⟨o, Heap.get?_push_of_some _ zo, r⟩
  show wpAny _ _ (Builtin.SmallTypes.ownedTupleIsFree (.ref e) >>= _) _ _ ⟨k4, g, d, tk + 1, os⟩
  rw [zsz]
  clear zh4 ze3 zs3 ze2 zs2 ze1 zs1 zi1 zsz k3 k2 k1
  refine wpAny_bind ?_
  · unfold Builtin.SmallTypes.ownedTupleIsFree
    refine wpAny_bind (wpAny_field ze4 rfl (x := .none) rfl (wpAny_pure ?_))
    simp only [if_true]
    refine wpAny_bind (wpAny_rule ?_)
    refine wpAny_bind (wpAny_field ze4 rfl (x := was) rfl ?_)
    refine wpAny_bind (wpAny_setField_rec ze4 (by simp) fun k5 ze5 zs5 => ?_)
    replace zs5 : Heap.SameBut e k4 k5 := zs5
    replace ze5 : IsEnum k5 e it ((i : Int) + 1) x := ze5
    show wpAny _ _ (Builtin.SmallTypes.ownedTupleHandOut (.ref e) (.ref zp.objs.size) >>= _) _ _ ⟨k5, g, d, tk + 1, os⟩
    refine wpAny_bind ?_
    · unfold Builtin.SmallTypes.ownedTupleHandOut
      refine wpAny_bind (wpAny_setField_rec ze5 (by simp) fun k6 ze6 zs6 => ?_)
      replace zs6 : Heap.SameBut e k5 k6 := zs6
      replace ze6 : IsEnumOut k6 e it ((i : Int) + 1) x zp.objs.size := ze6
      refine wpAny_setField_rec ze6 (by simp) fun k7 ze7 zs7 => ?_
      replace zs7 : Heap.SameBut e k6 k7 := zs7
      replace ze7 : IsEnumOut k7 e it ((i : Int) + 1) x zp.objs.size := ze7
      refine wpAny_bind (wpAny_letGo (wpAny_pure ⟨_, rfl, zQ k7 ze7 ?_ ?_ ?_ ?_⟩))
      · exact ((zi4.extBut zs5.extBut (Ne.symm zne)).extBut zs6.extBut (Ne.symm zne)).extBut zs7.extBut (Ne.symm zne)
      · exact zs7.extBut _ _ (Nat.ne_of_gt zel) (zs6.extBut _ _ (Nat.ne_of_gt zel) (zs5.extBut _ _ (Nat.ne_of_gt zel) zt4))
      · rw [zs7.1, zs6.1, zs5.1, zz4]
      · exact fun b o zbe zbi zb => zs7.extBut b o zbe (zs6.extBut b o zbe (zs5.extBut b o zbe (zk4 b o zbe zbi zb)))

theorem pyNextT_item {e it l : Addr} {i : Nat} {items : Array Value} {x was : Value} {Q : Option Value → Shared → Prop}
    (ze : IsEnum s.heap e it i was) (zit : s.heap.IsTupleIter it l i) (zl : s.heap.IsTuple l items) (zx : items[i]? = some x) (zne : e ≠ it)
    (zQ : ∀ m', IsEnumOut m' e it ((i : Int) + 1) x s.heap.objs.size → m'.IsTupleIter it l (i + 1) →
      m'.get? s.heap.objs.size = some { cls := .type "tuple", data := .seq #[.int i s.toks, x] } → m'.objs.size = s.heap.objs.size + 1 →
      (∀ b o, b ≠ e → b ≠ it → s.heap.get? b = some o → m'.get? b = some o) → Q (some (.ref s.heap.objs.size)) { s with heap := m', toks := s.toks + 1 }) :
    wpAny (model prog w) A (pyNext (.ref e)) Q E s := by
  have zT : s.TypeIs (.ref e) "enumerate" := ⟨_, ze, rfl⟩
  unfold pyNext
  exact wpAny_bind (wpAny_attempt (wpAny_callSpecial?_slot (name := Str.ofString "__next__") zT F.slot_enumerate_next
    (wpAny_call_entry F.slot_enumerate_next zT F.entry_enumerate_next
      (enumT_next ze zit zl zx zne fun m' a b c d k => wpAny_pure (zQ m' a b c d k)) (F.args_enumerate_next_1 _))))

theorem pyNextT_end {e it l : Addr} {i : Nat} {items : Array Value} {was : Value} {Q : Option Value → Shared → Prop} (zh : A.handled = none)
    (ze : IsEnum s.heap e it i was) (zit : s.heap.IsTupleIter it l i) (zl : s.heap.IsTuple l items) (zx : items[i]? = none)
    (zQ : ∀ m', Heap.ExtBut it s.heap m' → Q none { s with heap := m' }) : wpAny (model prog w) A (pyNext (.ref e)) Q E s := by
  have zT : s.TypeIs (.ref e) "enumerate" := ⟨_, ze, rfl⟩
  unfold pyNext
  refine wpAny_bind (wpAny_attempt (wpAny_callSpecial?_slot (name := Str.ofString "__next__") zT F.slot_enumerate_next
    (wpAny_call_entry F.slot_enumerate_next zT F.entry_enumerate_next ?_ (F.args_enumerate_next_1 _))))
  show wpAny _ _ (field (.ref e) 2 >>= _) _ _ _
  refine wpAny_bind (wpAny_field ze rfl (x := .ref it) rfl ?_)
  refine wpAny_bind (nextT_end zh zit zl zx fun m' x ze' zx' => ?_)
  obtain ⟨o, zo, zc⟩ := zx'
  refine wpAny_bind (wpAny_isInstance (T := "StopIteration") (b := true) ⟨o, zo, zc⟩ isSubtype_stop ?_)
  exact wpAny_pure (zQ _ ze')
theorem meets_enumT (l : Addr) (items : Array Value) (n : Nat) (dct : Option Addr) (sl : Array (Option Value)) :
    Meets (Builtin.«enumerate.__new__» ⟨[.type "enumerate", .ref l], []⟩) (fun _ R s => s.heap.get? l = some { cls := .type "tuple", dict := dct, data := .seq items n, slots := sl } ∧
      R (.ok (.ret (.ref (s.heap.push { cls := .type "tuple_iterator", data := .fields #[.ref l, .int 0 0] }).objs.size)))
        { s with heap := (s.heap.push { cls := .type "tuple_iterator", data := .fields #[.ref l, .int 0 0] }).push { cls := .type "enumerate", data := .fields #[.none, .bool false, .ref s.heap.objs.size, rawInt 0, .none, .none] } }) :=
  .of_wp fun prog w A R s h => by
    obtain ⟨zp, g, d, tk, os⟩ := s; obtain ⟨zl, h⟩ := h
    have zsub := sub_enumerate
    have zL : Heap.IsTuple (Shared.heap ⟨zp, g, d, tk, os⟩) l items := ⟨_, zl, rfl, n, rfl⟩
    wp_walk using wpAny_loadPart' zl
    refine wpAny_stack_any fun zst => wpAny_pure ?_
    split
    · rename_i c _ _ _ _ _
      cases (c == Value.type "enumerate")
      · wp_walk using wpAny_loadPart' zl, wpAny_pyIter_tuple zL
        exact ⟨_, rfl, h⟩
      · wp_walk using wpAny_loadPart' zl, wpAny_pyIter_tuple zL
        exact ⟨_, rfl, h⟩
    · wp_walk using wpAny_loadPart' zl, wpAny_pyIter_tuple zL
      exact ⟨_, rfl, h⟩

theorem call_enumT {l : Addr} {items : Array Value} {Q : Value → Shared → Prop} (zL : s.heap.IsTuple l items)
    (h : ∀ m', IsEnum m' (s.heap.objs.size + 1) s.heap.objs.size 0 .none → m'.IsTupleIter s.heap.objs.size l 0 → m'.objs.size = s.heap.objs.size + 2 →
      (∀ b o, s.heap.get? b = some o → m'.get? b = some o) → Q (.ref (s.heap.objs.size + 1)) { s with heap := m' }) :
    wpAny (model prog w) A (call (.type "enumerate") [.ref l]) Q E s := by
  obtain ⟨⟨c, dct, dt, sl⟩, zl, zc, n, zd⟩ := zL
  replace zc : c = .type "tuple" := zc
  replace zd : dt = .seq items n := zd
  subst zc zd
  refine callType_new F.called_enumerate (by decide) (F.typeCall_enumerate_1 _) (F.newCall_enumerate_1 _) (fun obj => F.args_object_init_2 obj _) F.entry_enumerate_new
    (meets_enumT l items n dct sl) ⟨zl, ?_⟩
  have zz : (s.heap.push { cls := .type "tuple_iterator", data := .fields #[.ref l, .int 0 0] }).objs.size = s.heap.objs.size + 1 := Heap.size_push ..
  show _ ∧ _
  rw [zz]
  have ze : IsEnum ((s.heap.push { cls := .type "tuple_iterator", data := .fields #[.ref l, .int 0 0] }).push
      { cls := .type "enumerate", data := .fields #[.none, .bool false, .ref s.heap.objs.size, rawInt 0, .none, .none] }) (s.heap.objs.size + 1) s.heap.objs.size 0 .none := by
    have := Heap.get?_push_size (s.heap.push { cls := .type "tuple_iterator", data := .fields #[.ref l, .int 0 0] })
      (o := { cls := .type "enumerate", data := .fields #[.none, .bool false, .ref s.heap.objs.size, rawInt 0, .none, .none] }) rfl
    rw [zz] at this; exact this
  refine ⟨⟨_, ze, rfl⟩, h _ ze ⟨_, Heap.get?_push_of_some _ (Heap.get?_push_size _ rfl), rfl, rfl⟩ (by rw [Heap.size_push, zz]) fun b o x => Heap.get?_push_of_some _ (Heap.get?_push_of_some _ x)⟩

end
end SLe
namespace SLe
open PySem PySem.Spec PyProof.Rows L2
def IteT (K : PySem.W.Frag) (a : Addr) : It :=
  ⟨fun i H => ∃ (xs : List V) (x : V), SqT K H a xs ∧ xs[i]? = some x, fun i H v H' => ∃ T x, v = .ref T ∧ H T = none ∧ H' = upd H T (.tup [.int (i : Nat), x]) ∧ ∀ xs, SqT K H a xs → xs[i]? = some x, fun i H => ∃ xs : List V, SqT K H a xs ∧ xs.length ≤ i⟩
theorem turn_enumT {P : Program} {w : World} {K : PySem.W.Frag} {elts : List Expr} {kk : Nat} {tpos : Pos} (a e it : Addr) :
    Turn P w K (.Tuple elts kk tpos) (IteT K a) [e, it] e (fun i h => (∃ was, IsEnum h e it ((i : Nat) : Int) was) ∧ h.IsTupleIter it a i ∧ e ≠ it) where
  mem := by simp
  obj := fun i h zst b zb => by
    obtain ⟨⟨was, ze⟩, ⟨o, zo, zc, zd⟩, _⟩ := zst
    have e' : b = e ∨ b = it := by simpa using zb
    rcases e' with z | z
    · rw [z]; exact ⟨_, ze, fun v q => nomatch q⟩
    · rw [z]; exact ⟨o, zo, fun v q => by rw [zd] at q; cases q⟩
  keep := fun i h m' zst k => let ⟨⟨was, ze⟩, hi, zne⟩ := zst; ⟨⟨was, k e (by simp) _ ze⟩, hi.at fun o q => k it (by simp) o q, zne⟩
  item := by
    intro X hP hw hK zc i pins s σ H E J zf zst zg
    subst hP hw hK
    obtain ⟨⟨was, ze⟩, zit, zne⟩ := zst
    obtain ⟨xs, x, zq, zx⟩ := zg
    obtain ⟨zits, zrv, p, zz⟩ := J.tuple zq
    obtain ⟨u, zu, zru⟩ := zrv.get zx
    have zel : e < s.heap.objs.size := Heap.lt_size ze
    have hil : it < s.heap.objs.size := by obtain ⟨_, q, _⟩ := zit; exact Heap.lt_size q
    refine pyNextT_item ze zit p (x := u) (by simpa using zu) zne fun m' zo zit' zT zsz zk => ?_
    refine ⟨_, rfl, wpAny_letOwnedTupleGo_enum (s := { s with heap := m', toks := s.toks + 1 }) zo fun m'' ze' zsb => ?_⟩
    have zT2 : m''.get? s.heap.objs.size = some { cls := .type "tuple", data := .seq #[.int i s.toks, u] } := (zsb.2 _ (Nat.ne_of_gt zel)).trans zT
    have znew : ObjOk X.prog X.w (upd H s.heap.objs.size (.tup [.int (i : Nat), x])) m'' s.heap.objs.size (.tup [.int (i : Nat), x]) :=
      ⟨by show 2 ≤ sizeLine; decide, [.int i s.toks, u], .cons ⟨_, rfl⟩ (.cons zru .nil), ⟨_, zT2, rfl, _, rfl⟩⟩
    have J1 : Inv X pins σ (upd H s.heap.objs.size (.tup [.int (i : Nat), x])) { s with heap := m'', toks := s.toks + 1 } :=
      J.turnedNew (ch := [e, it]) (fun b ob zb q => (zsb.2 b (fun z => zb (by simp [z]))).trans (zk b ob (fun z => zb (by simp [z])) (fun z => zb (by simp [z])) q)) zf (Nat.le_refl _) znew
    refine ⟨.ref s.heap.objs.size, _, J1, rfl, ⟨_, x, rfl, J.hok.fresh (Nat.le_refl _), rfl, fun ys hy => by rw [J.tuple_inj hy zq]; exact zx⟩, ⟨⟨u, ?_⟩, zit'.at fun o q => (zsb.2 it (Ne.symm zne)).trans q, zne⟩, fun b zb => ?_⟩
    · have e1 : ((i + 1 : Nat) : Int) = (i : Int) + 1 := by omega
      rw [e1]; exact ze'
    · have hb' : b < s.heap.objs.size := by
        have e' : b = e ∨ b = it := by simpa using zb
        rcases e' with z | z
        · rw [z]; exact zel
        · rw [z]; exact hil
      rw [upd_ne (Nat.ne_of_lt hb')]
      exact (zf b zb).1
  done := by
    intro X hP hw hK zc i pins s σ H E J zf zst zg
    subst hP hw hK
    obtain ⟨⟨was, ze⟩, zit, zne⟩ := zst
    obtain ⟨xs, zq, zx⟩ := zg
    obtain ⟨zits, zrv, p, zz⟩ := J.tuple zq
    obtain ⟨f0, f1, f2, f3, f4, f5⟩ := zf it (by simp)
    have zl := zrv.length
    exact pyNextT_end (J.ok.hd zc) ze zit p (by simp; omega) fun m' eb => ⟨rfl, J.turned (t' := s.toks) (fun b o zb q => eb b o zb q) f0 f1 f3 f4 f5⟩
  self := fun A i s Q E zst h => let ⟨⟨_, ze⟩, _⟩ := zst; wpAny_pyIter_enum ze h
end SLe
namespace SL
open PySem PySem.Spec PyProof.Rows L2
/-- enumerate of a list or a tuple -/
def iEnumX (K : PySem.W.Frag) (ta : TA) : TI := fun σ H R => ta σ H fun vs H1 => ∃ a xs, vs = [.ref a] ∧ ((SqL K H1 a xs ∧ (xs.length ≤ sizeLine → R (Ite K a) H1)) ∨ (SqT K H1 a xs ∧ (xs.length ≤ sizeLine → R (SLe.IteT K a) H1)))
theorem pi_enumX {X : Cx} {e : Expr} {ta : TA} {p pos tpos : Pos} {elts : List Expr} {kk : Nat} (hm : X.mg "enumerate" = none) (ha : PA X [e] ta) (hg : Gl X "enumerate") (hs : starEach [e] X.env = [(false, eval e X.env)]) :
    PI X (.Tuple elts kk tpos) (.Call (.Name "enumerate" p) [e] [] pos) (iEnumX X.K ta) := by
  refine ⟨fun pins s σ H R J q => Call_ (ld_blt J hg hm boot_enumerate (PyProof.Rows.callWith_type1 (thn (ha.run pos pins s σ H _ J q) fun us s1 ⟨vs, H1, J1, r1, a, xs, ex, q1⟩ => ?_) hs rfl))⟩
  subst ex
  cases r1 with
  | cons r rr =>
    cases rr
    cases r
    have fin : ∀ c : Addr, c = s1.heap.objs.size + 1 ∨ c = s1.heap.objs.size → s1.heap.objs.size ≤ c := fun c hc => by
      rcases hc with z | z <;> rw [z] <;> omega
    rcases q1 with ⟨hq, q1⟩ | ⟨hq, q1⟩
    · obtain ⟨its, rv, pp, hz⟩ := J1.list hq
      refine call_enumerate_list pp.isList fun h' ze zi _ zk => wpAny_pyIter_enum ze ?_
      have J2 : Inv X pins σ H1 { s1 with heap := h' } := J1.kept (t' := s1.toks) zk
      refine ⟨s1.heap.objs.size + 1, [s1.heap.objs.size + 1, s1.heap.objs.size], _, _, H1, rfl, J2, turn_enum a _ _, ⟨⟨.none, ze⟩, zi, Nat.succ_ne_self _⟩, fun c hc => ?_, q1 hz⟩
      have hle := fin c (by simpa using hc)
      exact J1.fpOk hle (J1.hok.fresh hle)
    · obtain ⟨its, rv, pp, hz⟩ := J1.tuple hq
      refine SLe.call_enumT (show s1.heap.IsTuple a its.toArray from pp) fun h' ze zi _ zk => wpAny_pyIter_enum ze ?_
      have J2 : Inv X pins σ H1 { s1 with heap := h' } := J1.kept (t' := s1.toks) zk
      refine ⟨s1.heap.objs.size + 1, [s1.heap.objs.size + 1, s1.heap.objs.size], _, _, H1, rfl, J2, SLe.turn_enumT a _ _, ⟨⟨.none, ze⟩, zi, Nat.succ_ne_self _⟩, fun c hc => ?_, q1 hz⟩
      have hle := fin c (by simpa using hc)
      exact J1.fpOk hle (J1.hok.fresh hle)
theorem numbered_get {ws : List W} {i : Nat} {w : W} (h : ws[i]? = some w) : (numbered ws)[i]? = some (.tup [.int (i : Nat), w]) := by
  unfold numbered; rw [List.getElem?_mapIdx, h]; rfl
/-- what is walked is no list that may change -/
def isCel : W → Bool
  | .cell _ => true
  | _ => false
def enSrc : W → W
  | .cell k => .int k
  | _ => .non
theorem numbered_inj {us ws : List W} (h : numbered us = numbered ws) : us = ws := by
  have hl : us.length = ws.length := by
    have := congrArg List.length h
    simpa [numbered] using this
  refine List.ext_getElem? fun i => ?_
  rcases Nat.lt_or_ge i us.length with q | q
  · have h1 := numbered_get (List.getElem?_eq_getElem q)
    have q2 : i < ws.length := by omega
    have h2 := numbered_get (List.getElem?_eq_getElem q2)
    rw [h, h2] at h1
    injection h1 with h1
    injection h1 with h1
    injection h1 with _ h1
    injection h1 with h1 _
    rw [List.getElem?_eq_getElem q, List.getElem?_eq_getElem q2, h1]
  · rw [List.getElem?_eq_none q, List.getElem?_eq_none (by omega)]
theorem enSrc_ok {x : W} {us : List W} {st : Sto} (hx : ∀ i, x ≠ .int i) (h : srcOk (enSrc x) (numbered us) st) : srcOk x us st := by
  cases x with
  | cell k =>
    obtain ⟨vs, h1, h2⟩ := h
    rw [numbered_inj h2]
    exact h1
  | int k => exact absurd rfl (hx k)
  | _ => trivial
def iEn (f : SemL) : SemI := fun fr st => (f fr st).bind fun vs st1 => match vs with
  | [x] => (match itW st1 x with
    | some ws => .ok (enSrc x, numbered ws) st1
    | none => .bad)
  | _ => .bad
section
variable {X : Cx} {Wx : Wish}
/-- a new tuple is laid -/
theorem enum_yld {K : PySem.W.Frag} {mg : Str → Option Value} {hid μ : List Addr} {st : Sto} {H H' : Hp} {ws : List W} {i : Nat} {v : V} {vs : List V} (k : StOk K mg μ st hid H) (r : Reps K mg (Fz μ st hid H) μ ws vs)
    (y : ∃ T x, v = .ref T ∧ H T = none ∧ H' = upd H T (.tup [.int (i : Nat), x]) ∧ vs[i]? = some x) : StOk K mg μ st hid H' ∧ Grow hid μ st H μ st H' ∧ ∃ w, (numbered ws)[i]? = some w ∧ Rep K mg (Fz μ st hid H') μ w v := by
  obtain ⟨T, x, rfl, hT, rfl, hx⟩ := y
  obtain ⟨w, h1, h2⟩ := r.get' hx
  obtain ⟨k1, g1, e1⟩ := k.laid (o := .tup [.int (i : Nat), x]) hT
  refine ⟨k1, g1, _, numbered_get h1, ?_⟩
  exact rep_tup e1 (.cons rep_int (.cons (h2.mono g1.le (.refl _)) .nil))
theorem iv_enum {e : Expr} {f : SemL} {p pos tpos : Pos} {elts : List Expr} {kk : Nat} (hm : X.mg "enumerate" = none) (ha : AV X Wx [e] f) (hg : Gl X "enumerate" := by rfl) (hs : starEach [e] X.env = [(false, eval e X.env)] := by rfl) :
    IV X Wx (.Tuple elts kk tpos) (.Call (.Name "enumerate" p) [e] [] pos) (iEn f) := PIm (pi_enumX hm ha hg hs) fun σ H R ⟨μ, st, hid, fr, S, P⟩ => by
  refine ⟨μ, st, hid, fr, S, ?_⟩
  unfold iEn at P
  cases h1 : f fr st with
  | bad => rw [h1] at P; exact P
  | err x s => rw [h1] at P; exact P
  | ok ws st1 =>
    rw [h1, Out.bind_ok] at P
    intro μ1 H1 vs k1 g1 r1
    have P1 := IPost.from g1 P
    split at P1
    · rename_i x
      obtain ⟨v, rfl, r2⟩ := reps1 (ws := []) r1
      split at P1
      · rename_i us e
        · have hn' : ∀ i, x ≠ .int i := fun i ex => by subst ex; cases e
          have hnl : (numbered us).length = us.length := by simp [numbered]
          obtain ⟨a, vs0, rfl, hl, q | q⟩ := seq_now k1 e r2
          · refine ⟨a, vs0, rfl, .inl ⟨q.1, fun hz => P1 μ1 H1 _ k1 .refl ?_⟩⟩
            exact {
              len := by rw [hnl, ← hl]; exact hz
              go := fun hid μ st H i k l p _ _ hi => by
                obtain ⟨ys, h1, h2⟩ := q.2 hid μ st H k l p (enSrc_ok hn' ‹srcOk (enSrc x) (numbered us) st›)
                rw [hnl] at hi
                exact ⟨ys, ys[i]'(by rw [← h2.length]; exact hi), h1, by simp⟩
              yld := fun hid μ st H i v H' k l p _ _ hi y => by
                obtain ⟨ys, h1, h2⟩ := q.2 hid μ st H k l p (enSrc_ok hn' ‹srcOk (enSrc x) (numbered us) st›)
                obtain ⟨T, x, a1, a2, a3, a4⟩ := y
                exact enum_yld k h2 ⟨T, x, a1, a2, a3, a4 ys h1⟩
              stop := fun hid μ st H i k l p _ _ hi => by
                obtain ⟨ys, h1, h2⟩ := q.2 hid μ st H k l p (enSrc_ok hn' ‹srcOk (enSrc x) (numbered us) st›)
                rw [hnl] at hi
                exact ⟨ys, h1, by rw [← h2.length]; exact hi⟩ }
          · refine ⟨a, vs0, rfl, .inr ⟨q.1, fun hz => P1 μ1 H1 _ k1 .refl ?_⟩⟩
            exact {
              len := by rw [hnl, ← hl]; exact hz
              go := fun hid μ st H i k l p _ _ hi => by
                obtain ⟨ys, h1, h2⟩ := q.2 hid μ st H k l p (enSrc_ok hn' ‹srcOk (enSrc x) (numbered us) st›)
                rw [hnl] at hi
                exact ⟨ys, ys[i]'(by rw [← h2.length]; exact hi), h1, by simp⟩
              yld := fun hid μ st H i v H' k l p _ _ hi y => by
                obtain ⟨ys, h1, h2⟩ := q.2 hid μ st H k l p (enSrc_ok hn' ‹srcOk (enSrc x) (numbered us) st›)
                obtain ⟨T, x, a1, a2, a3, a4⟩ := y
                exact enum_yld k h2 ⟨T, x, a1, a2, a3, a4 ys h1⟩
              stop := fun hid μ st H i k l p _ _ hi => by
                obtain ⟨ys, h1, h2⟩ := q.2 hid μ st H k l p (enSrc_ok hn' ‹srcOk (enSrc x) (numbered us) st›)
                rw [hnl] at hi
                exact ⟨ys, h1, by rw [← h2.length]; exact hi⟩ }
      · exact P1.elim
    · exact P1.elim
end
end SL

namespace SL
open PySem PySem.Spec PyProof.Rows L2
/-! ## own exceptions with two fields -/
def spI2 (C : Addr) (f1 f2 : Str) : Sp := fun vs H Q _ => ∃ a y z, vs = [.ref a, y, z] ∧ H a = some (exo a C none) ∧ ∀ dx, H dx = none → dx ≠ a → Q .non (upd (upd (upd H dx (exd dx [(f1, y)])) a (exo a C (some dx))) dx (exd dx [(f2, z), (f1, y)]))
structure Exc2 (P : Program) (w : World) (K : PySem.W.Frag) (mg : Str → Option Value) (base : Heap) (c f1 f2 : Str) : Prop where
  ex : ∃ (C fI : Addr) (fd : FuncData) (x y : Str), OexC K C ∧ PySem.W.findIn K (.ref C) "__init__" = some (some (.ref fI)) ∧ PySem.W.typeIn K (.ref fI) = some (.type "function") ∧ FnOk P w K mg base (L2.CX P w) 1 fI fd ["self", x, y] (spI2 C f1 f2) ∧ Binds K fd ["self", x, y] [] ∧ mg c = some (.ref C)
theorem init2 {P : Program} {w : World} {K : PySem.W.Frag} {mg : Str → Option Value} {base : Heap} {qual : Str} {st : Stmt} {f C : Addr} {fd : FuncData} {x y f1 f2 : Str} {p1 p2 p3 p4 q1 q2 q3 q4 : Pos} (F : Fun K "__init__" qual st f fd) (S : FnScope ["self", x, y] ["self", x, y] (defScope st))
    (hb : defBody st = [.Assign [.Attribute (.Name "self" p1) f1 p2] (.Name x p3) p4, .Assign [.Attribute (.Name "self" q1) f2 q2] (.Name y q3) q4]) (T : OexC K C) (h1 : PySem.W.findIn K (.ref C) f1 = some none) (h2 : PySem.W.findIn K (.ref C) f2 = some none)
    (hd : (x == ("__debug__" : Str)) = false) (hc : (x == ("__classdict__" : Str)) = false) (hd2 : (y == ("__debug__" : Str)) = false) (hc2 : (y == ("__classdict__" : Str)) = false) : FnOk P w K mg base (L2.CX P w) 1 f fd ["self", x, y] (spI2 C f1 f2) := by
  refine F.okX (k := 0) S (fun vs H Q E h => ?_) (fun cdv A outer s H vs Q E hr h => ?_)
  · obtain ⟨a, y, z, rfl, _⟩ := h; rfl
  · rw [hb]
    have vis : ∀ z ∈ (["self", x, y] : List Str), Vis (defScope st) z := fun z hz => (S.par z hz).elim .inl fun q => .inr (.inl q)
    refine ⟨_, pss_cons (ps_ost (pe_var (i := 0) rfl (vis "self" (by simp))) (pe_var (i := 1) rfl (vis x (by simp)) hd hc)) (pss_one (ps_ost (pe_var (i := 0) rfl (vis "self" (by simp))) (pe_var (i := 2) rfl (vis y (by simp)) hd2 hc2))), ?_⟩
    obtain ⟨a, u, z, rfl, g1, g2⟩ := h
    refine ⟨u, rfl, .ref a, rfl, a, C, rfl, T, h1, .inl ⟨g1, fun dx n ne => ?_⟩⟩
    exact ⟨z, rfl, .ref a, rfl, a, C, rfl, T, h2, .inr ⟨dx, [(f1, u)], upd_same, by rw [upd_ne ne, upd_same], (by decide : 1 ≤ 900), g2 dx n ne⟩⟩
theorem del_eq2 {H : Hp} {a d : Addr} {o o1 o2 o3 o4 : HO} (ha : H a = none) (hd : d ≠ a) : upd (del (upd (upd (upd (upd H a o) d o1) a o2) d o4) a) d o3 = upd H d o3 := by
  funext b
  by_cases e : b = d
  · subst e; rw [upd_same, upd_same]
  · rw [upd_ne e, upd_ne e]
    by_cases z : b = a
    · subst z; rw [del_same, ha]
    · rw [del_ne z, upd_ne e, upd_ne z, upd_ne e, upd_ne z]
/-- raise C(e, f): the fields stand from behind -/
def sRaise2 (c f1 f2 : Str) (f : SemL) : SSem := fun fr st => (f fr st).stm fr fun ws st1 => match ws with
  | [u, v] => .er ⟨c, [f2, f1], [v, u]⟩ fr st1
  | _ => .bad
section
variable {X : Cx} {Wx : Wish}
theorem sv_raise2 {k : Nat} {c f1 f2 : Str} {f : SemL} {e : Expr} {es : List Expr} {p p2 pos : Pos} (C : Ctx X Wx k) (hk : 2 ≤ k) (E : Exc2 X.prog X.w X.K X.mg X.base c f1 f2) (ha : AV X Wx (e :: es) f) (hg : Gl X c := by rfl) (hdb : (c == ("__debug__" : Str)) = false := by decide)
    (he : starEach (e :: es) X.env = (false, eval e X.env) :: starEach es X.env := by rfl) (hpl : (backTo p2 (starEach es X.env)).any (·.1) = false := by rfl) :
    SV X Wx (.Raise (some (.Call (.Name c p) (e :: es) [] p2)) none pos) (sRaise2 c f1 f2 f) := by
  obtain ⟨A, fI, fd, x, y, T, h1, h2, F, B, hm⟩ := E.ex
  refine PSm (ps_raise C.calm C.tk (pmk_oex (CX := L2.CX X.prog X.w) (k := 1) T h1 h2 F (C.room.mono hk) B .nil (fun pins σ H s u s' I z => ?_) hg hm ha hdb he hpl)) fun D σ H ⟨μ, st, hid, fr, S, P⟩ => ?_
  · obtain ⟨_, _, _, _, _, _, _, _, _, _, _, _, z⟩ := z
    exact z.elim
  · refine ⟨μ, st, hid, fr, S, ?_⟩
    unfold sRaise2 at P
    cases e1 : f fr st with
    | bad => rw [e1] at P; exact P
    | err x s => rw [e1] at P; exact fun μ1 H1 c d k1 g1 xr => P μ1 σ H1 c d (S.next k1 g1) g1 xr
    | ok ws st1 =>
      rw [e1, Out.stm_ok] at P
      intro μ1 H1 vs k1 g1 r1
      have P1 := SPost.from g1 P
      split at P1
      · rename_i u v
        obtain ⟨u', vs1, rfl, ru, r2⟩ := r1.cons_inv
        obtain ⟨v', vs2, rfl, rv, r3⟩ := r2.cons_inv
        rw [Reps.nil_iff] at r3
        subst r3
        refine ⟨by simp, fun a na => ⟨a, u', v', rfl, upd_same, fun dx nd ne => ⟨rfl, dx, [(f2, v'), (f1, u')], by rw [upd_ne (Ne.symm ne), upd_same], upd_same, ?_, ?_⟩⟩⟩
        · rw [upd_ne ne] at nd; exact nd
        · rw [upd_ne ne] at nd
          rw [del_eq2 na ne]
          obtain ⟨k2, g2, e2⟩ := k1.laid (o := .xd [(f2, v'), (f1, u')]) nd
          exact P1 μ1 σ _ _ _ ((S.next k1 g1).next k2 g2) g2 ⟨A, hm, rfl, .inr ⟨dx, [v', u'], rfl, rfl, e2, .cons (rv.mono g2.le (.refl _)) (.cons (ru.mono g2.le (.refl _)) .nil)⟩⟩
      · exact P1.elim
end
end SL

namespace SL
open PySem PySem.Spec PyProof.Rows L2
/-! # dicts whose keys are ints and texts -/
/-- the keys, the values -/
def dctW (st : Sto) (x : W) : Option (List Key × List W) := match x with
  | .cell k => match st[k]? with
    | some (.dct ks ws) => (match kindW ks with
      | some (_, .inl kk) => some (kk, ws)
      | _ => none)
    | _ => none
  | .dct ks ws => (match kindW ks with
    | some (_, .inl kk) => some (kk, ws)
    | _ => none)
  | _ => none
def valW {α : Type} (l : List (Key × α)) (k : Key) : Option α := (l.find? fun p => decide (p.1 = k)).map (·.2)
def putX {α : Type} (kk : List Key) (xs : List α) (k : Key) (x : α) : List α := (kk.zip xs).map fun p => if p.1 = k then x else p.2
theorem zip_put {α : Type} (k : Key) (x : α) : ∀ (kk : List Key) (xs : List α), kk.length = xs.length → (kk.zip xs).map (fun kv => if kv.1 = k then (kv.1, x) else kv) = kk.zip (putX kk xs k x)
  | [], xs, _ => by simp
  | j :: kk, [], h => by simp at h
  | j :: kk, y :: xs, h => by
    have ih := zip_put k x kk xs (by simpa using h)
    unfold putX at ih ⊢
    rw [List.zip_cons_cons, List.map_cons, List.map_cons, List.zip_cons_cons, ih]
    by_cases e : j = k <;> simp [e]
theorem putX_len {α : Type} {kk : List Key} {xs : List α} {k : Key} {x : α} (h : kk.length = xs.length) : (putX kk xs k x).length = kk.length := by
  unfold putX; rw [List.length_map, List.length_zip]; omega
theorem any_zip {α : Type} (k : Key) : ∀ (kk : List Key) (xs : List α), kk.length = xs.length → ((kk.zip xs).any fun kv => decide (kv.1 = k)) = kk.any fun j => decide (j = k)
  | [], xs, _ => by simp
  | j :: kk, [], h => by simp at h
  | j :: kk, y :: xs, h => by
    rw [List.zip_cons_cons, List.any_cons, List.any_cons, any_zip k kk xs (by simpa using h)]
theorem mapO_len {α β : Type} {f : α → Option β} : ∀ {l : List α} {m : List β}, mapO f l = some m → m.length = l.length
  | [], m, h => by unfold mapO at h; cases h; rfl
  | a :: l, m, h => by
    unfold mapO at h
    cases e1 : f a with
    | none => rw [e1] at h; cases h
    | some b =>
      cases e2 : mapO f l with
      | none => rw [e1, e2] at h; cases h
      | some bs => rw [e1, e2] at h; cases h; simp [mapO_len e2]
theorem mapO_snoc {α β : Type} {f : α → Option β} : ∀ {l : List α} {m : List β} {a : α} {b : β}, mapO f l = some m → f a = some b → mapO f (l ++ [a]) = some (m ++ [b])
  | [], m, a, b, h, h2 => by
    unfold mapO at h; cases h
    show (match f a, mapO f [] with | some b, some bs => some (b :: bs) | _, _ => none) = _
    rw [h2]; rfl
  | c :: l, m, a, b, h, h2 => by
    unfold mapO at h
    cases e1 : f c with
    | none => rw [e1] at h; cases h
    | some d =>
      cases e2 : mapO f l with
      | none => rw [e1, e2] at h; cases h
      | some bs =>
        rw [e1, e2] at h; cases h
        show (match f c, mapO f (l ++ [a]) with | some b, some bs => some (b :: bs) | _, _ => none) = _
        rw [e1, mapO_snoc e2 h2]; rfl
theorem mapO_get {α β : Type} {f : α → Option β} : ∀ {l : List α} {m : List β}, mapO f l = some m → ∀ {i : Nat} {a : α} {b : β}, l[i]? = some a → m[i]? = some b → f a = some b
  | [], m, h, i, a, b, h1, _ => by simp at h1
  | c :: l, m, h, i, a, b, h1, h2 => by
    unfold mapO at h
    cases e1 : f c with
    | none => rw [e1] at h; cases h
    | some d =>
      cases e2 : mapO f l with
      | none => rw [e1, e2] at h; cases h
      | some bs =>
        rw [e1, e2] at h; cases h
        cases i with
        | zero => simp at h1 h2; rw [← h1, ← h2]; exact e1
        | succ i => simp at h1 h2; exact mapO_get e2 h1 h2
theorem kind_plain {ks : List W} {kk : List Key} (h : mapO keyW ks = some kk) : kindW ks = some (false, .inl kk) := by
  cases ks with
  | nil => unfold mapO at h; cases h; rfl
  | cons w ks =>
    have z : ∀ t, w ≠ .ty t := fun t e => by
      subst e
      have : mapO keyW (.ty t :: ks) = none := rfl
      rw [this] at h; cases h
    cases w with
    | ty t => exact absurd rfl (z t)
    | int i =>
      show (mapO keyW (.int i :: ks)).map _ = _
      rw [h]; rfl
    | str i =>
      show (mapO keyW (.str i :: ks)).map _ = _
      rw [h]; rfl
    | _ => exact nomatch h
theorem unl_plain {ks : List W} {ws : List W} {kk : List Key} (h : mapO keyW ks = some kk) : (Cel.dct ks ws).unl = true := by
  cases ks with
  | nil => rfl
  | cons w ks =>
    cases w with
    | ty t =>
      have : mapO keyW (.ty t :: ks) = none := rfl
      rw [this] at h; cases h
    | _ => rfl
section
variable {K : PySem.W.Frag} {mg : Str → Option Value} {F : Hp} {μ : List Addr}
theorem key_rep {w : W} {k : Key} {v : V} (h : keyW w = some k) (r : Rep K mg F μ w v) : v = kV k := by
  cases w with
  | int i => unfold keyW at h; cases h; exact rep_int_inv r
  | str i => unfold keyW at h; cases h; exact rep_str_inv r
  | _ => cases h
theorem rep_key {w : W} {k : Key} (h : keyW w = some k) : Rep K mg F μ w (kV k) := by
  cases w with
  | int i => unfold keyW at h; cases h; exact rep_int
  | str i => unfold keyW at h; cases h; unfold Rep; rfl
  | _ => cases h
/-- what is found: alike -/
theorem val_at (k : Key) : ∀ {kk : List Key} {ws : List W} {vs : List V}, kk.length = vs.length → Reps K mg F μ ws vs → (∀ w, valW (kk.zip ws) k = some w → ∃ v, valV (kk.zip vs) k = some v ∧ Rep K mg F μ w v) ∧ (valW (kk.zip ws) k = none → valV (kk.zip vs) k = none)
  | [], ws, vs, _, _ => by
    refine ⟨fun w h => ?_, fun _ => rfl⟩
    simp [valW] at h
  | j :: kk, ws, [], h, _ => by simp at h
  | j :: kk, ws, v :: vs, h, r => by
    have hl := r.length
    cases ws with
    | nil => simp at hl
    | cons w ws =>
      obtain ⟨v', vs', e, r1, r2⟩ := r.cons_inv
      cases e
      obtain ⟨i1, i2⟩ := val_at k (kk := kk) (ws := ws) (vs := vs) (by simpa using h) r2
      by_cases e : j = k
      · rw [List.zip_cons_cons, List.zip_cons_cons, valV_pos (p := (j, v)) e]
        have z : valW ((j, w) :: kk.zip ws) k = some w := by simp [valW, List.find?_cons, e]
        rw [z]
        exact ⟨fun u h => by cases h; exact ⟨v, rfl, r1⟩, fun h => nomatch h⟩
      · rw [List.zip_cons_cons, List.zip_cons_cons, valV_neg (p := (j, v)) e]
        have z : valW ((j, w) :: kk.zip ws) k = valW (kk.zip ws) k := by simp [valW, List.find?_cons, e]
        rw [z]
        exact ⟨i1, i2⟩
theorem reps_put {k : Key} {w : W} {v : V} (rw_ : Rep K mg F μ w v) : ∀ {kk : List Key} {ws : List W} {vs : List V}, kk.length = vs.length → Reps K mg F μ ws vs → Reps K mg F μ (putX kk ws k w) (putX kk vs k v)
  | [], ws, vs, _, _ => by unfold putX; simp; exact .nil
  | j :: kk, ws, [], h, _ => by simp at h
  | j :: kk, ws, u :: vs, h, r => by
    have hl := r.length
    cases ws with
    | nil => simp at hl
    | cons w' ws =>
      obtain ⟨v', vs', e, r1, r2⟩ := r.cons_inv
      cases e
      have ih := reps_put (k := k) rw_ (kk := kk) (ws := ws) (vs := vs) (by simpa using h) r2
      unfold putX at ih ⊢
      rw [List.zip_cons_cons, List.zip_cons_cons, List.map_cons, List.map_cons]
      refine .cons ?_ ih
      by_cases e : j = k
      · simp only [e, if_true]; exact rw_
      · simp only [e, if_false]; exact r1
theorem dctW_at {hid : List Addr} {st : Sto} {H : Hp} {x : W} {v : V} {kk : List Key} {ws : List W} (k : StOk K mg μ st hid H) (h : dctW st x = some (kk, ws)) (r : Rep K mg (Fz μ st hid H) μ x v) :
    ∃ a vs, v = .ref a ∧ kk.length = vs.length ∧ Rd H a (.dK (kk.zip vs)) ∧ Reps K mg (Fz μ st hid H) μ ws vs := by
  have go : ∀ {F : Hp} {a : Addr} {ks us : List W} {vs : List V}, (∀ o, F a = some o → H a = some o) → DctAt F a ks vs → (match kindW ks with
      | some (_, .inl kk) => some (kk, us)
      | _ => none) = some (kk, ws) → us = ws ∧ kk.length = vs.length ∧ Rd H a (.dK (kk.zip vs)) := fun {F a ks us vs} l d e => by
    obtain ⟨b, q, h1, h2, h3, _⟩ := d
    rw [h1] at e
    cases q with
    | inr q => cases e
    | inl q =>
      cases e
      refine ⟨rfl, h2, ?_⟩
      rcases h3 with h3 | ⟨o, h3⟩
      · exact .inl (l _ h3)
      · exact .inr ⟨o, l _ h3⟩
  cases x with
  | cell n =>
    unfold dctW at h
    simp only at h
    split at h
    · rename_i ks us e
      obtain ⟨a, rfl, e2, vs, h1, h2⟩ := k.cell e r
      obtain ⟨rfl, g1, g2⟩ := go (fun _ z => z) h1.rd h
      exact ⟨a, vs, rfl, g1, g2, h2⟩
    · cases h
  | dct ks us =>
    unfold Rep at r
    obtain ⟨a, vs, rfl, h1, h2⟩ := r
    obtain ⟨rfl, g1, g2⟩ := go (us := us) (fun _ z => (Fz.sub z).1) h1 h
    exact ⟨a, vs, rfl, g1, g2, h2⟩
  | _ => cases h
end
/-! ## reading -/
def oDGet : Op2 := fun x y st => match dctW st x, keyW y with
  | some (kk, ws), some k => (match valW (kk.zip ws) k with
    | some w => .ok w st
    | none => .bad)
  | _, _ => .bad
def oDIn (f : Bool → Bool) : Op2 := fun y x st => match dctW st x, keyW y with
  | some (kk, ws), some k => .ok (.bl (f (valW (kk.zip ws) k).isSome)) st
  | _, _ => .bad
def rDGet : R2 := fun x y H Q => ∃ a v, x = .ref a ∧ DGet H a y (some v) ∧ Q v H
def rDIn (f : Bool → Bool) : R2 := fun y x H Q => ∃ a o, x = .ref a ∧ DGet H a y o ∧ Q (.bl (f o.isSome)) H
def oDLen : OpN := fun ws st => match ws with
  | [x] => (match dctW st x with
    | some (kk, _) => .ok (.int kk.length) st
    | none => .bad)
  | _ => .bad
def rDLen : List V → Hp → VK → Prop := fun xs H Q => ∃ a kvs, xs = [V.ref a] ∧ Rd H a (.dK kvs) ∧ Q (.int kvs.length) H
/-- d.get(k, x) -/
def eDGet2 (f g h : Sem) : Sem := fun fr st => (f fr st).bind fun x st1 => if (dctW st1 x).isSome = true then (g fr st1).bind fun y st2 => (h fr st2).bind fun z st3 => (match dctW st3 x, keyW y with
  | some (kk, ws), some k => .ok ((valW (kk.zip ws) k).getD z) st3
  | _, _ => .bad) else .bad
section
variable {X : Cx} {Wx : Wish}
theorem dget_of {K : PySem.W.Frag} {mg : Str → Option Value} {μ hid : List Addr} {st : Sto} {H : Hp} {x y : W} {xv yv : V} {kk : List Key} {ws : List W} {j : Key} (k : StOk K mg μ st hid H) (hx : dctW st x = some (kk, ws)) (hy : keyW y = some j) (rx : Rep K mg (Fz μ st hid H) μ x xv) (ry : Rep K mg (Fz μ st hid H) μ y yv) :
    ∃ a, xv = .ref a ∧ ((∃ w v, valW (kk.zip ws) j = some w ∧ DGet H a yv (some v) ∧ Rep K mg (Fz μ st hid H) μ w v) ∨ (valW (kk.zip ws) j = none ∧ DGet H a yv none)) := by
  obtain ⟨a, vs, rfl, h1, h2, h3⟩ := dctW_at k hx rx
  obtain ⟨v1, v2⟩ := val_at (K := K) (mg := mg) (F := Fz μ st hid H) (μ := μ) j h1 h3
  refine ⟨a, rfl, ?_⟩
  cases e : valW (kk.zip ws) j with
  | some w =>
    obtain ⟨v, e2, r⟩ := v1 w e
    exact .inl ⟨w, v, rfl, .inl ⟨_, j, h2, key_rep hy ry, e2.symm⟩, r⟩
  | none => exact .inr ⟨rfl, .inl ⟨_, j, h2, key_rep hy ry, (v2 e).symm⟩⟩
theorem os_dget : Op2S X oDGet rDGet := by
  intro Wx hid μ st σ H Q x y xv yv k rx ry P
  unfold oDGet at P
  split at P
  · rename_i kk ws j hx hy
    obtain ⟨a, rfl, ⟨w, v, e1, e2, e3⟩ | ⟨e1, _⟩⟩ := dget_of k hx hy rx ry
    · rw [e1] at P
      exact ⟨a, v, rfl, e2, P μ H _ k .refl e3⟩
    · rw [e1] at P; exact P.elim
  · exact P.elim
theorem os_din {f : Bool → Bool} : Op2S X (oDIn f) (rDIn f) := by
  intro Wx hid μ st σ H Q y x yv xv k ry rx P
  unfold oDIn at P
  split at P
  · rename_i kk ws j hx hy
    obtain ⟨a, rfl, ⟨w, v, e1, e2, e3⟩ | ⟨e1, e2⟩⟩ := dget_of k hx hy rx ry
    · rw [e1] at P
      exact ⟨a, _, rfl, e2, P μ H _ k .refl rep_bl⟩
    · rw [e1] at P
      exact ⟨a, _, rfl, e2, P μ H _ k .refl rep_bl⟩
  · exact P.elim
theorem ev_dget {k : Nat} {o i : Expr} {f g : Sem} {pos : Pos} (C : Ctx X Wx k) (ho : EV X Wx o f) (hi : EV X Wx i g) (hs : NoSl i := by intro _ _; rfl) : EV X Wx (.Subscript o i pos) (e2 oDGet f g) :=
  PEm (pe_dget (by have := C.room.un; omega) ho hi hs) (e2_read os_dget)
theorem ev_din {k : Nat} {o i : Expr} {f g : Sem} {pos : Pos} (C : Ctx X Wx k) (hi : EV X Wx i g) (ho : EV X Wx o f) (hm : behindInMarks .In o = false := by rfl) : EV X Wx (.Compare i [.In] [o] pos) (e2 (oDIn fun b => b) g f) :=
  PEm (pe_cmp (pc_din (by have := C.room.un; omega) hi ho) hm) (e2_read os_din)
theorem tv_din {k : Nat} {o i : Expr} {f g : Sem} {pos : Pos} (C : Ctx X Wx k) (hi : EV X Wx i g) (ho : EV X Wx o f) (hm : behindInMarks .In o = false := by rfl) : TV X Wx (.Compare i [.In] [o] pos) (bOf (e2 (oDIn fun b => b) g f)) :=
  PTm (pt_cmp (pc_din (by have := C.room.un; omega) hi ho) hm) (bOf_read (e2_read os_din))
theorem ev_dnin {k : Nat} {o i : Expr} {f g : Sem} {pos : Pos} (C : Ctx X Wx k) (hi : EV X Wx i g) (ho : EV X Wx o f) (hm : behindInMarks .NotIn o = false := by rfl) : EV X Wx (.Compare i [.NotIn] [o] pos) (e2 (oDIn not) g f) :=
  PEm (pe_cmp (pc_dnotin (by have := C.room.un; omega) hi ho) hm) (e2_read os_din)
theorem tv_dnin {k : Nat} {o i : Expr} {f g : Sem} {pos : Pos} (C : Ctx X Wx k) (hi : EV X Wx i g) (ho : EV X Wx o f) (hm : behindInMarks .NotIn o = false := by rfl) : TV X Wx (.Compare i [.NotIn] [o] pos) (bOf (e2 (oDIn not) g f)) :=
  PTm (pt_cmp (pc_dnotin (by have := C.room.un; omega) hi ho) hm) (bOf_read (e2_read os_din))
theorem cr_dlen : CallR X (.builtin "len") rDLen := by
  intro pins s σ H vs us Q J r hq
  obtain ⟨a, kvs, rfl, hd, q⟩ := hq
  rw [Vals.ref1 r]
  exact d_len J hd fun t s' J' => ⟨.int _, H, J', ⟨_, rfl⟩, q⟩
theorem os_dlen : OpNS X oDLen rDLen := by
  intro Wx hid μ st σ H Q ws vs k r P
  unfold oDLen at P
  split at P
  · rename_i x
    obtain ⟨v, rfl, r1⟩ := reps1 (ws := []) r
    split at P
    · rename_i kk us e
      obtain ⟨a, xs, rfl, h1, h2, h3⟩ := dctW_at k e r1
      have hl : (kk.zip xs).length = kk.length := by rw [List.length_zip]; omega
      exact ⟨a, _, rfl, h2, by rw [hl]; exact P μ H _ k .refl rep_int⟩
    · exact P.elim
  · exact P.elim
theorem dctW_isD {K : PySem.W.Frag} {mg : Str → Option Value} {μ hid : List Addr} {st : Sto} {H : Hp} {x : W} {v : V} (k : StOk K mg μ st hid H) (h : (dctW st x).isSome = true) (r : Rep K mg (Fz μ st hid H) μ x v) : ∃ a, v = .ref a ∧ IsD H a := by
  cases e : dctW st x with
  | none => rw [e] at h; cases h
  | some p =>
    obtain ⟨a, vs, rfl, _, h2, _⟩ := dctW_at (kk := p.1) (ws := p.2) k e r
    exact ⟨a, rfl, .inl ⟨_, h2⟩⟩
theorem ev_dget2 {k : Nat} {o e d : Expr} {f g h : Sem} {apos cpos : Pos} (C : Ctx X Wx k) (ho : EV X Wx o f) (he : EV X Wx e g) (hd : EV X Wx d h) (m : M2 X o "get" apos e d cpos := by exact ⟨rfl, rfl, rfl, rfl⟩) : EV X Wx (.Call (.Attribute o "get" apos) [e, d] [] cpos) (eDGet2 f g h) :=
  PEm (pe_dget2 (by have := C.room.un; omega) ho he hd m) fun σ H Q ⟨μ, st, hid, fr, S, P⟩ => by
    refine ⟨μ, st, hid, fr, S, ?_⟩
    unfold eDGet2 at P
    cases h1 : f fr st with
    | bad => rw [h1] at P; exact P
    | err x s => rw [h1] at P; exact P
    | ok x st1 =>
      rw [h1, Out.bind_ok] at P
      intro μ1 H1 xv k1 g1 r1
      have P1 := EPost.from g1 P
      split at P1
      · rename_i hx
        obtain ⟨a, rfl, hd⟩ := dctW_isD k1 hx r1
        refine ⟨a, rfl, hd, μ1, st1, hid, fr, S.next k1 g1, ?_⟩
        cases h2 : g fr st1 with
        | bad => rw [h2] at P1; exact P1
        | err x s => rw [h2] at P1; exact P1
        | ok y st2 =>
          rw [h2, Out.bind_ok] at P1
          intro μ2 H2 yv k2 g2 r2
          have P2 := EPost.from g2 P1
          refine ⟨μ2, st2, hid, fr, (S.next k1 g1).next k2 g2, ?_⟩
          cases h3 : h fr st2 with
          | bad => rw [h3] at P2; exact P2
          | err x s => rw [h3] at P2; exact P2
          | ok z st3 =>
            rw [h3, Out.bind_ok] at P2
            intro μ3 H3 zv k3 g3 r3
            have P3 := EPost.from g3 P2
            split at P3
            · rename_i kk ws j hx3 hy
              obtain ⟨a', e1, ⟨w, v, e2, e3, e4⟩ | ⟨e2, e3⟩⟩ := dget_of k3 hx3 hy (Rep.mono (g2.trans g3).le (g2.trans g3).pre _ _ r1) (Rep.mono g3.le g3.pre _ _ r2)
              · cases e1
                rw [e2] at P3
                exact ⟨some v, e3, P3 μ3 H3 _ k3 .refl e4⟩
              · cases e1
                rw [e2] at P3
                exact ⟨none, e3, P3 μ3 H3 _ k3 .refl r3⟩
            · exact P3.elim
      · exact P1.elim
/-! ## making -/
def eDct0 : Sem := fun _ st => .ok (.cell st.length) (st ++ [.dct [] []])
theorem ev_dct0 {pos : Pos} : EV X Wx (.Dict [] [] pos) eDct0 := PEm pe_dnewK fun σ H Q ⟨μ, st, hid, fr, S, P⟩ => by
  intro p hp
  obtain ⟨k2, g2⟩ := S.sto.newCell (c := .dct [] []) (o := .dK []) hp rfl ⟨[], ⟨false, .inl [], rfl, rfl, upd_same⟩, .nil⟩
  refine P _ _ _ k2 g2 ?_
  unfold Rep
  exact ⟨p, by rw [← S.sto.len]; simp, rfl⟩
/-- {i: j} -/
def eDct1 (i j : Int) : Sem := fun _ st => .ok (.cell st.length) (st ++ [.dct [.int i] [.int j]])
theorem ev_dct1 {i j : Int} {n m : Nat} {p1 p2 pos : Pos} : EV X Wx (.Dict [some (.Constant (.int i) n p1)] [.Constant (.int j) m p2] pos) (eDct1 i j) :=
  PEm (pe_disp (pps_cons pe_int pe_int pps_nil) rfl rfl (by simp) (by simp)) fun σ H Q ⟨μ, st, hid, fr, S, P⟩ => by
    intro p hp
    refine ⟨upd_same, [(.inl i, .int j)], rfl, by simp, ?_⟩
    have e : upd (upd H p (.dK [])) p (.dK (mergeK [] [(.inl i, .int j)])) = upd H p (.dK [(.inl i, .int j)]) := by
      funext b
      by_cases z : b = p
      · subst z; rw [upd_same, upd_same]; rfl
      · rw [upd_ne z, upd_ne z, upd_ne z]
    rw [e]
    obtain ⟨k2, g2⟩ := S.sto.newCell (c := .dct [.int i] [.int j]) (o := .dK [(.inl i, .int j)]) hp rfl ⟨[.int j], ⟨false, .inl [.inl i], rfl, rfl, upd_same⟩, .cons rep_int .nil⟩
    refine P _ _ _ k2 g2 ?_
    unfold Rep
    exact ⟨p, by rw [← S.sto.len]; simp, rfl⟩
/-! ## writing -/
def uDct : Op3 := fun o y w st => match o with
  | .cell n => (match st[n]? with
    | some (.dct ks ws) => (match mapO keyW ks, keyW y with
      | some kk, some j => if ks.length < LINE then (if (kk.any fun i => decide (i = j)) = true then some (st.set n (.dct ks (putX kk ws j w))) else some (st.set n (.dct (ks ++ [y]) (ws ++ [w])))) else none
      | _, _ => none)
    | _ => none)
  | _ => none
theorem os_setD : Op3S X uDct rSetD := by
  intro hid μ st st' H Q o y w ov yv v k ro ry rw_ e q
  unfold uDct at e
  split at e
  · rename_i n
    split at e
    · rename_i ks ws e1
      split at e
      · rename_i kk j hk hy
        obtain ⟨a, rfl, h1, vs, ⟨l, q', g1, g2, g3⟩, h3⟩ := k.cell e1 ro
        rw [kind_plain hk] at g1
        cases g1
        have g3' : H a = some (.dK (kk.zip vs)) := g3
        have g2' : kk.length = vs.length := g2
        split at e
        · rename_i hl
          have hz : (kk.zip vs).length < sizeLine := by
            have := mapO_len hk
            have := le_line (Nat.le_of_lt hl)
            rw [List.length_zip]
            unfold LINE at hl
            rw [sizeLine_eq]; omega
          refine ⟨a, _, rfl, .inl ⟨kk.zip vs, j, g3', key_rep hy ry, hz, rfl⟩, ?_⟩
          unfold putK
          rw [any_zip j kk vs g2']
          split at e
          · rename_i hany
            cases e
            rw [if_pos hany, zip_put j v kk vs g2']
            have hl2 : kk.length = (putX kk vs j v).length := by rw [putX_len g2']
            obtain ⟨k2, g4⟩ := k.setCell (c' := .dct ks (putX kk ws j w)) (o := .dK (kk.zip (putX kk vs j v))) h1 e1 rfl rfl ⟨_, ⟨false, .inl kk, kind_plain hk, hl2, upd_same⟩, reps_put rw_ g2' h3⟩ (unl_plain hk)
            exact q _ _ k2 g4
          · rename_i hany
            cases e
            rw [if_neg hany]
            have ez : kk.zip vs ++ [(j, v)] = (kk ++ [j]).zip (vs ++ [v]) := by rw [List.zip_append g2']; rfl
            rw [ez]
            have hk2 := mapO_snoc hk hy
            obtain ⟨k2, g4⟩ := k.setCell (c' := .dct (ks ++ [y]) (ws ++ [w])) (o := .dK ((kk ++ [j]).zip (vs ++ [v]))) h1 e1 rfl rfl ⟨_, ⟨false, .inl (kk ++ [j]), kind_plain hk2, by show (kk ++ [j]).length = (vs ++ [v]).length; simp [g2'], upd_same⟩, h3.append (.cons rw_ .nil)⟩ (unl_plain hk)
            exact q _ _ k2 g4
        · cases e
      · cases e
    · cases e
  · cases e
theorem sv_subD {k : Nat} {o i e : Expr} {f fo fi : Sem} {pos tpos : Pos} (C : Ctx X Wx k) (he : EV X Wx e f) (ho : EV X Wx o fo) (hi : EV X Wx i fi)
    (ha : ∀ v, assign (.Subscript o i tpos) X.env v = (do
      let ov ← holding [v] (eval o X.env)
      let iv ← holding [v, ov] (eval i X.env)
      standAt tpos
      holding [v, ov, iv] (setItem ov iv v)
      release [v, ov, iv] []) := by intro _; rfl)
    (hs1 : swapsWithSole [.Subscript o i tpos] e pos.line X.env = pure false := by rfl) (hw : swappedStores [.Subscript o i tpos] e X.env = pure none := by rfl) (h1 : (assignEach [.Subscript o i tpos] X.env).map (·.2) = [assign (.Subscript o i tpos) X.env] := by rfl) :
    SV X Wx (.Assign [.Subscript o i tpos] e pos) (sSub uDct f fo fi) := sv_sub (set_dict (by have := C.room.un; omega)) os_setD he ho hi ha hs1 hw h1
end
end SL

namespace SL
open PySem PySem.Spec PyProof.Rows L2
/-! # a dict walked: locked meanwhile -/
def lkL : List W → List W := fun ks => .ty "L" :: ks
/-- the cell n's dict is let go -/
def unlk (n : Nat) (st : Sto) : Option Sto := match st[n]? with
  | some (.dct (.ty t :: ks) ws) => if t = "L" then (match mapO keyW ks with
    | some _ => some (st.set n (.dct ks ws))
    | none => none) else none
  | _ => none
def unlS (n : Nat) : SOut → SOut
  | .nx fr st => (match unlk n st with
    | some st2 => .nx fr st2
    | none => .bad)
  | .bk fr st => (match unlk n st with
    | some st2 => .bk fr st2
    | none => .bad)
  | .ct fr st => (match unlk n st with
    | some st2 => .ct fr st2
    | none => .bad)
  | .rt w st => (match unlk n st with
    | some st2 => .rt w st2
    | none => .bad)
  | _ => .bad
def unlE (n : Nat) : Out W → Out W
  | .ok w st => (match unlk n st with
    | some st2 => .ok w st2
    | none => .bad)
  | _ => .bad
/-- while s runs the dict in slot i is locked; one that is locked already stays so -/
def sLock (i : Nat) (s : SSem) : SSem := fun fr st => match fr[i]? with
  | some (some (.cell n)) => (match st[n]? with
    | some (.dct ks ws) => (match mapO keyW ks with
      | some _ => unlS n (s fr (st.set n (.dct (lkL ks) ws)))
      | none => s fr st)
    | _ => .bad)
  | _ => .bad
def eLock (i : Nat) (e : Sem) : Sem := fun fr st => match fr[i]? with
  | some (some (.cell n)) => (match st[n]? with
    | some (.dct ks ws) => (match mapO keyW ks with
      | some _ => unlE n (e fr (st.set n (.dct (lkL ks) ws)))
      | none => e fr st)
    | _ => .bad)
  | _ => .bad
/-- the keys of the locked dict in slot i -/
def iKeysW (i : Nat) : SemI := fun fr st => match fr[i]? with
  | some (some (.cell n)) => (match st[n]? with
    | some (.dct (.ty t :: ks) _) => if t = "L" then (match mapO keyW ks with
      | some _ => if ks.length ≤ LINE then .ok (.non, ks) st else .bad
      | none => .bad) else .bad
    | _ => .bad)
  | _ => .bad
section
variable {K : PySem.W.Frag} {mg : Str → Option Value} {Wx : Wish} {μ hid : List Addr} {st : Sto} {fr : Fr} {σ : L2.St} {H : Hp}
theorem live_dct {ks ws : List W} : (Cel.dct ks ws).live = true := rfl
/-- the state as it is locked -/
theorem SI.lock (S : SI K mg Wx μ st hid fr σ H) {i n : Nat} {ks ws : List W} {kk : List Key} (hf : fr[i]? = some (some (.cell n))) (hn : st[n]? = some (.dct ks ws)) (hk : mapO keyW ks = some kk) :
    ∃ (d : Addr) (vs : List V), μ[n]? = some d ∧ d ∉ hid ∧ kk.length = vs.length ∧ H d = some (.dK (kk.zip vs)) ∧ ∀ od, SI K mg Wx μ (st.set n (.dct (lkL ks) ws)) hid fr σ (upd H d (.frz od (.dK (kk.zip vs)))) ∧ Fz μ (st.set n (.dct (lkL ks) ws)) hid (upd H d (.frz od (.dK (kk.zip vs)))) = Fz μ st hid H := by
  obtain ⟨v, hv, r⟩ := S.loc i _ hf
  obtain ⟨d, rfl, h1, vs, ⟨l, q, g1, g2, g3⟩, h3⟩ := S.sto.cell hn r
  rw [kind_plain hk] at g1
  cases g1
  have g3' : H d = some (.dK (kk.zip vs)) := g3
  have g2' : kk.length = vs.length := g2
  refine ⟨d, vs, h1, S.sto.hidn n d _ h1 hn rfl, g2', g3', fun od => ?_⟩
  have kl : kindW (lkL ks) = some (true, .inl kk) := by
    show (mapO keyW ks).map (fun kk => (true, Sum.inl kk)) = _
    rw [hk]; rfl
  obtain ⟨k2, e, _⟩ := S.sto.setCell0 (c' := .dct (lkL ks) ws) (o := .frz od (.dK (kk.zip vs))) h1 hn rfl rfl ⟨vs, ⟨true, .inl kk, kl, g2', od, upd_same⟩, h3⟩
  exact ⟨⟨k2, S.len, fun j w h => by rw [e]; exact S.loc j w h, by rw [e]; exact S.ex⟩, e⟩
/-- .. and let go -/
theorem unlk_at {n : Nat} {st2 : Sto} {d : Addr} {od : Obj} {u : HO} (k : StOk K mg μ st hid H) (h : unlk n st = some st2) (hd : μ[n]? = some d) (hH : H d = some (.frz od u)) :
    StOk K mg μ st2 hid (upd H d u) ∧ Fz μ st2 hid (upd H d u) = Fz μ st hid H := by
  unfold unlk at h
  split at h
  · rename_i t ks ws hn
    split at h
    · rename_i ht
      subst ht
      split at h
      · rename_i kk hk
        cases h
        obtain ⟨vs, ⟨l, q, g1, g2, g3⟩, h3⟩ := k.ok n d _ hd hn
        have kl : kindW (.ty "L" :: ks) = some (true, .inl kk) := by
          show (mapO keyW ks).map (fun kk => (true, Sum.inl kk)) = _
          rw [hk]; rfl
        rw [kl] at g1
        cases g1
        obtain ⟨o, g3⟩ := g3
        have g3' : H d = some (.frz o (.dK (kk.zip vs))) := g3
        rw [hH] at g3'
        cases g3'
        obtain ⟨k2, e, _⟩ := k.setCell0 (c' := .dct ks ws) (o := .dK (kk.zip vs)) hd hn rfl rfl ⟨vs, ⟨false, .inl kk, kind_plain hk, g2, upd_same⟩, h3⟩
        exact ⟨k2, e⟩
      · cases h
    · cases h
  · cases h
theorem SI.free {μ2 : List Addr} {st2 st3 : Sto} {fr2 : Fr} {σ2 : L2.St} {H2 : Hp} {n : Nat} {d : Addr} {od : Obj} {u : HO} (S2 : SI K mg Wx μ2 st2 hid fr2 σ2 H2) (h : unlk n st2 = some st3) (hd : μ2[n]? = some d) (hH : H2 d = some (.frz od u)) : SI K mg Wx μ2 st3 hid fr2 σ2 (upd H2 d u) := by
  obtain ⟨k3, e⟩ := unlk_at S2.sto h hd hH
  exact ⟨k3, S2.len, fun j w h => by rw [e]; exact S2.loc j w h, by rw [e]; exact S2.ex⟩
/-- from before the lock to behind it -/
theorem grow_lock {st1 st2 st3 : Sto} {μ2 : List Addr} {H1 H2 : Hp} {n : Nat} {d : Addr} {od : Obj} {u : HO} (e1 : Fz μ st1 hid H1 = Fz μ st hid H) (hd : d ∉ hid) (hu : H d = some u) (nf : ∀ o z, u ≠ .frz o z) (hH1 : H1 = upd H d (.frz od u)) (g : Grow hid μ st1 H1 μ2 st2 H2) (e2 : Fz μ2 st3 hid (upd H2 d u) = Fz μ2 st2 hid H2) :
    Grow hid μ st H μ2 st3 (upd H2 d u) := by
  subst hH1
  refine ⟨g.pre, by rw [e2, ← e1]; exact g.le, fun a ha => ?_, fun a o z h => ?_⟩
  · have ne : a ≠ d := fun e => hd (e ▸ ha)
    rw [upd_ne ne, g.hid a ha, upd_ne ne]
  · have ne : a ≠ d := fun e => by
      rw [e, hu] at h
      exact nf o z (Option.some.inj h)
    rw [upd_ne ne]
    exact g.lck a o z (by rw [upd_ne ne]; exact h)
end
section
variable {X : Cx} {Wx : Wish}
theorem PSor {st : Stmt} {t1 t2 : TS} (h1 : PS X st t1) (h2 : PS X st t2) : PS X st (fun D σ H => t1 D σ H ∨ t2 D σ H) := ⟨fun pins s σ H D I q => q.elim (h1.run pins s σ H D I) (h2.run pins s σ H D I)⟩
theorem PEor {e : Expr} {t1 t2 : TE} (h1 : PE X e t1) (h2 : PE X e t2) : PE X e (fun σ H Q => t1 σ H Q ∨ t2 σ H Q) := ⟨fun pins s σ H Q I q => q.elim (h1.run pins s σ H Q I) (h2.run pins s σ H Q I)⟩
theorem sv_lock {i : Nat} {st : Stmt} {s : SSem} (h : SV X Wx st s) : SV X Wx st (sLock i s) := PSm (PSor (ps_lock h) h) fun D σ H ⟨μ, st, hid, fr, S, P⟩ => by
  unfold sLock at P
  split at P
  · rename_i n hf
    split at P
    · rename_i ks ws hn
      split at P
      · rename_i kk hk
        obtain ⟨d, vs, h1, h2, h3, h4, h5⟩ := S.lock hf hn hk
        refine .inl ⟨d, _, h4, trivial, fun od => ?_⟩
        obtain ⟨S1, e1⟩ := h5 od
        refine ⟨μ, _, hid, fr, S1, ?_⟩
        have at2 : ∀ {μ2 : List Addr} {st2 : Sto} {H2 : Hp}, Grow hid μ (st.set n (.dct (lkL ks) ws)) (upd H d (.frz od (.dK (kk.zip vs)))) μ2 st2 H2 → μ2[n]? = some d ∧ H2 d = some (.frz od (.dK (kk.zip vs))) := fun g => ⟨g.pre.get h1, g.lck _ _ _ upd_same⟩
        cases e : s fr (st.set n (.dct (lkL ks) ws)) with
        | bad => rw [e] at P; exact P
        | er x f s => rw [e] at P; exact False.elim P
        | nx f2 st2 =>
          rw [e] at P
          intro μ2 σ2 H2 S2 g
          obtain ⟨a1, a2⟩ := at2 g
          refine ⟨a2, ?_⟩
          cases eu : unlk n st2 with
          | none => simp only [unlS, eu] at P; exact False.elim P
          | some st3 =>
            simp only [unlS, eu] at P
            exact P μ2 σ2 _ (S2.free eu a1 a2) (grow_lock (n := n) e1 h2 h4 (fun o z q => nomatch q) rfl g (unlk_at S2.sto eu a1 a2).2)
        | bk f2 st2 =>
          rw [e] at P
          intro μ2 σ2 H2 S2 g
          obtain ⟨a1, a2⟩ := at2 g
          refine ⟨a2, ?_⟩
          cases eu : unlk n st2 with
          | none => simp only [unlS, eu] at P; exact False.elim P
          | some st3 =>
            simp only [unlS, eu] at P
            exact P μ2 σ2 _ (S2.free eu a1 a2) (grow_lock (n := n) e1 h2 h4 (fun o z q => nomatch q) rfl g (unlk_at S2.sto eu a1 a2).2)
        | ct f2 st2 =>
          rw [e] at P
          intro μ2 σ2 H2 S2 g
          obtain ⟨a1, a2⟩ := at2 g
          refine ⟨a2, ?_⟩
          cases eu : unlk n st2 with
          | none => simp only [unlS, eu] at P; exact False.elim P
          | some st3 =>
            simp only [unlS, eu] at P
            exact P μ2 σ2 _ (S2.free eu a1 a2) (grow_lock (n := n) e1 h2 h4 (fun o z q => nomatch q) rfl g (unlk_at S2.sto eu a1 a2).2)
        | rt w st2 =>
          rw [e] at P
          intro μ2 H2 v k2 g r2
          obtain ⟨a1, a2⟩ := at2 g
          refine ⟨a2, ?_⟩
          cases eu : unlk n st2 with
          | none => simp only [unlS, eu] at P; exact False.elim P
          | some st3 =>
            simp only [unlS, eu] at P
            obtain ⟨k3, e3⟩ := unlk_at k2 eu a1 a2
            exact P μ2 _ v k3 (grow_lock (n := n) e1 h2 h4 (fun o z q => nomatch q) rfl g e3) (by rw [e3]; exact r2)
      · exact .inr ⟨μ, st, hid, fr, S, P⟩
    · exact P.elim
  · exact P.elim
theorem ev_lock {i : Nat} {e : Expr} {f : Sem} (h : EV X Wx e f) : EV X Wx e (eLock i f) := PEm (PEor (pe_lock h) h) fun σ H Q ⟨μ, st, hid, fr, S, P⟩ => by
  unfold eLock at P
  split at P
  · rename_i n hf
    split at P
    · rename_i ks ws hn
      split at P
      · rename_i kk hk
        obtain ⟨d, vs, h1, h2, h3, h4, h5⟩ := S.lock hf hn hk
        refine .inl ⟨d, _, h4, trivial, fun od => ?_⟩
        obtain ⟨S1, e1⟩ := h5 od
        refine ⟨μ, _, hid, fr, S1, ?_⟩
        cases e : f fr (st.set n (.dct (lkL ks) ws)) with
        | bad => rw [e] at P; exact P
        | err x s => rw [e] at P; exact P.elim
        | ok w st2 =>
          rw [e] at P
          intro μ2 H2 v k2 g r2
          have a1 := g.pre.get h1
          have a2 := g.lck _ _ _ (upd_same (H := H) (a := d) (o := .frz od (.dK (kk.zip vs))))
          refine ⟨a2, ?_⟩
          cases eu : unlk n st2 with
          | none => simp only [unlE, eu] at P; exact False.elim P
          | some st3 =>
            simp only [unlE, eu] at P
            obtain ⟨k3, e3⟩ := unlk_at k2 eu a1 a2
            exact P μ2 _ v k3 (grow_lock (n := n) e1 h2 h4 (fun o z q => nomatch q) rfl g e3) (by rw [e3]; exact r2)
      · exact .inr ⟨μ, st, hid, fr, S, P⟩
    · exact P.elim
  · exact P.elim
theorem iv_keys {i : Nat} {x : Str} {tg : Expr} {pos : Pos} (he : EV X Wx (.Name x pos) (eVar i)) : IV X Wx tg (.Name x pos) (iKeysW i) := PIm (pi_keys he) fun σ H R ⟨μ, st, hid, fr, S, P⟩ => by
  unfold iKeysW at P
  split at P
  · rename_i n hf
    split at P
    · rename_i t ks ws hn
      split at P
      · rename_i ht
        subst ht
        split at P
        · rename_i kk hk
          split at P
          · rename_i hl
            refine ⟨μ, st, hid, fr, S, ?_⟩
            have ev : eVar i fr st = .ok (.cell n) st := by unfold eVar; rw [hf]
            rw [ev]
            intro μ1 H1 v k1 g1 r1
            obtain ⟨d, rfl, h1, vs, ⟨l, q, c1, c2, c3⟩, h3⟩ := k1.cell hn r1
            have kl : kindW (.ty "L" :: ks) = some (true, .inl kk) := by
              show (mapO keyW ks).map (fun kk => (true, Sum.inl kk)) = _
              rw [hk]; rfl
            rw [kl] at c1
            cases c1
            obtain ⟨o, c3⟩ := c3
            have c3' : H1 d = some (.frz o (.dK (kk.zip vs))) := c3
            have c2' : kk.length = vs.length := c2
            have hkl := mapO_len hk
            have hz : (kk.zip vs).length = ks.length := by rw [List.length_zip]; omega
            refine ⟨d, o, rfl, .inl ⟨_, c3', P μ1 H1 _ k1 g1 ?_⟩⟩
            exact {
              len := le_line hl
              go := fun hid μ st H j k l p q s hj => ⟨q _ _ _ c3', by rw [hz]; exact hj⟩
              yld := fun hid μ st H j v H' k l p q s hj y => by
                obtain ⟨rfl, key, u, e1, rfl⟩ := y
                refine ⟨k, .refl, ks[j], List.getElem?_eq_getElem hj, ?_⟩
                have e2 : kk[j]? = some key := by
                  rw [List.getElem?_zip_eq_some] at e1
                  exact e1.1
                exact rep_key (mapO_get hk (List.getElem?_eq_getElem hj) e2)
              stop := fun hid μ st H j k l p q s hj => ⟨q _ _ _ c3', by rw [hz]; exact hj⟩ }
          · exact P.elim
        · exact P.elim
      · exact P.elim
    · exact P.elim
  · exact P.elim
end
end SL

namespace SL
open PySem PySem.Spec PyProof.Rows L2
/-! ## a def that hands back an old cell or a new one -/
def leaveB (n : Nat) (w : W) (st : Sto) : Out W := match w with
  | .cell j => if n ≤ j then leaveC n (.cell j) st else leave n (.cell j) st
  | w => leave n w st
theorem lv_leaveB {K : PySem.W.Frag} {mg : Str → Option Value} : LvOk K mg leaveB := fun n hid μ0 μ st0 st H0 H Wx σ Q w v hn g k r P => by
  unfold leaveB at P
  split at P
  · split at P
    · exact lv_leaveC n hid μ0 μ st0 st H0 H Wx σ Q _ v hn g k r P
    · exact lv_leave n hid μ0 μ st0 st H0 H Wx σ Q _ v hn g k r P
  · exact lv_leave n hid μ0 μ st0 st H0 H Wx σ Q _ v hn g k r P
def mkFnB (m : Nat) (b : SSem) : Fn := mkFnG leaveB m b
/-! ## an own instance is of no built-in type -/
structure NoTy (K : PySem.W.Frag) (C : Addr) : Prop where
  no : ∀ n, tyN n = true → PySem.W.kitOne K (.ref C) (.type n) = some false
theorem noTy_of {K : PySem.W.Frag} {C : Addr} (h1 : PySem.W.mroIn K C (.type "int") = some false) (h2 : PySem.W.mroIn K C (.type "bool") = some false) (h3 : PySem.W.mroIn K C (.type "str") = some false) (h4 : PySem.W.mroIn K C (.type "tuple") = some false) (h5 : PySem.W.mroIn K C (.type "list") = some false) (h6 : PySem.W.mroIn K C (.type "dict") = some false) (h7 : PySem.W.mroIn K C (.type "NoneType") = some false) : NoTy K C := ⟨fun n hn => by
  have go : ∀ t, PySem.W.kitMeta t = true → PySem.W.mroIn K C (.type t) = some false → PySem.W.kitOne K (.ref C) (.type t) = some false := fun t a b => by
    show (if (Value.ref C == Value.type t) = true then some true else (if PySem.W.kitMeta t = true then PySem.W.subIn K (.ref C) (.type t) else none)) = some false
    have z : (Value.ref C == Value.type t) = false := by simp
    rw [if_neg (by rw [z]; exact Bool.false_ne_true), if_pos a]
    exact b
  simp only [tyN, Bool.or_eq_true, beq_iff_eq] at hn
  rcases hn with (((((rfl | rfl) | rfl) | rfl) | rfl) | rfl) | rfl
  · exact go _ (by decide +kernel) h1
  · exact go _ (by decide +kernel) h2
  · exact go _ (by decide +kernel) h3
  · exact go _ (by decide +kernel) h4
  · exact go _ (by decide +kernel) h5
  · exact go _ (by decide +kernel) h6
  · exact go _ (by decide +kernel) h7⟩
theorem noAny {K : PySem.W.Frag} {C : Addr} (h : NoTy K C) : ∀ ns : List String, ns.all tyN = true → PySem.W.kitAny K (.ref C) (ns.map Value.type) = some false
  | [], _ => rfl
  | n :: ns, e => by
    rw [List.all_cons, Bool.and_eq_true] at e
    show (match PySem.W.kitOne K (.ref C) (.type n) with
      | some true => some true
      | some false => PySem.W.kitAny K (.ref C) (ns.map Value.type)
      | none => none) = _
    rw [h.no n e.1]
    exact noAny h ns e.2
/-- isinstance of data, and of the class c's instances -/
def oIsiI (c : Str) : OpN := fun ws st => match ws with
  | [x, .ty n] => (match insW st x with
    | some (e, _, _) => if e = c ∧ tyN n = true then .ok (.bl false) st else .bad
    | none => oIsi [x, .ty n] st)
  | [x, .tup cs] => (match insW st x with
    | some (e, _, _) => (match tyNames cs with
      | some ns => if e = c ∧ ns.all tyN = true then .ok (.bl false) st else .bad
      | none => .bad)
    | none => oIsi [x, .tup cs] st)
  | _ => .bad
section
variable {X : Cx}
theorem os_isiI {c : Str} {C : Addr} (hm : X.mg c = some (.ref C)) (T : ClsC X.K C) (N : NoTy X.K C) : OpNS X (oIsiI c) (rIsiAll X.K) := by
  intro Wx hid μ st σ H Q ws vs k r P
  unfold oIsiI at P
  split at P
  · rename_i x n
    split at P
    · rename_i e n' w' hi
      split at P
      · rename_i he
        obtain ⟨rfl, hn⟩ := he
        obtain ⟨v, z, rfl, r1, r2⟩ := reps2 r
        obtain ⟨a, D, dx, us, rfl, g1, g2, g3, g4⟩ := insW_at k hi r1
        rw [hm] at g1
        cases g1
        rw [rep_ty_inv r2]
        exact .inl ⟨.ref a, .ty n, .ref C, .type n, false, rfl, .ty n, .base (.ins g3 T.cl T.ha T.hn T.htk T.hm), N.no n hn, P μ H _ k .refl rep_bl⟩
      · exact P.elim
    · exact os_isi _ hid μ st σ H Q _ vs k r P
  · rename_i x cs
    split at P
    · rename_i e n' w' hi
      split at P
      · rename_i ns e2
        split at P
        · rename_i he
          obtain ⟨rfl, hn⟩ := he
          obtain ⟨v, c', rfl, r1, r2⟩ := reps2 r
          obtain ⟨a, D, dx, us, rfl, g1, g2, g3, g4⟩ := insW_at k hi r1
          rw [hm] at g1
          cases g1
          have ty : TyX X.K H (.ref a) (.ref C) := .base (.ins g3 T.cl T.ha T.hn T.htk T.hm)
          obtain ⟨b, us, rfl, h1, h2⟩ := rep_tup_inv r2
          have e3 := tyNames_at e2 h2
          subst e3
          exact .inr (.inl ⟨_, b, _, .ref C, _, _, rfl, (Fz.sub h1).1, paired_ty ns, ty, noAny N ns hn, P μ H _ k .refl rep_bl⟩)
        · exact P.elim
      · exact P.elim
    · exact os_isi _ hid μ st σ H Q _ vs k r P
  · exact P.elim
end
end SL

namespace SL
open PySem PySem.Spec PyProof.Rows L2
/-! ## {'x': e}, as data -/
def eDctS (x : Str) (f : Sem) : Sem := fun fr st => (f fr st).bind fun w st1 => .ok (.dct [.str x] [w]) st1
section
variable {X : Cx} {Wx : Wish}
theorem ev_dctS {x : Str} {e : Expr} {f : Sem} {n : Nat} {p1 pos : Pos} (he : EV X Wx e f) : EV X Wx (.Dict [some (.Constant (.str x) n p1)] [e] pos) (eDctS x f) :=
  PEm (pe_disp (pps_cons pe_str he pps_nil) rfl rfl (by simp) (by simp)) fun σ H Q ⟨μ, st, hid, fr, S, P⟩ => by
    intro p hp
    have pn : p ∉ hid := fun z => (S.sto.hidt p z).1 hp
    obtain ⟨k2, e2⟩ := S.sto.hideNew (o := .dK []) hp
    have S2 : SI X.K X.mg Wx μ st (p :: hid) fr σ (upd H p (.dK [])) := ⟨k2, S.len, fun j w h => by rw [e2]; exact S.loc j w h, by rw [e2]; exact S.ex⟩
    refine ⟨μ, st, p :: hid, fr, S2, ?_⟩
    unfold eDctS at P
    have lk0 : ∀ {H1 : Hp}, Lk (upd H p (.dK [])) H1 → Lk H H1 := fun l a o u h => l a o u (by rw [upd_ne (ne_of_none h hp)]; exact h)
    cases h1 : f fr st with
    | bad => rw [h1] at P; exact P
    | err z s =>
      rw [h1] at P
      intro μ1 H1 c d k1 g1 xr
      obtain ⟨k3, l3, e3⟩ := k1.seen pn ((g1.hid p List.mem_cons_self).trans upd_same)
      refine P μ1 H1 c d k3 ⟨g1.pre, ?_, fun a ha => ?_, lk0 g1.lck⟩ (xr.mono l3 (.refl _))
      · rw [← e2]; exact g1.le.trans l3
      · have ne : a ≠ p := fun z => pn (z ▸ ha)
        rw [g1.hid a (List.mem_cons_of_mem _ ha), upd_ne ne]
    | ok w st1 =>
      rw [h1, Out.bind_ok] at P
      intro μ1 H1 v k1 g1 r1
      have hp1 : H1 p = some (.dK []) := (g1.hid p List.mem_cons_self).trans upd_same
      refine ⟨hp1, [(.inr x, v)], rfl, by simp, ?_⟩
      have k4 := k1.hidUpd (o := .dK [(.inr x, v)]) (List.mem_cons_self (a := p) (l := hid))
      have f4 := Fz.hidUpd (μ := μ1) (st := st1) (H := H1) (o := .dK [(.inr x, v)]) (List.mem_cons_self (a := p) (l := hid))
      obtain ⟨k5, l5, e5⟩ := k4.seen pn upd_same
      refine P μ1 _ _ k5 ⟨g1.pre, ?_, fun a ha => ?_, fun a o u h => ?_⟩ ?_
      · rw [← e2]; exact (g1.le.trans (by rw [f4]; exact .refl _)).trans l5
      · have ne : a ≠ p := fun z => pn (z ▸ ha)
        show upd H1 p _ a = _
        rw [upd_ne ne, g1.hid a (List.mem_cons_of_mem _ ha), upd_ne ne]
      · have q := lk0 g1.lck a o u h
        have ne : a ≠ p := fun z => by rw [z, hp1] at q; cases q
        show upd H1 p _ a = _
        rw [upd_ne ne]; exact q
      · unfold Rep
        exact ⟨p, [v], rfl, ⟨false, .inl [.inr x], rfl, rfl, .inl e5, fun _ kk z => nomatch z⟩, .cons (r1.mono (by rw [← f4]; exact l5) (.refl _)) .nil⟩
end
/-! ## words of reckoning -/
section
variable {st : Sto} {c : Str} {n : String} {cs : List W}
@[simp] theorem isiI_int {i : Int} : oIsiI c [.int i, .ty n] st = oIsi [.int i, .ty n] st := rfl
@[simp] theorem isiI_bl {b : Bool} : oIsiI c [.bl b, .ty n] st = oIsi [.bl b, .ty n] st := rfl
@[simp] theorem isiI_str {x : Str} : oIsiI c [.str x, .ty n] st = oIsi [.str x, .ty n] st := rfl
@[simp] theorem isiI_non : oIsiI c [.non, .ty n] st = oIsi [.non, .ty n] st := rfl
@[simp] theorem isiI_tup {ws : List W} : oIsiI c [.tup ws, .ty n] st = oIsi [.tup ws, .ty n] st := rfl
@[simp] theorem isiI_lst {ws : List W} : oIsiI c [.lst ws, .ty n] st = oIsi [.lst ws, .ty n] st := rfl
@[simp] theorem isiI_dct {ks ws : List W} : oIsiI c [.dct ks ws, .ty n] st = oIsi [.dct ks ws, .ty n] st := rfl
theorem isiI_ins {ns : List Str} {ws : List W} (h : tyN n = true) : oIsiI c [.ins c ns ws, .ty n] st = .ok (.bl false) st := by
  show (if c = c ∧ tyN n = true then Out.ok (W.bl false) st else .bad) = _
  rw [if_pos ⟨rfl, h⟩]
end
end SL

/-! # len(set(xs)), xs a list of tuples of ints -/
namespace SL
open PySem PySem.Spec PyProof.Rows L2
def tLenSetT (K : PySem.W.Frag) (ta : TE) : TE := fun σ H Q => ta σ H fun x H1 => ∃ (l : Addr) (ks : List (Addr × List Int)), x = V.ref l ∧ SqL K H1 l (ks.map fun p => V.ref p.1) ∧ (∀ p ∈ ks, SqT K H1 p.1 (p.2.map V.int)) ∧ ks.length < 64 ∧
  ∀ L : List (Addr × List Int), (∀ p ∈ L, p ∈ ks) → (∀ p ∈ ks, p.2 ∈ L.map (·.2)) → (L.map (·.2)).Nodup → Q (.int L.length) H1
/-- each one once -/
def onceL : List (List Int) → List (List Int)
  | [] => []
  | k :: ks => if k ∈ onceL ks then onceL ks else k :: onceL ks
theorem mem_once {k : List Int} : ∀ {ks : List (List Int)}, k ∈ onceL ks ↔ k ∈ ks
  | [] => .rfl
  | x :: ks => by
    unfold onceL
    by_cases h : x ∈ onceL ks
    · rw [if_pos h, mem_once, List.mem_cons]
      constructor
      · exact .inr
      · rintro (rfl | z)
        · exact mem_once.mp h
        · exact z
    · rw [if_neg h, List.mem_cons, List.mem_cons, mem_once]
theorem nodup_once : ∀ ks : List (List Int), (onceL ks).Nodup
  | [] => List.nodup_nil
  | x :: ks => by
    unfold onceL
    by_cases h : x ∈ onceL ks
    · rw [if_pos h]; exact nodup_once ks
    · rw [if_neg h]; exact List.nodup_cons.mpr ⟨h, nodup_once ks⟩
noncomputable def eLenSet (f : Sem) : Sem := fun fr st => (f fr st).bind fun w st1 => match (lstW st1 w).bind tupsI with
  | some ks => if dec (ks.length < 64) = true then .ok (.int (onceL ks).length) st1 else .bad
  | none => .bad
section
variable {X : Cx} {Wx : Wish}
theorem pe_lenSetT {a : Expr} {ta : TE} {p p2 q pos : Pos} (hc : X.calm = true) (hu : X.A.units + 64 < cLine) (hg : Gl X "len") (hm : X.mg "len" = none) (hg2 : Gl X "set") (hm2 : X.mg "set" = none) (ha : PE X a ta)
    (na : starEach [a] X.env = (false, eval a X.env) :: starEach [] X.env := by rfl) : PE X (.Call (.Name "len" p) [.Call (.Name "set" p2) [a] [] q] [] pos) (tLenSetT X.K ta) := by
  refine ⟨fun pins s σ H Q I h => ?_⟩
  refine Call_ (ld_blt I hg hm PySem.boot_len ?_)
  refine PyProof.Rows.callWith_builtin1 (PyProof.Rows.args_cons ?_ rfl) rfl rfl
  refine Call_ (ld_blt I hg2 hm2 PyProof.Rows.boot_set ?_)
  refine PyProof.Rows.callWith_type1 (PyProof.Rows.args_cons (thn (ha.run pins s σ H _ I h) fun v s1 ⟨x, H1, I1, r1, q1⟩ => PyProof.Rows.args_nil ?_) na) na rfl
  obtain ⟨l, ks, rfl, hq, hk, hf, q1⟩ := q1
  cases r1
  obtain ⟨its, rv, pl, hz⟩ := I1.list hq
  refine call_set_tups (P := X.prog) (w := X.w) ks (I1.ok.hd hc) pl.isList (by simpa using refs_of_vals rv) (fun p hp => I1.isT (hk p hp)) hf (by omega) fun h' tk L es ep t R g k => ?_
  refine PyProof.Rows.args_nil ?_
  have I2 : Inv X pins σ H1 { s1 with heap := h', toks := tk } := I1.kept k
  obtain ⟨o, ho, hex, hd⟩ := R.ob
  have hs : es.size = L.length := SetTR.size (s := { s1 with heap := h', toks := tk }) R
  have hfit : t.fits es.size = true := SetTR.fits (s := { s1 with heap := h', toks := tk }) R
  have hfew := R.few
  refine call_len_set ho hex hd hfit (by omega) ⟨.int L.length, H1, I2.tok _, ⟨_, by rw [hs]⟩, q1 L (fun p hp => ?_) (fun p hp => ?_) R.nd⟩
  · exact List.mem_of_mem_take (g.sub p hp)
  · exact g.all p (by rw [List.take_length]; exact hp)
theorem tups_refs {K : PySem.W.Frag} {mg : Str → Option Value} {H : Hp} {hid μ : List Addr} {st : Sto} : ∀ {ks : List (List Int)} {vs : List V}, Reps K mg (Fz μ st hid H) μ (ks.map tupOf) vs → ∃ ps : List (Addr × List Int), vs = ps.map (fun p => V.ref p.1) ∧ ps.map (·.2) = ks ∧ ∀ p ∈ ps, SqT K H p.1 (p.2.map V.int)
  | [], vs, r => by
    have := r.length
    cases vs with
    | nil => exact ⟨[], rfl, rfl, fun p h => nomatch h⟩
    | cons v vs => simp at this
  | k :: ks, vs, r => by
    cases vs with
    | nil => have := r.length; simp at this
    | cons v vs =>
      obtain ⟨v', t, e, h1, h2⟩ := r.cons_inv
      cases e
      obtain ⟨a, rfl, h3⟩ := tup_I h1
      obtain ⟨ps, rfl, rfl, h4⟩ := tups_refs h2
      exact ⟨(a, k) :: ps, rfl, rfl, fun p hp => by
        rcases List.mem_cons.mp hp with rfl | hp
        · exact h3
        · exact h4 p hp⟩
theorem ev_lenSet {k : Nat} {a : Expr} {f : Sem} {p p2 q pos : Pos} (C : Ctx X Wx k) (hm : X.mg "len" = none) (hm2 : X.mg "set" = none) (ha : EV X Wx a f) (hg : Gl X "len" := by rfl) (hg2 : Gl X "set" := by rfl)
    (na : starEach [a] X.env = (false, eval a X.env) :: starEach [] X.env := by rfl) : EV X Wx (.Call (.Name "len" p) [.Call (.Name "set" p2) [a] [] q] [] pos) (eLenSet f) :=
  PEm (pe_lenSetT C.calm (by have := C.room.un; omega) hg hm hg2 hm2 ha na) fun σ H Q ⟨μ, st, hid, fr, S, P⟩ => by
    refine ⟨μ, st, hid, fr, S, ?_⟩
    unfold eLenSet at P
    cases h1 : f fr st with
    | bad => rw [h1] at P; exact P
    | err x s1 => rw [h1] at P; exact P
    | ok w st1 =>
      rw [h1, Out.bind_ok] at P
      intro μ1 H1 v k1 g1 r1
      split at P
      · rename_i ks e
        split at P
        · rename_i hl
          have hl := dec_of hl
          cases e1 : lstW st1 w with
          | none => rw [e1] at e; cases e
          | some us =>
            rw [e1] at e
            obtain ⟨l, xs, rfl, h2, h3⟩ := lstW_at k1 e1 r1
            rw [tupsI_eq e] at h3
            obtain ⟨ps, rfl, rfl, h4⟩ := tups_refs h3
            rw [List.length_map] at hl
            refine ⟨l, ps, rfl, h2, h4, hl, fun L a1 a2 nd => ?_⟩
            have el : L.length = (onceL (ps.map (·.2))).length := by
              rw [← List.length_map (f := fun p : Addr × List Int => p.2)]
              refine Nat.le_antisymm (List.Nodup.length_le_of_subset nd fun y hy => ?_) (List.Nodup.length_le_of_subset (nodup_once _) fun y hy => ?_)
              · obtain ⟨q, hq, rfl⟩ := List.mem_map.mp hy
                exact mem_once.mpr (List.mem_map.mpr ⟨q, a1 q hq, rfl⟩)
              · obtain ⟨q, hq, rfl⟩ := List.mem_map.mp (mem_once.mp hy)
                exact a2 q hq
            rw [el]
            exact P μ1 H1 _ k1 g1 (by unfold Rep; rfl)
        · exact P.elim
      · exact P.elim
/-- + of lists, living or not -/
def lhW (st : Sto) : W → Option (List W)
  | .lst ws => some ws
  | .cell k => match st[k]? with
    | some (.lst ws) => some ws
    | some (.frz (.lst ws)) => some ws
    | _ => none
  | _ => none
theorem lhW_at {K : PySem.W.Frag} {mg : Str → Option Value} {μ : List Addr} {st : Sto} {hid : List Addr} {H : Hp} (s : StOk K mg μ st hid H) {w : W} {ws : List W} {v : V} (h : lhW st w = some ws) (r : Rep K mg (Fz μ st hid H) μ w v) : ∃ a vs, v = .ref a ∧ H a = some (.lst vs) ∧ Reps K mg (Fz μ st hid H) μ ws vs := by
  cases w with
  | lst us =>
    unfold lhW at h; cases h
    obtain ⟨a, vs, e, h1, h2⟩ := rep_lst_inv r
    exact ⟨a, vs, e, (Fz.sub h1).1, h2⟩
  | cell k =>
    unfold lhW at h
    simp only at h
    split at h
    · rename_i us e
      cases h
      obtain ⟨a, e1, e2, vs, h1, h2⟩ := s.cell e r
      exact ⟨a, vs, e1, h1, h2⟩
    · rename_i us e
      cases h
      obtain ⟨a, e1, e2, h1⟩ := s.cell e r
      obtain ⟨b, vs, e3, h1, h2⟩ := rep_lst_inv h1
      cases e3
      exact ⟨a, vs, e1, (Fz.sub h1).1, h2⟩
    · cases h
  | _ => cases h
def oAddC : Op2 := fun x y st => match lhW st x, lhW st y with
  | some a, some b => if a.length + b.length ≤ LINE then .ok (.lst (a ++ b)) st else .bad
  | _, _ => oAdd x y st
theorem os_addC : Op2S X oAddC (rAddAll X.K) := by
  intro Wx hid μ st σ H Q w u x y k rx ry P
  unfold oAddC at P
  split at P
  · rename_i a b ea eb
    split at P
    · rename_i hz
      obtain ⟨p, vs, rfl, h1, h2⟩ := lhW_at k ea rx
      obtain ⟨q, zs, rfl, h3, h4⟩ := lhW_at k eb ry
      refine .inr (.inr (.inr ⟨p, q, vs, zs, rfl, rfl, h1, h3, by rw [← h2.length, ← h4.length]; exact SL.le_line hz, fun t ht => ?_⟩))
      exact ok_new P k ht fun F l e => rep_lst e ((h2.append h4).mono l (.refl _))
    · exact P.elim
  · exact os_add _ hid μ st σ H Q w u x y k rx ry P
end
end SL

namespace SL
open PySem PySem.Spec PyProof.Rows L2
/-! # dicts whose keys are tuples of ints and texts -/
abbrev KeyL := List Key
def dctT (st : Sto) (x : W) : Option (List KeyL × List W) := match x with
  | .cell k => match st[k]? with
    | some (.dct ks ws) => (match kindW ks with
      | some (_, .inr kk) => some (kk, ws)
      | _ => none)
    | _ => none
  | .dct ks ws => (match kindW ks with
    | some (_, .inr kk) => some (kk, ws)
    | _ => none)
  | _ => none
def valT {α : Type} (l : List (KeyL × α)) (k : KeyL) : Option α := (l.find? fun p => decide (p.1 = k)).map (·.2)
def putT {α : Type} (kk : List KeyL) (xs : List α) (k : KeyL) (x : α) : List α := (kk.zip xs).map fun p => if p.1 = k then x else p.2
theorem zip_putT {α : Type} (k : KeyL) (x : α) : ∀ (kk : List KeyL) (xs : List α), kk.length = xs.length → (kk.zip xs).map (fun kv => if kv.1 = k then (kv.1, x) else kv) = kk.zip (putT kk xs k x)
  | [], xs, _ => by simp
  | j :: kk, [], h => by simp at h
  | j :: kk, y :: xs, h => by
    have ih := zip_putT k x kk xs (by simpa using h)
    unfold putT at ih ⊢
    rw [List.zip_cons_cons, List.map_cons, List.map_cons, List.zip_cons_cons, ih]
    by_cases e : j = k <;> simp [e]
theorem putT_len {α : Type} {kk : List KeyL} {xs : List α} {k : KeyL} {x : α} (h : kk.length = xs.length) : (putT kk xs k x).length = kk.length := by
  unfold putT; rw [List.length_map, List.length_zip]; omega
theorem any_zipT {α : Type} (k : KeyL) : ∀ (kk : List KeyL) (xs : List α), kk.length = xs.length → ((kk.zip xs).any fun kv => decide (kv.1 = k)) = kk.any fun j => decide (j = k)
  | [], xs, _ => by simp
  | j :: kk, [], h => by simp at h
  | j :: kk, y :: xs, h => by
    rw [List.zip_cons_cons, List.any_cons, List.any_cons, any_zipT k kk xs (by simpa using h)]
theorem kind_T1 {ks : List W} {kk : List KeyL} (h : mapO keyT ks = some kk) : kindW (.ty "T" :: ks) = some (false, .inr kk) := by
  show (mapO keyT ks).map (fun kk => (false, Sum.inr kk)) = _
  rw [h]; rfl
theorem kind_TL {ks : List W} {kk : List KeyL} (h : mapO keyT ks = some kk) : kindW (.ty "TL" :: ks) = some (true, .inr kk) := by
  show (mapO keyT ks).map (fun kk => (true, Sum.inr kk)) = _
  rw [h]; rfl
section
variable {K : PySem.W.Frag} {mg : Str → Option Value} {F : Hp} {μ : List Addr}
theorem keys_rep : ∀ {us : List W} {k : KeyL} {vs : List V}, keysW us = some k → Reps K mg F μ us vs → vs = k.map kV
  | [], k, vs, h, r => by
    unfold keysW at h; cases h
    have := r.length
    cases vs with
    | nil => rfl
    | cons v vs => simp at this
  | u :: us, k, vs, h, r => by
    unfold keysW at h
    cases e1 : keyW u with
    | none => rw [e1] at h; cases h
    | some j =>
      cases e2 : keysW us with
      | none => rw [e1, e2] at h; cases h
      | some js =>
        rw [e1, e2] at h; cases h
        cases vs with
        | nil => have := r.length; simp at this
        | cons v vs =>
          obtain ⟨v', t, e, h1, h2⟩ := r.cons_inv
          cases e
          rw [key_rep e1 h1, keys_rep e2 h2]; rfl
theorem rep_keys : ∀ {us : List W} {k : KeyL}, keysW us = some k → Reps K mg F μ us (k.map kV)
  | [], k, h => by unfold keysW at h; cases h; exact .nil
  | u :: us, k, h => by
    unfold keysW at h
    cases e1 : keyW u with
    | none => rw [e1] at h; cases h
    | some j =>
      cases e2 : keysW us with
      | none => rw [e1, e2] at h; cases h
      | some js =>
        rw [e1, e2] at h; cases h
        exact .cons (rep_key e1) (rep_keys e2)
theorem keyT_inv {w : W} {k : KeyL} (h : keyT w = some k) : ∃ us, w = .tup us ∧ keysW us = some k := by
  cases w with
  | tup us => exact ⟨us, rfl, h⟩
  | _ => cases h
theorem keyT_rep {w : W} {k : KeyL} {v : V} (h : keyT w = some k) (r : Rep K mg F μ w v) : ∃ b, v = .ref b ∧ F b = some (.tup (k.map kV)) := by
  obtain ⟨us, rfl, h⟩ := keyT_inv h
  obtain ⟨a, vs, rfl, h1, h2⟩ := rep_tup_inv r
  rw [keys_rep h h2] at h1
  exact ⟨a, rfl, h1⟩
theorem rep_keyT {w : W} {k : KeyL} {b : Addr} (h : keyT w = some k) (e : F b = some (.tup (k.map kV))) : Rep K mg F μ w (.ref b) := by
  obtain ⟨us, rfl, h⟩ := keyT_inv h
  exact rep_tup e (rep_keys h)
theorem val_atT (k : KeyL) : ∀ {kk : List KeyL} {ws : List W} {vs : List V}, kk.length = vs.length → Reps K mg F μ ws vs → (∀ w, valT (kk.zip ws) k = some w → ∃ v, valV (kk.zip vs) k = some v ∧ Rep K mg F μ w v) ∧ (valT (kk.zip ws) k = none → valV (kk.zip vs) k = none)
  | [], ws, vs, _, _ => by
    refine ⟨fun w h => ?_, fun _ => rfl⟩
    simp [valT] at h
  | j :: kk, ws, [], h, _ => by simp at h
  | j :: kk, ws, v :: vs, h, r => by
    have hl := r.length
    cases ws with
    | nil => simp at hl
    | cons w ws =>
      obtain ⟨v', vs', e, r1, r2⟩ := r.cons_inv
      cases e
      obtain ⟨i1, i2⟩ := val_atT k (kk := kk) (ws := ws) (vs := vs) (by simpa using h) r2
      by_cases e : j = k
      · rw [List.zip_cons_cons, List.zip_cons_cons, valV_pos (p := (j, v)) e]
        have z : valT ((j, w) :: kk.zip ws) k = some w := by simp [valT, List.find?_cons, e]
        rw [z]
        exact ⟨fun u h => by cases h; exact ⟨v, rfl, r1⟩, fun h => nomatch h⟩
      · rw [List.zip_cons_cons, List.zip_cons_cons, valV_neg (p := (j, v)) e]
        have z : valT ((j, w) :: kk.zip ws) k = valT (kk.zip ws) k := by simp [valT, List.find?_cons, e]
        rw [z]
        exact ⟨i1, i2⟩
theorem reps_putT {k : KeyL} {w : W} {v : V} (rw_ : Rep K mg F μ w v) : ∀ {kk : List KeyL} {ws : List W} {vs : List V}, kk.length = vs.length → Reps K mg F μ ws vs → Reps K mg F μ (putT kk ws k w) (putT kk vs k v)
  | [], ws, vs, _, _ => by unfold putT; simp; exact .nil
  | j :: kk, ws, [], h, _ => by simp at h
  | j :: kk, ws, u :: vs, h, r => by
    have hl := r.length
    cases ws with
    | nil => simp at hl
    | cons w' ws =>
      obtain ⟨v', vs', e, r1, r2⟩ := r.cons_inv
      cases e
      have ih := reps_putT (k := k) rw_ (kk := kk) (ws := ws) (vs := vs) (by simpa using h) r2
      unfold putT at ih ⊢
      rw [List.zip_cons_cons, List.zip_cons_cons, List.map_cons, List.map_cons]
      refine .cons ?_ ih
      by_cases e : j = k
      · simp only [e, if_true]; exact rw_
      · simp only [e, if_false]; exact r1
theorem dctT_at {hid : List Addr} {st : Sto} {H : Hp} {x : W} {v : V} {kk : List KeyL} {ws : List W} (k : StOk K mg μ st hid H) (h : dctT st x = some (kk, ws)) (r : Rep K mg (Fz μ st hid H) μ x v) :
    ∃ a vs, v = .ref a ∧ kk.length = vs.length ∧ Rd H a (.dT (kk.zip vs)) ∧ Reps K mg (Fz μ st hid H) μ ws vs := by
  have go : ∀ {F : Hp} {a : Addr} {ks us : List W} {vs : List V}, (∀ o, F a = some o → H a = some o) → DctAt F a ks vs → (match kindW ks with
      | some (_, .inr kk) => some (kk, us)
      | _ => none) = some (kk, ws) → us = ws ∧ kk.length = vs.length ∧ Rd H a (.dT (kk.zip vs)) := fun {F a ks us vs} l d e => by
    obtain ⟨b, q, h1, h2, h3, _⟩ := d
    rw [h1] at e
    cases q with
    | inl q => cases e
    | inr q =>
      cases e
      refine ⟨rfl, h2, ?_⟩
      rcases h3 with h3 | ⟨o, h3⟩
      · exact .inl (l _ h3)
      · exact .inr ⟨o, l _ h3⟩
  cases x with
  | cell n =>
    unfold dctT at h
    simp only at h
    split at h
    · rename_i ks us e
      obtain ⟨a, rfl, e2, vs, h1, h2⟩ := k.cell e r
      obtain ⟨rfl, g1, g2⟩ := go (fun _ z => z) h1.rd h
      exact ⟨a, vs, rfl, g1, g2, h2⟩
    · cases h
  | dct ks us =>
    unfold Rep at r
    obtain ⟨a, vs, rfl, h1, h2⟩ := r
    obtain ⟨rfl, g1, g2⟩ := go (us := us) (fun _ z => (Fz.sub z).1) h1 h
    exact ⟨a, vs, rfl, g1, g2, h2⟩
  | _ => cases h
/-- a key's tuple is neither hidden nor living -/
theorem tup_fz {hid : List Addr} {st : Sto} {H : Hp} {b : Addr} {vs : List V} (k : StOk K mg μ st hid H) (h : H b = some (.tup vs)) : Fz μ st hid H b = some (.tup vs) := by
  refine Fz.mk h fun z => ?_
  rcases z with z | ⟨n, c, h1, h2, h3⟩
  · exact (k.hidt b z).2 vs h
  · have q := k.ok n b c h1 h2
    cases c with
    | lst ws => obtain ⟨us, e, _⟩ := q; rw [h] at e; cases e
    | ins c ns ws => obtain ⟨C, dx, us, _, _, e, _⟩ := q; rw [h] at e; cases e
    | frz w => cases h3
    | dct ks ws =>
      obtain ⟨us, ⟨l, q, _, _, e⟩, _⟩ := q
      cases l with
      | false =>
        have e : H b = some (dObj q us) := e
        rw [h] at e
        cases q <;> cases e
      | true =>
        obtain ⟨o, e⟩ := e
        rw [h] at e; cases e
end
/-! ## reading -/
def oTGet : Op2 := fun x y st => match dctT st x, keyT y with
  | some (kk, ws), some k => (match valT (kk.zip ws) k with
    | some w => .ok w st
    | none => .bad)
  | _, _ => .bad
def oTIn (f : Bool → Bool) : Op2 := fun y x st => match dctT st x, keyT y with
  | some (kk, ws), some k => .ok (.bl (f (valT (kk.zip ws) k).isSome)) st
  | _, _ => .bad
/-- d.get(k, x) -/
def eTGet2 (f g h : Sem) : Sem := fun fr st => (f fr st).bind fun x st1 => if (dctT st1 x).isSome = true then (g fr st1).bind fun y st2 => (h fr st2).bind fun z st3 => (match dctT st3 x, keyT y with
  | some (kk, ws), some k => .ok ((valT (kk.zip ws) k).getD z) st3
  | _, _ => .bad) else .bad
section
variable {X : Cx} {Wx : Wish}
theorem tget_of {K : PySem.W.Frag} {mg : Str → Option Value} {μ hid : List Addr} {st : Sto} {H : Hp} {x y : W} {xv yv : V} {kk : List KeyL} {ws : List W} {j : KeyL} (k : StOk K mg μ st hid H) (hx : dctT st x = some (kk, ws)) (hy : keyT y = some j) (rx : Rep K mg (Fz μ st hid H) μ x xv) (ry : Rep K mg (Fz μ st hid H) μ y yv) :
    ∃ a, xv = .ref a ∧ ((∃ w v, valT (kk.zip ws) j = some w ∧ DGet H a yv (some v) ∧ Rep K mg (Fz μ st hid H) μ w v) ∨ (valT (kk.zip ws) j = none ∧ DGet H a yv none)) := by
  obtain ⟨a, vs, rfl, h1, h2, h3⟩ := dctT_at k hx rx
  obtain ⟨b, rfl, hb⟩ := keyT_rep hy ry
  have hb := (Fz.sub hb).1
  obtain ⟨v1, v2⟩ := val_atT (K := K) (mg := mg) (F := Fz μ st hid H) (μ := μ) j h1 h3
  refine ⟨a, rfl, ?_⟩
  cases e : valT (kk.zip ws) j with
  | some w =>
    obtain ⟨v, e2, r⟩ := v1 w e
    exact .inl ⟨w, v, rfl, .inr ⟨_, j, b, h2, rfl, hb, e2.symm⟩, r⟩
  | none => exact .inr ⟨rfl, .inr ⟨_, j, b, h2, rfl, hb, (v2 e).symm⟩⟩
theorem os_tget : Op2S X oTGet rDGet := by
  intro Wx hid μ st σ H Q x y xv yv k rx ry P
  unfold oTGet at P
  split at P
  · rename_i kk ws j hx hy
    obtain ⟨a, rfl, ⟨w, v, e1, e2, e3⟩ | ⟨e1, _⟩⟩ := tget_of k hx hy rx ry
    · rw [e1] at P
      exact ⟨a, v, rfl, e2, P μ H _ k .refl e3⟩
    · rw [e1] at P; exact P.elim
  · exact P.elim
theorem os_tin {f : Bool → Bool} : Op2S X (oTIn f) (rDIn f) := by
  intro Wx hid μ st σ H Q y x yv xv k ry rx P
  unfold oTIn at P
  split at P
  · rename_i kk ws j hx hy
    obtain ⟨a, rfl, ⟨w, v, e1, e2, e3⟩ | ⟨e1, e2⟩⟩ := tget_of k hx hy rx ry
    · rw [e1] at P
      exact ⟨a, _, rfl, e2, P μ H _ k .refl rep_bl⟩
    · rw [e1] at P
      exact ⟨a, _, rfl, e2, P μ H _ k .refl rep_bl⟩
  · exact P.elim
theorem ev_tget {k : Nat} {o i : Expr} {f g : Sem} {pos : Pos} (C : Ctx X Wx k) (ho : EV X Wx o f) (hi : EV X Wx i g) (hs : NoSl i := by intro _ _; rfl) : EV X Wx (.Subscript o i pos) (e2 oTGet f g) :=
  PEm (pe_dget (by have := C.room.un; omega) ho hi hs) (e2_read os_tget)
theorem tv_tin {k : Nat} {o i : Expr} {f g : Sem} {pos : Pos} (C : Ctx X Wx k) (hi : EV X Wx i g) (ho : EV X Wx o f) (hm : behindInMarks .In o = false := by rfl) : TV X Wx (.Compare i [.In] [o] pos) (bOf (e2 (oTIn fun b => b) g f)) :=
  PTm (pt_cmp (pc_din (by have := C.room.un; omega) hi ho) hm) (bOf_read (e2_read os_tin))
theorem tv_tnin {k : Nat} {o i : Expr} {f g : Sem} {pos : Pos} (C : Ctx X Wx k) (hi : EV X Wx i g) (ho : EV X Wx o f) (hm : behindInMarks .NotIn o = false := by rfl) : TV X Wx (.Compare i [.NotIn] [o] pos) (bOf (e2 (oTIn not) g f)) :=
  PTm (pt_cmp (pc_dnotin (by have := C.room.un; omega) hi ho) hm) (bOf_read (e2_read os_tin))
theorem dctT_isD {K : PySem.W.Frag} {mg : Str → Option Value} {μ hid : List Addr} {st : Sto} {H : Hp} {x : W} {v : V} (k : StOk K mg μ st hid H) (h : (dctT st x).isSome = true) (r : Rep K mg (Fz μ st hid H) μ x v) : ∃ a, v = .ref a ∧ IsD H a := by
  cases e : dctT st x with
  | none => rw [e] at h; cases h
  | some p =>
    obtain ⟨a, vs, rfl, _, h2, _⟩ := dctT_at (kk := p.1) (ws := p.2) k e r
    exact ⟨a, rfl, .inr ⟨_, h2⟩⟩
theorem ev_tget2 {k : Nat} {o e d : Expr} {f g h : Sem} {apos cpos : Pos} (C : Ctx X Wx k) (ho : EV X Wx o f) (he : EV X Wx e g) (hd : EV X Wx d h) (m : M2 X o "get" apos e d cpos := by exact ⟨rfl, rfl, rfl, rfl⟩) : EV X Wx (.Call (.Attribute o "get" apos) [e, d] [] cpos) (eTGet2 f g h) :=
  PEm (pe_dget2 (by have := C.room.un; omega) ho he hd m) fun σ H Q ⟨μ, st, hid, fr, S, P⟩ => by
    refine ⟨μ, st, hid, fr, S, ?_⟩
    unfold eTGet2 at P
    cases h1 : f fr st with
    | bad => rw [h1] at P; exact P
    | err x s => rw [h1] at P; exact P
    | ok x st1 =>
      rw [h1, Out.bind_ok] at P
      intro μ1 H1 xv k1 g1 r1
      have P1 := EPost.from g1 P
      split at P1
      · rename_i hx
        obtain ⟨a, rfl, hd⟩ := dctT_isD k1 hx r1
        refine ⟨a, rfl, hd, μ1, st1, hid, fr, S.next k1 g1, ?_⟩
        cases h2 : g fr st1 with
        | bad => rw [h2] at P1; exact P1
        | err x s => rw [h2] at P1; exact P1
        | ok y st2 =>
          rw [h2, Out.bind_ok] at P1
          intro μ2 H2 yv k2 g2 r2
          have P2 := EPost.from g2 P1
          refine ⟨μ2, st2, hid, fr, (S.next k1 g1).next k2 g2, ?_⟩
          cases h3 : h fr st2 with
          | bad => rw [h3] at P2; exact P2
          | err x s => rw [h3] at P2; exact P2
          | ok z st3 =>
            rw [h3, Out.bind_ok] at P2
            intro μ3 H3 zv k3 g3 r3
            have P3 := EPost.from g3 P2
            split at P3
            · rename_i kk ws j hx3 hy
              obtain ⟨a', e1, ⟨w, v, e2, e3, e4⟩ | ⟨e2, e3⟩⟩ := tget_of k3 hx3 hy (Rep.mono (g2.trans g3).le (g2.trans g3).pre _ _ r1) (Rep.mono g3.le g3.pre _ _ r2)
              · cases e1
                rw [e2] at P3
                exact ⟨some v, e3, P3 μ3 H3 _ k3 .refl e4⟩
              · cases e1
                rw [e2] at P3
                exact ⟨none, e3, P3 μ3 H3 _ k3 .refl r3⟩
            · exact P3.elim
      · exact P1.elim
/-! ## making, writing -/
def eTDct0 : Sem := fun _ st => .ok (.cell st.length) (st ++ [.dct [.ty "T"] []])
theorem ev_tdct0 {pos : Pos} : EV X Wx (.Dict [] [] pos) eTDct0 := PEm pe_dnewT fun σ H Q ⟨μ, st, hid, fr, S, P⟩ => by
  intro p hp
  obtain ⟨k2, g2⟩ := S.sto.newCell (c := .dct [.ty "T"] []) (o := .dT []) hp rfl ⟨[], ⟨false, .inr [], rfl, rfl, upd_same⟩, .nil⟩
  refine P _ _ _ k2 g2 ?_
  unfold Rep
  exact ⟨p, by rw [← S.sto.len]; simp, rfl⟩
def uDctT : Op3 := fun o y w st => match o with
  | .cell n => (match st[n]? with
    | some (.dct (.ty t :: ks) ws) => if t = "T" then (match mapO keyT ks, keyT y with
      | some kk, some j => if ks.length < LINE then (if (kk.any fun i => decide (i = j)) = true then some (st.set n (.dct (.ty "T" :: ks) (putT kk ws j w))) else some (st.set n (.dct (.ty "T" :: (ks ++ [y])) (ws ++ [w])))) else none
      | _, _ => none) else none
    | _ => none)
  | _ => none
theorem os_setT : Op3S X uDctT rSetD := by
  intro hid μ st st' H Q o y w ov yv v k ro ry rw_ e q
  unfold uDctT at e
  split at e
  · rename_i n
    split at e
    · rename_i t ks ws e1
      split at e
      · rename_i ht
        subst ht
        split at e
        · rename_i kk j hk hy
          obtain ⟨a, rfl, h1, vs, ⟨l, q', g1, g2, g3⟩, h3⟩ := k.cell e1 ro
          rw [kind_T1 hk] at g1
          cases g1
          have g3' : H a = some (.dT (kk.zip vs)) := g3
          have g2' : kk.length = vs.length := g2
          obtain ⟨b, rfl, hb⟩ := keyT_rep hy ry
          have hb := (Fz.sub hb).1
          split at e
          · rename_i hl
            have hz : (kk.zip vs).length < sizeLine := by
              have := mapO_len hk
              rw [List.length_zip]
              unfold LINE at hl
              rw [sizeLine_eq]; omega
            refine ⟨a, _, rfl, .inr ⟨kk.zip vs, j, b, g3', rfl, hb, hz, rfl⟩, ?_⟩
            unfold putK
            rw [any_zipT j kk vs g2']
            split at e
            · rename_i hany
              cases e
              rw [if_pos hany, zip_putT j v kk vs g2']
              have hl2 : kk.length = (putT kk vs j v).length := by rw [putT_len g2']
              obtain ⟨k2, g4⟩ := k.setCell (c' := .dct (.ty "T" :: ks) (putT kk ws j w)) (o := .dT (kk.zip (putT kk vs j v))) h1 e1 rfl rfl ⟨_, ⟨false, .inr kk, kind_T1 hk, hl2, upd_same⟩, reps_putT rw_ g2' h3⟩ rfl
              exact q _ _ k2 g4
            · rename_i hany
              cases e
              rw [if_neg hany]
              have ez : kk.zip vs ++ [(j, v)] = (kk ++ [j]).zip (vs ++ [v]) := by rw [List.zip_append g2']; rfl
              rw [ez]
              have hk2 := mapO_snoc hk hy
              obtain ⟨k2, g4⟩ := k.setCell (c' := .dct (.ty "T" :: (ks ++ [y])) (ws ++ [w])) (o := .dT ((kk ++ [j]).zip (vs ++ [v]))) h1 e1 rfl rfl ⟨_, ⟨false, .inr (kk ++ [j]), kind_T1 hk2, by show (kk ++ [j]).length = (vs ++ [v]).length; simp [g2'], upd_same⟩, h3.append (.cons rw_ .nil)⟩ rfl
              exact q _ _ k2 g4
          · cases e
        · cases e
      · cases e
    · cases e
  · cases e
theorem sv_subT {k : Nat} {o i e : Expr} {f fo fi : Sem} {pos tpos : Pos} (C : Ctx X Wx k) (he : EV X Wx e f) (ho : EV X Wx o fo) (hi : EV X Wx i fi)
    (ha : ∀ v, assign (.Subscript o i tpos) X.env v = (do
      let ov ← holding [v] (eval o X.env)
      let iv ← holding [v, ov] (eval i X.env)
      standAt tpos
      holding [v, ov, iv] (setItem ov iv v)
      release [v, ov, iv] []) := by intro _; rfl)
    (hs1 : swapsWithSole [.Subscript o i tpos] e pos.line X.env = pure false := by rfl) (hw : swappedStores [.Subscript o i tpos] e X.env = pure none := by rfl) (h1 : (assignEach [.Subscript o i tpos] X.env).map (·.2) = [assign (.Subscript o i tpos) X.env] := by rfl) :
    SV X Wx (.Assign [.Subscript o i tpos] e pos) (sSub uDctT f fo fi) := sv_sub (set_dict (by have := C.room.un; omega)) os_setT he ho hi ha hs1 hw h1
end
end SL

namespace SL
open PySem PySem.Spec PyProof.Rows L2
/-! # a dict walked: locked meanwhile -/
/-- the cell n's dict is let go -/
def unlkT (n : Nat) (st : Sto) : Option Sto := match st[n]? with
  | some (.dct (.ty t :: ks) ws) => if t = "TL" then (match mapO keyT ks with
    | some _ => some (st.set n (.dct (.ty "T" :: ks) ws))
    | none => none) else none
  | _ => none
def unlTS (n : Nat) : SOut → SOut
  | .nx fr st => (match unlkT n st with
    | some st2 => .nx fr st2
    | none => .bad)
  | .bk fr st => (match unlkT n st with
    | some st2 => .bk fr st2
    | none => .bad)
  | .ct fr st => (match unlkT n st with
    | some st2 => .ct fr st2
    | none => .bad)
  | .rt w st => (match unlkT n st with
    | some st2 => .rt w st2
    | none => .bad)
  | _ => .bad
def unlTE (n : Nat) : Out W → Out W
  | .ok w st => (match unlkT n st with
    | some st2 => .ok w st2
    | none => .bad)
  | _ => .bad
/-- while s runs the dict in slot i is locked; one that is locked already stays so -/
def sLockT (i : Nat) (s : SSem) : SSem := fun fr st => match fr[i]? with
  | some (some (.cell n)) => (match st[n]? with
    | some (.dct (.ty t :: ks) ws) => if t = "T" then (match mapO keyT ks with
      | some _ => unlTS n (s fr (st.set n (.dct (.ty "TL" :: ks) ws)))
      | none => .bad) else s fr st
    | _ => .bad)
  | _ => .bad
def eLockT (i : Nat) (e : Sem) : Sem := fun fr st => match fr[i]? with
  | some (some (.cell n)) => (match st[n]? with
    | some (.dct (.ty t :: ks) ws) => if t = "T" then (match mapO keyT ks with
      | some _ => unlTE n (e fr (st.set n (.dct (.ty "TL" :: ks) ws)))
      | none => .bad) else e fr st
    | _ => .bad)
  | _ => .bad
/-- the keys of the locked dict in slot i -/
def iKeysT (i : Nat) : SemI := fun fr st => match fr[i]? with
  | some (some (.cell n)) => (match st[n]? with
    | some (.dct (.ty t :: ks) _) => if t = "TL" then (match mapO keyT ks with
      | some _ => if ks.length ≤ LINE then .ok (.non, ks) st else .bad
      | none => .bad) else .bad
    | _ => .bad)
  | _ => .bad
section
variable {K : PySem.W.Frag} {mg : Str → Option Value} {Wx : Wish} {μ hid : List Addr} {st : Sto} {fr : Fr} {σ : L2.St} {H : Hp}
/-- the state as it is locked -/
theorem SI.lockT (S : SI K mg Wx μ st hid fr σ H) {i n : Nat} {ks ws : List W} {kk : List KeyL} (hf : fr[i]? = some (some (.cell n))) (hn : st[n]? = some (.dct (.ty "T" :: ks) ws)) (hk : mapO keyT ks = some kk) :
    ∃ (d : Addr) (vs : List V), μ[n]? = some d ∧ d ∉ hid ∧ kk.length = vs.length ∧ H d = some (.dT (kk.zip vs)) ∧ ∀ od, SI K mg Wx μ (st.set n (.dct (.ty "TL" :: ks) ws)) hid fr σ (upd H d (.frz od (.dT (kk.zip vs)))) ∧ Fz μ (st.set n (.dct (.ty "TL" :: ks) ws)) hid (upd H d (.frz od (.dT (kk.zip vs)))) = Fz μ st hid H := by
  obtain ⟨v, hv, r⟩ := S.loc i _ hf
  obtain ⟨d, rfl, h1, vs, ⟨l, q, g1, g2, g3⟩, h3⟩ := S.sto.cell hn r
  rw [kind_T1 hk] at g1
  cases g1
  have g3' : H d = some (.dT (kk.zip vs)) := g3
  have g2' : kk.length = vs.length := g2
  refine ⟨d, vs, h1, S.sto.hidn n d _ h1 hn rfl, g2', g3', fun od => ?_⟩
  have kl := kind_TL hk
  obtain ⟨k2, e, _⟩ := S.sto.setCell0 (c' := .dct (.ty "TL" :: ks) ws) (o := .frz od (.dT (kk.zip vs))) h1 hn rfl rfl ⟨vs, ⟨true, .inr kk, kl, g2', od, upd_same⟩, h3⟩
  exact ⟨⟨k2, S.len, fun j w h => by rw [e]; exact S.loc j w h, by rw [e]; exact S.ex⟩, e⟩
/-- .. and let go -/
theorem unlkT_at {n : Nat} {st2 : Sto} {d : Addr} {od : Obj} {u : HO} (k : StOk K mg μ st hid H) (h : unlkT n st = some st2) (hd : μ[n]? = some d) (hH : H d = some (.frz od u)) :
    StOk K mg μ st2 hid (upd H d u) ∧ Fz μ st2 hid (upd H d u) = Fz μ st hid H := by
  unfold unlkT at h
  split at h
  · rename_i t ks ws hn
    split at h
    · rename_i ht
      subst ht
      split at h
      · rename_i kk hk
        cases h
        obtain ⟨vs, ⟨l, q, g1, g2, g3⟩, h3⟩ := k.ok n d _ hd hn
        have kl := kind_TL hk
        rw [kl] at g1
        cases g1
        obtain ⟨o, g3⟩ := g3
        have g3' : H d = some (.frz o (.dT (kk.zip vs))) := g3
        rw [hH] at g3'
        cases g3'
        obtain ⟨k2, e, _⟩ := k.setCell0 (c' := .dct (.ty "T" :: ks) ws) (o := .dT (kk.zip vs)) hd hn rfl rfl ⟨vs, ⟨false, .inr kk, kind_T1 hk, g2, upd_same⟩, h3⟩
        exact ⟨k2, e⟩
      · cases h
    · cases h
  · cases h
theorem SI.freeT {μ2 : List Addr} {st2 st3 : Sto} {fr2 : Fr} {σ2 : L2.St} {H2 : Hp} {n : Nat} {d : Addr} {od : Obj} {u : HO} (S2 : SI K mg Wx μ2 st2 hid fr2 σ2 H2) (h : unlkT n st2 = some st3) (hd : μ2[n]? = some d) (hH : H2 d = some (.frz od u)) : SI K mg Wx μ2 st3 hid fr2 σ2 (upd H2 d u) := by
  obtain ⟨k3, e⟩ := unlkT_at S2.sto h hd hH
  exact ⟨k3, S2.len, fun j w h => by rw [e]; exact S2.loc j w h, by rw [e]; exact S2.ex⟩
end
section
variable {X : Cx} {Wx : Wish}
theorem sv_lockT {i : Nat} {st : Stmt} {s : SSem} (h : SV X Wx st s) : SV X Wx st (sLockT i s) := PSm (PSor (ps_lock h) h) fun D σ H ⟨μ, st, hid, fr, S, P⟩ => by
  unfold sLockT at P
  split at P
  · rename_i n hf
    split at P
    · rename_i t ks ws hn
      split at P
      rotate_left
      · exact .inr ⟨μ, st, hid, fr, S, P⟩
      rename_i ht
      subst ht
      split at P
      · rename_i kk hk
        obtain ⟨d, vs, h1, h2, h3, h4, h5⟩ := S.lockT hf hn hk
        refine .inl ⟨d, _, h4, trivial, fun od => ?_⟩
        obtain ⟨S1, e1⟩ := h5 od
        refine ⟨μ, _, hid, fr, S1, ?_⟩
        have at2 : ∀ {μ2 : List Addr} {st2 : Sto} {H2 : Hp}, Grow hid μ (st.set n (.dct (.ty "TL" :: ks) ws)) (upd H d (.frz od (.dT (kk.zip vs)))) μ2 st2 H2 → μ2[n]? = some d ∧ H2 d = some (.frz od (.dT (kk.zip vs))) := fun g => ⟨g.pre.get h1, g.lck _ _ _ upd_same⟩
        cases e : s fr (st.set n (.dct (.ty "TL" :: ks) ws)) with
        | bad => rw [e] at P; exact P
        | er x f s => rw [e] at P; exact False.elim P
        | nx f2 st2 =>
          rw [e] at P
          intro μ2 σ2 H2 S2 g
          obtain ⟨a1, a2⟩ := at2 g
          refine ⟨a2, ?_⟩
          cases eu : unlkT n st2 with
          | none => simp only [unlTS, eu] at P; exact False.elim P
          | some st3 =>
            simp only [unlTS, eu] at P
            exact P μ2 σ2 _ (S2.freeT eu a1 a2) (grow_lock (n := n) e1 h2 h4 (fun o z q => nomatch q) rfl g (unlkT_at S2.sto eu a1 a2).2)
        | bk f2 st2 =>
          rw [e] at P
          intro μ2 σ2 H2 S2 g
          obtain ⟨a1, a2⟩ := at2 g
          refine ⟨a2, ?_⟩
          cases eu : unlkT n st2 with
          | none => simp only [unlTS, eu] at P; exact False.elim P
          | some st3 =>
            simp only [unlTS, eu] at P
            exact P μ2 σ2 _ (S2.freeT eu a1 a2) (grow_lock (n := n) e1 h2 h4 (fun o z q => nomatch q) rfl g (unlkT_at S2.sto eu a1 a2).2)
        | ct f2 st2 =>
          rw [e] at P
          intro μ2 σ2 H2 S2 g
          obtain ⟨a1, a2⟩ := at2 g
          refine ⟨a2, ?_⟩
          cases eu : unlkT n st2 with
          | none => simp only [unlTS, eu] at P; exact False.elim P
          | some st3 =>
            simp only [unlTS, eu] at P
            exact P μ2 σ2 _ (S2.freeT eu a1 a2) (grow_lock (n := n) e1 h2 h4 (fun o z q => nomatch q) rfl g (unlkT_at S2.sto eu a1 a2).2)
        | rt w st2 =>
          rw [e] at P
          intro μ2 H2 v k2 g r2
          obtain ⟨a1, a2⟩ := at2 g
          refine ⟨a2, ?_⟩
          cases eu : unlkT n st2 with
          | none => simp only [unlTS, eu] at P; exact False.elim P
          | some st3 =>
            simp only [unlTS, eu] at P
            obtain ⟨k3, e3⟩ := unlkT_at k2 eu a1 a2
            exact P μ2 _ v k3 (grow_lock (n := n) e1 h2 h4 (fun o z q => nomatch q) rfl g e3) (by rw [e3]; exact r2)
      · exact P.elim
    · exact P.elim
  · exact P.elim
theorem ev_lockT {i : Nat} {e : Expr} {f : Sem} (h : EV X Wx e f) : EV X Wx e (eLockT i f) := PEm (PEor (pe_lock h) h) fun σ H Q ⟨μ, st, hid, fr, S, P⟩ => by
  unfold eLockT at P
  split at P
  · rename_i n hf
    split at P
    · rename_i t ks ws hn
      split at P
      rotate_left
      · exact .inr ⟨μ, st, hid, fr, S, P⟩
      rename_i ht
      subst ht
      split at P
      · rename_i kk hk
        obtain ⟨d, vs, h1, h2, h3, h4, h5⟩ := S.lockT hf hn hk
        refine .inl ⟨d, _, h4, trivial, fun od => ?_⟩
        obtain ⟨S1, e1⟩ := h5 od
        refine ⟨μ, _, hid, fr, S1, ?_⟩
        cases e : f fr (st.set n (.dct (.ty "TL" :: ks) ws)) with
        | bad => rw [e] at P; exact P
        | err x s => rw [e] at P; exact P.elim
        | ok w st2 =>
          rw [e] at P
          intro μ2 H2 v k2 g r2
          have a1 := g.pre.get h1
          have a2 := g.lck _ _ _ (upd_same (H := H) (a := d) (o := .frz od (.dT (kk.zip vs))))
          refine ⟨a2, ?_⟩
          cases eu : unlkT n st2 with
          | none => simp only [unlTE, eu] at P; exact False.elim P
          | some st3 =>
            simp only [unlTE, eu] at P
            obtain ⟨k3, e3⟩ := unlkT_at k2 eu a1 a2
            exact P μ2 _ v k3 (grow_lock (n := n) e1 h2 h4 (fun o z q => nomatch q) rfl g e3) (by rw [e3]; exact r2)
      · exact P.elim
    · exact P.elim
  · exact P.elim
theorem iv_keysT {i : Nat} {x : Str} {tg : Expr} {pos : Pos} (he : EV X Wx (.Name x pos) (eVar i)) : IV X Wx tg (.Name x pos) (iKeysT i) := PIm (pi_keys he) fun σ H R ⟨μ, st, hid, fr, S, P⟩ => by
  unfold iKeysT at P
  split at P
  · rename_i n hf
    split at P
    · rename_i t ks ws hn
      split at P
      · rename_i ht
        subst ht
        split at P
        · rename_i kk hk
          split at P
          · rename_i hl
            refine ⟨μ, st, hid, fr, S, ?_⟩
            have ev : eVar i fr st = .ok (.cell n) st := by unfold eVar; rw [hf]
            rw [ev]
            intro μ1 H1 v k1 g1 r1
            obtain ⟨d, rfl, h1, vs, ⟨l, q, c1, c2, c3⟩, h3⟩ := k1.cell hn r1
            have kl := kind_TL hk
            rw [kl] at c1
            cases c1
            obtain ⟨o, c3⟩ := c3
            have c3' : H1 d = some (.frz o (.dT (kk.zip vs))) := c3
            have c2' : kk.length = vs.length := c2
            have hkl := mapO_len hk
            have hz : (kk.zip vs).length = ks.length := by rw [List.length_zip]; omega
            refine ⟨d, o, rfl, .inr ⟨_, c3', P μ1 H1 _ k1 g1 ?_⟩⟩
            exact {
              len := le_line hl
              go := fun hid μ st H j k l p q s hj => ⟨q _ _ _ c3', by rw [hz]; exact hj⟩
              yld := fun hid μ st H j v H' k l p q s hj y => by
                obtain ⟨rfl, key, u, b, e1, rfl, hb⟩ := y
                refine ⟨k, .refl, ks[j], List.getElem?_eq_getElem hj, ?_⟩
                have e2 : kk[j]? = some key := by
                  rw [List.getElem?_zip_eq_some] at e1
                  exact e1.1
                exact rep_keyT (mapO_get hk (List.getElem?_eq_getElem hj) e2) (tup_fz k hb)
              stop := fun hid μ st H j k l p q s hj => ⟨q _ _ _ c3', by rw [hz]; exact hj⟩ }
          · exact P.elim
        · exact P.elim
      · exact P.elim
    · exact P.elim
  · exact P.elim
end
end SL

/-! # {t: e}, t a tuple -/
namespace SLd
open PySem PySem.Spec PyProof.Rows L2
section
variable {prog : Program} {w : World} {A : Around} {E : Value → Shared → Prop} {s : Shared} {env : Env}
theorem wpAny_subDict1 {k v : Sem Value} {Q : Addr → Shared → Prop} (hu : (tupleKind (mixKind prog w)).room A)
    (h : wpAny (model prog w) A k (fun kv s₁ => wpAny (model prog w) A v (fun vv s₂ => ∃ (a : Addr) (kk : List Key), kv = .ref a ∧ (tupleKind (mixKind prog w)).is s₂.heap kk a ∧ s₂.heap.DictOfH (tupleKind (mixKind prog w)) s.heap.objs.size [] ∧
      ∀ h', h'.DictOfH (tupleKind (mixKind prog w)) s.heap.objs.size (storedH [] kk a vv) → Heap.SameBut s.heap.objs.size s₂.heap h' → Q s.heap.objs.size { s₂ with heap := h', toks := s₂.toks + (tupleKind (mixKind prog w)).draws kk }) E s₁) E
      { s with heap := s.heap.push { cls := .type "dict", data := .dict #[] } }) :
    wpAny (model prog w) A (subDict [(k, v)]) Q E s := by
  unfold subDict
  refine wpAny_bind (wpAny_alloc ?_)
  refine wpAny_bind (wpAny_holding ?_)
  rw [if_pos (show [(k, v)].length ≤ 15 from by show 1 ≤ 15; decide)]
  refine wpAny_bind (evalPairs_cons (wpAny_mono h (fun kv s₁ h₁ => wpAny_mono h₁ (fun vv s₂ h₂ => evalPairs_nil ?_) fun _ _ e => e) fun _ _ e => e))
  obtain ⟨a, kk, rfl, hk, hd, hq⟩ := h₂
  refine wpAny_holding ?_
  refine wpAny_bind ?_
  rw [List.forIn_cons]
  refine wpAny_bind (wpAny_bind (wpAny_dictSet_heap hu hk hd (fun h' dd' hs => wpAny_pure ?_)))
  show wpAny (model prog w) A (forIn ([] : List (Value × Value)) PUnit.unit _) _ _ _
  rw [List.forIn_nil]
  exact wpAny_pure (wpAny_pure (wpAny_pure (hq h' dd' hs)))
end
end SLd
namespace SL
open PySem PySem.Spec PyProof.Rows L2
def tDisp1T (tk tv : TE) : TE := fun σ H Q => ∀ p, H p = none → tk σ (upd H p (.dT [])) fun x H1 => tv σ H1 fun y H2 => H2 p = some (.dT []) ∧ ∃ (k : List Key) (b : Addr), x = .ref b ∧ H2 b = some (.tup (k.map kV)) ∧ Q (.ref p) (upd H2 p (.dT [(k, y)]))
section
variable {X : Cx} {Wx : Wish}
theorem pe_disp1T {ke ve : Expr} {tk tv : TE} {pos : Pos} (hu : X.A.units + 1 < cLine) (hk : PE X ke tk) (hv : PE X ve tv) : PE X (.Dict [some ke] [ve] pos) (tDisp1T tk tv) := by
  refine ⟨fun pins s σ H Q I q => ?_⟩
  have hn := I.hok.fresh (Nat.le_refl s.heap.objs.size)
  have I1 := I.laid (a := s.heap.objs.size) (o := .dT []) (h' := s.heap.push { cls := .type "dict", data := .dict #[] }) (t' := s.toks) (fun _ _ q => Heap.get?_push_of_some _ q) (Nat.le_refl _) (dt_empty s.heap I.big)
  rw [arm_eval_Dict, zip_pairTrees [some ke] [ve] X.env pos rfl rfl, dictDisplay_pairs (pairTrees [some ke] [ve] X.env pos) (fun z => by cases z) (by show 1 < 17; decide)]
  refine wpAny_bind (wpAny_standAt (wpAny_bind (SLd.wpAny_subDict1 (show X.A.units < cLine by omega) ?_)))
  refine thn (hk.run pins _ σ _ _ I1 (q _ hn)) fun kv s1 ⟨x, H1, I2, rx, q1⟩ => ?_
  refine wpAny_bind (thn (hv.run pins _ σ _ _ I2 q1) fun vv s2 ⟨y, H2, I3, ry, q2⟩ => wpAny_bind (wpAny_standAt (wpAny_pure ?_)))
  obtain ⟨e, k, b, rfl, eb, q2⟩ := q2
  cases (show kv = Value.ref b from rx)
  obtain ⟨z, hd, xs, rel, dd⟩ := dt_of I3.hok e
  cases rel
  refine ⟨b, k, rfl, key_of I3.hok eb, dd, fun h' dd' hs => wpAny_pure ⟨.ref s.heap.objs.size, _, ?_, rfl, q2⟩⟩
  obtain ⟨o, es, ep, hq, h2, h3, h4, _, h5⟩ := dd'
  have kt : KT H2 (putK [] k y) (storedH [] k b vv) := KT.put (kvs := []) (xs := []) .nil k eb ry
  refine d_write I3 (by rw [e]; exact True.intro) hs ⟨o, hq⟩ ⟨by show 1 ≤ sizeLine; rw [sizeLine_eq]; decide, hd, _, kt.keeps fun c ys ec => ?_, o, es, ep, hq, h2, h3, h4, h5⟩
  rw [upd_ne (ne_of ec e (fun z => nomatch z))]
  exact ec
/-- {t: e}, to live -/
def eTDct1 (f g : Sem) : Sem := fun fr st => (f fr (st ++ [.dct [.ty "T"] []])).bind fun w st1 => (g fr st1).bind fun u st2 => match keyT w, st2[st.length]? with
  | some _, some (.dct [.ty t] []) => if t = "T" then .ok (.cell st.length) (st2.set st.length (.dct [.ty "T", w] [u])) else .bad
  | _, _ => .bad
theorem ev_tdct1 {k : Nat} {ke ve : Expr} {f g : Sem} {pos : Pos} (C : Ctx X Wx k) (hk : EV X Wx ke f) (hv : EV X Wx ve g) : EV X Wx (.Dict [some ke] [ve] pos) (eTDct1 f g) :=
  PEm (pe_disp1T (by have := C.room.un; omega) hk hv) fun σ H Q ⟨μ, st, hid, fr, S, P⟩ => by
    intro p hp
    obtain ⟨k2, g2⟩ := S.sto.newCell (c := .dct [.ty "T"] []) (o := .dT []) hp rfl ⟨[], ⟨false, .inr [], rfl, rfl, upd_same⟩, .nil⟩
    have P0 := EPost.from g2 P
    have S2 := S.next k2 g2
    refine ⟨_, _, hid, fr, S2, ?_⟩
    unfold eTDct1 at P0
    have hl : (μ ++ [p])[st.length]? = some p := by rw [← S.sto.len]; simp
    cases h1 : f fr (st ++ [.dct [.ty "T"] []]) with
    | bad => rw [h1] at P0; exact P0
    | err z s => rw [h1] at P0; exact P0
    | ok w st1 =>
      rw [h1, Out.bind_ok] at P0
      intro μ1 H1 xv k3 g3 r3
      have P1 := EPost.from g3 P0
      refine ⟨μ1, st1, hid, fr, S2.next k3 g3, ?_⟩
      cases h2 : g fr st1 with
      | bad => rw [h2] at P1; exact P1
      | err z s => rw [h2] at P1; exact P1
      | ok u st2 =>
        rw [h2, Out.bind_ok] at P1
        intro μ2 H2 yv k4 g4 r4
        have P2 := EPost.from g4 P1
        split at P2
        · rename_i kk t hy hc
          split at P2
          · rename_i ht
            subst ht
            have hl2 : μ2[st.length]? = some p := (g3.pre.trans g4.pre).get hl
            obtain ⟨vs, ⟨l, q, c1, c2, c3⟩, c4⟩ := k4.ok st.length p _ hl2 hc
            cases c1
            have hv0 : vs = [] := List.eq_nil_of_length_eq_zero c2.symm
            subst hv0
            have c3' : H2 p = some (.dT []) := c3
            obtain ⟨b, rfl, hb⟩ := keyT_rep hy (Rep.mono g4.le g4.pre _ _ r3)
            refine ⟨c3', kk, b, rfl, (Fz.sub hb).1, ?_⟩
            have hk1 : mapO keyT [w] = some [kk] := by
              unfold mapO
              rw [hy]; rfl
            obtain ⟨k5, g5⟩ := k4.setCell (c' := .dct [.ty "T", w] [u]) (o := .dT [(kk, yv)]) hl2 hc rfl rfl ⟨[yv], ⟨false, .inr [kk], kind_T1 hk1, rfl, upd_same⟩, .cons r4 .nil⟩ rfl
            refine P2 _ _ _ k5 g5 ?_
            unfold Rep
            exact ⟨p, hl2, rfl⟩
          · exact P2.elim
        · exact P2.elim
end
end SL

namespace SL
open PySem PySem.Spec PyProof.Rows L2 Srt SrtO
/-! # sorted of a list of one or none -/
def rSort1 (K : PySem.W.Frag) : List V → Hp → VK → Prop := fun vs H Q => ∃ (a : Addr) (xs : List V), vs = [V.ref a] ∧ SqL K H a xs ∧ xs.length ≤ 1 ∧ ∀ p, H p = none → Q (.ref p) (upd H p (.lst xs))
noncomputable def oSort1 : OpN := fun ws st => match ws with
  | [x] => match lstW st x with
    | some us => if us.length ≤ 1 then .ok (.lst us) st else oSortT ws st
    | none => oSortT ws st
  | _ => .bad
section
variable {X : Cx}
theorem cr_sort1 : CallR X (.builtin "sorted") (rSort1 X.K) := by
  intro pins s σ H vs us Q J r hq
  obtain ⟨a, xs, rfl, hs, h1, q⟩ := hq
  obtain ⟨its, rr, pl, hz⟩ := J.list hs
  rw [Vals.ref1 r]
  have hi : its.length ≤ 1 := by rw [← rr.length]; exact h1
  refine sorted_ord SrtO.swo_int pl.isList (by rw [← rr.length]; exact hz) (fun h2 => absurd h2 (by omega)) fun out a1 a2 => ?_
  have eo : out = its := by
    have p := a2.perm
    cases its with
    | nil => exact p.eq_nil
    | cons x l =>
      have : l = [] := List.eq_nil_of_length_eq_zero (by rw [List.length_cons] at hi; omega)
      subst this
      exact List.perm_singleton.mp p
  subst eo
  obtain ⟨n, hn⟩ := sortedAll_at s.heap out out.toArray
  exact ⟨.ref _, upd H (s.heap.objs.size + 1) (.lst xs), J.laid (t' := s.toks) (fun _ _ => sortedAll_old) (Nat.le_succ _) ⟨hz, out, n, rr, hn⟩, rfl, q _ (J.hok.fresh (Nat.le_succ _))⟩
theorem cr_sort1X : CallR X (.builtin "sorted") (fun vs H Q => rSort1 X.K vs H Q ∨ rSortAny X.K vs H Q) := cr_sort1.or cr_sortAny
theorem os_sort1 : OpNS X oSort1 (fun vs H Q => rSort1 X.K vs H Q ∨ rSortAny X.K vs H Q) := by
  intro Wx hid μ st σ H Q ws vs k r P
  unfold oSort1 at P
  split at P
  · rename_i x
    split at P
    · rename_i us e
      split at P
      · rename_i hl
        obtain ⟨v, rfl, r1⟩ := reps1 (ws := []) r
        obtain ⟨a, xs, rfl, h1, h2⟩ := lstW_at k e r1
        exact .inl ⟨a, xs, rfl, h1, by rw [← h2.length]; exact hl, fun p hp => ok_new P k hp fun F l e => rep_lst e (h2.mono l (.refl _))⟩
      · exact .inr (os_sortT _ hid μ st σ H Q _ vs k r P)
    · exact .inr (os_sortT _ hid μ st σ H Q _ vs k r P)
  · exact P.elim
end
end SL

/-! # texts walked, also numbered -/
namespace SL
open PySem PySem.Spec PyProof.Rows L2
theorem sgnW_len (x : Str) : (sgnW x).length = x.length := by unfold sgnW; rw [List.length_map]; simp [Str.length]
theorem sgnW_get {x : Str} {i : Nat} {c : Nat} (h : x.cps[i]? = some c) : (sgnW x)[i]? = some (.str ⟨#[c]⟩) := by
  unfold sgnW; rw [List.getElem?_map, Array.getElem?_toList, h]; rfl
theorem itOk_str {K : PySem.W.Frag} {mg : Str → Option Value} {x : Str} {F L : Hp} {μ0 : List Addr} (hl : x.length ≤ LINE) : ItOk K mg (Its x) .non (sgnW x) F μ0 L where
  len := by rw [sgnW_len]; exact le_line hl
  go := fun hid μ st H i k l p _ _ hi => by rw [sgnW_len] at hi; exact hi
  yld := fun hid μ st H i v H' k l p _ _ hi y => by
    obtain ⟨rfl, c, h1, rfl⟩ := y
    exact ⟨k, .refl, _, sgnW_get h1, rep_str⟩
  stop := fun hid μ st H i k l p _ _ hi => by rw [sgnW_len] at hi; exact hi
theorem iv_str {X : Cx} {Wx : Wish} {tg e : Expr} {f : Sem} (he : EV X Wx e f) : IV X Wx tg e (iStrF f) := PIm (pi_str he) fun σ H R ⟨μ, st, hid, fr, S, P⟩ => by
  refine ⟨μ, st, hid, fr, S, ?_⟩
  unfold iStrF at P
  cases h1 : f fr st with
  | bad => rw [h1] at P; exact P
  | err x s => rw [h1] at P; exact P
  | ok x st1 =>
    rw [h1, Out.bind_ok] at P
    intro μ1 H1 v k1 g1 r1
    have P1 := IPost.from g1 P
    split at P1
    · rename_i z
      split at P1
      · rename_i hz
        exact ⟨z, rep_str_inv r1, P1 μ1 H1 _ k1 .refl (itOk_str hz)⟩
      · exact P1.elim
    · exact P1.elim
end SL
namespace SLe
open PySem PySem.Spec PyProof.Rows L2
def IteS (x : Str) : It :=
  ⟨fun i _ => i < x.cps.size, fun i H v H' => ∃ T c, v = .ref T ∧ H T = none ∧ H' = upd H T (.tup [.int (i : Nat), .str ⟨#[c]⟩]) ∧ x.cps[i]? = some c, fun i _ => x.cps.size ≤ i⟩
theorem turn_enumS {P : Program} {w : World} {K : PySem.W.Frag} {elts : List Expr} {kk : Nat} {tpos : Pos} (e it : Addr) (x : Str) (t : Tok) (ty : String) (hty : ty = "str_ascii_iterator" ∨ ty = "str_iterator") :
    Turn P w K (.Tuple elts kk tpos) (IteS x) [e, it] e (fun i h => (∃ was, IsEnum h e it ((i : Nat) : Int) was) ∧ h.IsStrIter it ty x t i ∧ e ≠ it) where
  mem := by simp
  obj := fun i h zst b zb => by
    obtain ⟨⟨was, ze⟩, ⟨o, zo, zc, zd⟩, _⟩ := zst
    have e' : b = e ∨ b = it := by simpa using zb
    rcases e' with z | z
    · rw [z]; exact ⟨_, ze, fun v q => nomatch q⟩
    · rw [z]; exact ⟨o, zo, fun v q => by rw [zd] at q; cases q⟩
  keep := fun i h m' zst k => let ⟨⟨was, ze⟩, hi, zne⟩ := zst; ⟨⟨was, k e (by simp) _ ze⟩, (let ⟨o, ho, r⟩ := hi; ⟨o, k it (by simp) o ho, r⟩), zne⟩
  item := by
    intro X hP hw hK zc i pins s σ H E J zf zst zg
    subst hP hw hK
    obtain ⟨⟨was, ze⟩, zit, zne⟩ := zst
    have D : Draws X.prog X.w X.A.in1 it [it] x.cps.size (fun i v => ∃ c u, x.cps[i]? = some c ∧ v = .str ⟨#[c]⟩ u) (fun i h => h.IsStrIter it ty x t i) := by
      rcases hty with z | z
      · rw [z]; exact Draws.strAscii (A := X.A.in1) (J.ok.hd zc) it x t
      · rw [z]; exact Draws.strWide (A := X.A.in1) (J.ok.hd zc) it x t
    have zel : e < s.heap.objs.size := Heap.lt_size ze
    have hil : it < s.heap.objs.size := by obtain ⟨_, q, _⟩ := zit; exact Heap.lt_size q
    refine wpAny_pyNext_enum_itemD D ze zit zg zne (by simpa using zne) fun u m' tk zu zo zit' zT zsz zk => ?_
    obtain ⟨c, tu, zx, rfl⟩ := zu
    refine ⟨_, rfl, wpAny_letOwnedTupleGo_enum (s := { s with heap := m', toks := tk + 1 }) zo fun m'' ze' zsb => ?_⟩
    have zT2 : m''.get? s.heap.objs.size = some { cls := .type "tuple", data := .seq #[.int i tk, .str ⟨#[c]⟩ tu] } := (zsb.2 _ (Nat.ne_of_gt zel)).trans zT
    have znew : ObjOk X.prog X.w (upd H s.heap.objs.size (.tup [.int (i : Nat), .str ⟨#[c]⟩])) m'' s.heap.objs.size (.tup [.int (i : Nat), .str ⟨#[c]⟩]) :=
      ⟨by show 2 ≤ sizeLine; decide, [.int i tk, .str ⟨#[c]⟩ tu], .cons ⟨_, rfl⟩ (.cons ⟨_, rfl⟩ .nil), ⟨_, zT2, rfl, _, rfl⟩⟩
    have J1 : Inv X pins σ (upd H s.heap.objs.size (.tup [.int (i : Nat), .str ⟨#[c]⟩])) { s with heap := m'', toks := tk + 1 } :=
      J.turnedNew (ch := [e, it]) (fun b ob zb q => (zsb.2 b (fun z => zb (by simp [z]))).trans (zk b ob (fun z => zb (by simp [z])) (fun z => zb (by simp [z])) q)) zf (Nat.le_refl _) znew
    refine ⟨.ref s.heap.objs.size, _, J1, rfl, ⟨_, c, rfl, J.hok.fresh (Nat.le_refl _), rfl, zx⟩, ⟨⟨.str ⟨#[c]⟩ tu, ?_⟩, ?_, zne⟩, fun b zb => ?_⟩
    · have e1 : ((i + 1 : Nat) : Int) = (i : Int) + 1 := by omega
      rw [e1]; exact ze'
    · obtain ⟨o, ho, r⟩ := zit'
      exact ⟨o, (zsb.2 it (Ne.symm zne)).trans ho, r⟩
    · have hb' : b < s.heap.objs.size := by
        have e' : b = e ∨ b = it := by simpa using zb
        rcases e' with z | z
        · rw [z]; exact zel
        · rw [z]; exact hil
      rw [upd_ne (Nat.ne_of_lt hb')]
      exact (zf b zb).1
  done := by
    intro X hP hw hK zc i pins s σ H E J zf zst zg
    subst hP hw hK
    obtain ⟨⟨was, ze⟩, zit, zne⟩ := zst
    obtain ⟨f0, f1, f2, f3, f4, f5⟩ := zf it (by simp)
    have hx : x.cps[i]? = none := Array.getElem?_eq_none zg
    have zT : s.TypeIs (.ref e) "enumerate" := ⟨_, ze, rfl⟩
    unfold pyNext
    refine wpAny_bind (wpAny_attempt (wpAny_callSpecial?_slot (name := Str.ofString "__next__") zT F.slot_enumerate_next
      (wpAny_call_entry F.slot_enumerate_next zT F.entry_enumerate_next ?_ (F.args_enumerate_next_1 _))))
    show wpAny _ _ (field (.ref e) 2 >>= _) _ _ _
    refine wpAny_bind (wpAny_field ze rfl (x := .ref it) rfl ?_)
    rcases hty with z | z
    · rw [z] at zit
      refine wpAny_bind (wpAny_nextOf_ascii_end (J.ok.hd zc) zit hx fun m' y ze' zx' => ?_)
      obtain ⟨o, zo, zcc⟩ := zx'
      refine wpAny_bind (wpAny_isInstance (T := "StopIteration") (b := true) ⟨o, zo, zcc⟩ isSubtype_stop ?_)
      exact wpAny_pure ⟨rfl, J.turned (t' := s.toks) (fun b o zb q => ze' b o zb q) f0 f1 f3 f4 f5⟩
    · rw [z] at zit
      refine wpAny_bind (wpAny_nextOf_wide_end (J.ok.hd zc) zit hx fun m' y ze' zx' => ?_)
      obtain ⟨o, zo, zcc⟩ := zx'
      refine wpAny_bind (wpAny_isInstance (T := "StopIteration") (b := true) ⟨o, zo, zcc⟩ isSubtype_stop ?_)
      exact wpAny_pure ⟨rfl, J.turned (t' := s.toks) (fun b o zb q => ze' b o zb q) f0 f1 f3 f4 f5⟩
  self := fun A i s Q E zst h => let ⟨⟨_, ze⟩, _⟩ := zst; wpAny_pyIter_enum ze h
end SLe
namespace SL
open PySem PySem.Spec PyProof.Rows L2
def iEnumS (ta : TA) : TI := fun σ H R => ta σ H fun vs H1 => ∃ x, vs = [.str x] ∧ R (SLe.IteS x) H1
theorem pi_enumS {X : Cx} {e : Expr} {ta : TA} {p pos tpos : Pos} {elts : List Expr} {kk : Nat} (hm : X.mg "enumerate" = none) (ha : PA X [e] ta) (hg : Gl X "enumerate") (hs : starEach [e] X.env = [(false, eval e X.env)]) :
    PI X (.Tuple elts kk tpos) (.Call (.Name "enumerate" p) [e] [] pos) (iEnumS ta) := by
  refine ⟨fun pins s σ H R J q => Call_ (ld_blt J hg hm boot_enumerate (PyProof.Rows.callWith_type1 (thn (ha.run pos pins s σ H _ J q) fun us s1 ⟨vs, H1, J1, r1, x, ex, q1⟩ => ?_) hs rfl))⟩
  subst ex
  cases r1 with
  | cons r rr =>
    cases rr
    obtain ⟨t, rfl⟩ := r
    have fin : ∀ c : Addr, c = s1.heap.objs.size + 1 ∨ c = s1.heap.objs.size → s1.heap.objs.size ≤ c := fun c hc => by
      rcases hc with z | z <;> rw [z] <;> omega
    refine call_enumerate_str fun h' ze zi _ zk => wpAny_pyIter_enum ze ?_
    have J2 : Inv X pins σ H1 { s1 with heap := h' } := J1.kept (t' := s1.toks) zk
    have hty : strIterType x = "str_ascii_iterator" ∨ strIterType x = "str_iterator" := by
      unfold strIterType; split
      · exact .inl rfl
      · exact .inr rfl
    refine ⟨s1.heap.objs.size + 1, [s1.heap.objs.size + 1, s1.heap.objs.size], _, _, H1, rfl, J2, SLe.turn_enumS _ _ x t _ hty, ⟨⟨.none, ze⟩, zi, Nat.succ_ne_self _⟩, fun c hc => ?_, q1⟩
    have hle := fin c (by simpa using hc)
    exact J1.fpOk hle (J1.hok.fresh hle)
/-- enumerate(text) -/
def iEnS (f : SemL) : SemI := fun fr st => (f fr st).bind fun vs st1 => match vs with
  | [.str z] => if z.length ≤ LINE then .ok (.non, numbered (sgnW z)) st1 else .bad
  | _ => .bad
theorem iv_enumS {X : Cx} {Wx : Wish} {e : Expr} {f : SemL} {p pos tpos : Pos} {elts : List Expr} {kk : Nat} (hm : X.mg "enumerate" = none) (ha : AV X Wx [e] f) (hg : Gl X "enumerate" := by rfl) (hs : starEach [e] X.env = [(false, eval e X.env)] := by rfl) :
    IV X Wx (.Tuple elts kk tpos) (.Call (.Name "enumerate" p) [e] [] pos) (iEnS f) := PIm (pi_enumS hm ha hg hs) fun σ H R ⟨μ, st, hid, fr, S, P⟩ => by
  refine ⟨μ, st, hid, fr, S, ?_⟩
  unfold iEnS at P
  cases h1 : f fr st with
  | bad => rw [h1] at P; exact P
  | err x s => rw [h1] at P; exact P
  | ok ws st1 =>
    rw [h1, Out.bind_ok] at P
    intro μ1 H1 vs k1 g1 r1
    have P1 := IPost.from g1 P
    split at P1
    · rename_i z
      obtain ⟨v, rfl, r2⟩ := reps1 (ws := []) r1
      cases rep_str_inv r2
      split at P1
      · rename_i hz
        have hnl : (numbered (sgnW z)).length = z.length := by unfold numbered; rw [List.length_mapIdx, sgnW_len]
        refine ⟨z, rfl, P1 μ1 H1 _ k1 .refl ?_⟩
        exact {
          len := by rw [hnl]; exact le_line hz
          go := fun hid μ st H i k l p _ _ hi => by rw [hnl] at hi; exact hi
          yld := fun hid μ st H i v H' k l p _ _ hi y => by
            obtain ⟨T, c, rfl, hT, rfl, hx⟩ := y
            obtain ⟨k1, g1, e1⟩ := k.laid (o := .tup [.int (i : Nat), .str ⟨#[c]⟩]) hT
            exact ⟨k1, g1, _, numbered_get (sgnW_get hx), rep_tup e1 (.cons rep_int (.cons rep_str .nil))⟩
          stop := fun hid μ st H i k l p _ _ hi => by rw [hnl] at hi; exact hi }
      · exact P1.elim
    · exact P1.elim
end SL

/-! # what stands in a list, a tuple, a text; its place -/
namespace SL
open PySem PySem.Spec PyProof.Rows L2
/-- flat values -/
def flW : W → Bool
  | .non => true
  | .bl _ => true
  | .int _ => true
  | .str _ => true
  | _ => false
def vaW : W → V
  | .bl b => .bl b
  | .int i => .int i
  | .str x => .str x
  | _ => .non
/-- == of flat values -/
def eqF : W → W → Bool
  | .non, .non => true
  | .bl a, .bl b => a == b
  | .bl a, .int b => (if a then 1 else 0) == b
  | .int a, .bl b => a == (if b then 1 else 0)
  | .int a, .int b => a == b
  | .str a, .str b => a == b
  | _, _ => false
theorem vaW_flat {w : W} (h : flW w = true) : flatV (vaW w) = true := by cases w <;> first | rfl | cases h
theorem eqF_at {a b : W} (ha : flW a = true) (hb : flW b = true) : eqV (vaW a) (vaW b) = eqF a b := by
  cases a <;> cases b <;> first | rfl | exact Bool.noConfusion ha | exact Bool.noConfusion hb
theorem flW_at {K : PySem.W.Frag} {mg : Str → Option Value} {F : Hp} {μ : List Addr} {w : W} {v : V} (h : flW w = true) (r : Rep K mg F μ w v) : v = vaW w := by
  cases w with
  | non => exact rep_non_inv r
  | bl b => exact rep_bl_inv r
  | int b => exact rep_int_inv r
  | str b => exact rep_str_inv r
  | _ => cases h
theorem flWs_at {K : PySem.W.Frag} {mg : Str → Option Value} {F : Hp} {μ : List Addr} : ∀ {ws : List W} {vs : List V}, ws.all flW = true → Reps K mg F μ ws vs → vs = ws.map vaW
  | [], vs, _, r => by rw [Reps.nil_iff] at r; subst r; rfl
  | w :: ws, vs, h, r => by
    rw [List.all_cons, Bool.and_eq_true] at h
    obtain ⟨v, t, rfl, r1, r2⟩ := r.cons_inv
    rw [flW_at h.1 r1, flWs_at h.2 r2]; rfl
theorem flWs_flat : ∀ {ws : List W}, ws.all flW = true → (ws.map vaW).all flatV = true
  | [], _ => rfl
  | w :: ws, h => by
    rw [List.all_cons, Bool.and_eq_true] at h
    rw [List.map_cons, List.all_cons, vaW_flat h.1, flWs_flat h.2]; rfl
theorem inV_at {x : W} (hx : flW x = true) : ∀ {ws : List W}, ws.all flW = true → inV (vaW x) (ws.map vaW) = ws.any fun y => eqF y x
  | [], _ => rfl
  | w :: ws, h => by
    rw [List.all_cons, Bool.and_eq_true] at h
    have ih := inV_at hx h.2
    unfold inV at ih ⊢
    rw [List.map_cons, List.any_cons, List.any_cons, ih, eqF_at h.1 hx]
/-- x in a list or tuple of flat values; a sign in a text; data in a list of data -/
def inW (st : Sto) (x y : W) : Option Bool := match y with
  | .str z => match x with
    | .str ⟨⟨[c]⟩⟩ => some (decide (c ∈ z.cps.toList))
    | _ => none
  | _ => match seqW st y with
    | some ws => if flW x && ws.all flW then some (ws.any fun y => eqF y x) else match pdT st x, pdT st y with
      | some d, some (.list ds) => if SeqAt.shaped d && SeqAt.shaped (.list ds) then some (ds.any fun z => PyData.eqv z d) else none
      | _, _ => none
    | none => none
def oIn : Op2 := fun x y st => match inW st x y with
  | some b => .ok (.bl b) st
  | none => .bad
def oNin : Op2 := fun x y st => match inW st x y with
  | some b => .ok (.bl (!b)) st
  | none => .bad
def rInA (K : PySem.W.Frag) : R2 := fun x y H Q => (rIn K false x y H Q ∨ (∃ (c : Nat) (z : Str), x = .str ⟨#[c]⟩ ∧ y = .str z ∧ Q (.bl (decide (c ∈ z.cps.toList))) H)) ∨ rInD K x y H Q
def rNinA (K : PySem.W.Frag) : R2 := fun x y H Q => (rIn K true x y H Q ∨ (∃ (c : Nat) (z : Str), x = .str ⟨#[c]⟩ ∧ y = .str z ∧ Q (.bl (!decide (c ∈ z.cps.toList))) H)) ∨ rNotInD K x y H Q
section
variable {X : Cx}
theorem or_in (hu : X.A.units + 65 < cLine) : OpR X (compareOp .In) (rInA X.K) := (op_in_seq.or op_in_sign).or (op_inD hu)
theorem or_nin (hu : X.A.units + 65 < cLine) : OpR X (compareOp .NotIn) (rNinA X.K) := (op_notIn_seq.or op_notIn_sign).or (op_notInD hu)
theorem inW_at {K : PySem.W.Frag} {mg : Str → Option Value} {H : Hp} {hid μ : List Addr} {st : Sto} (k : StOk K mg μ st hid H) {w u : W} {x y : V} {b : Bool} (h : inW st w u = some b) (rx : Rep K mg (Fz μ st hid H) μ w x) (ry : Rep K mg (Fz μ st hid H) μ u y) :
    (∃ p xs, y = .ref p ∧ (SqL K H p xs ∨ SqT K H p xs) ∧ flatV x = true ∧ xs.all flatV = true ∧ b = inV x xs) ∨ (∃ (c : Nat) (z : Str), x = .str ⟨#[c]⟩ ∧ y = .str z ∧ b = decide (c ∈ z.cps.toList)) ∨
    (∃ d ds, Dp K H x d ∧ Dp K H y (.list ds) ∧ SeqAt.shaped d = true ∧ SeqAt.shaped (.list ds) = true ∧ b = ds.any fun z => PyData.eqv z d) := by
  have go : ∀ ws, seqW st u = some ws → (if flW w && ws.all flW then some (ws.any fun y => eqF y w) else match pdT st w, pdT st u with
      | some d, some (.list ds) => if SeqAt.shaped d && SeqAt.shaped (.list ds) then some (ds.any fun z => PyData.eqv z d) else none
      | _, _ => none) = some b → (∃ p xs, y = .ref p ∧ (SqL K H p xs ∨ SqT K H p xs) ∧ flatV x = true ∧ xs.all flatV = true ∧ b = inV x xs) ∨ (∃ (c : Nat) (z : Str), x = .str ⟨#[c]⟩ ∧ y = .str z ∧ b = decide (c ∈ z.cps.toList)) ∨
    (∃ d ds, Dp K H x d ∧ Dp K H y (.list ds) ∧ SeqAt.shaped d = true ∧ SeqAt.shaped (.list ds) = true ∧ b = ds.any fun z => PyData.eqv z d) := fun ws e h => by
    obtain ⟨a, vs, rfl, h1, h2⟩ := seqW_at k e ry
    split at h
    · rename_i hf
      rw [Bool.and_eq_true] at hf
      cases h
      have e1 := flW_at hf.1 rx
      have e2 := flWs_at hf.2 h2
      subst e1 e2
      exact .inl ⟨a, _, rfl, h1, vaW_flat hf.1, flWs_flat hf.2, (inV_at hf.1 hf.2).symm⟩
    · split at h
      · rename_i d ds e1 e2
        split at h
        · rename_i hs
          rw [Bool.and_eq_true] at hs
          cases h
          exact .inr (.inr ⟨d, ds, pdT_at k e1 rx, pdT_at k e2 ry, hs.1, hs.2, rfl⟩)
        · cases h
      · cases h
  unfold inW at h
  split at h
  · rename_i z
    split at h
    · rename_i c
      cases h
      exact .inr (.inl ⟨c, z, rep_str_inv rx, rep_str_inv ry, rfl⟩)
    · cases h
  · split at h
    · rename_i ws e
      exact go ws e h
    · cases h
theorem os_in : Op2S X oIn (rInA X.K) := by
  intro Wx hid μ st σ H Q w u x y k rx ry P
  unfold oIn at P
  split at P
  · rename_i b h
    have q := P μ H _ k .refl rep_bl
    rcases inW_at k h rx ry with ⟨p, xs, h1, h2, h3, h4, rfl⟩ | ⟨c, z, h1, h2, rfl⟩ | ⟨d, ds, h1, h2, h3, h4, rfl⟩
    · exact .inl (.inl ⟨p, xs, h1, h2, h3, h4, q⟩)
    · exact .inl (.inr ⟨c, z, h1, h2, q⟩)
    · exact .inr ⟨d, ds, h1, h2, h3, h4, q⟩
  · exact P.elim
theorem os_nin : Op2S X oNin (rNinA X.K) := by
  intro Wx hid μ st σ H Q w u x y k rx ry P
  unfold oNin at P
  split at P
  · rename_i b h
    have q := P μ H _ k .refl rep_bl
    rcases inW_at k h rx ry with ⟨p, xs, h1, h2, h3, h4, rfl⟩ | ⟨c, z, h1, h2, rfl⟩ | ⟨d, ds, h1, h2, h3, h4, rfl⟩
    · exact .inl (.inl ⟨p, xs, h1, h2, h3, h4, q⟩)
    · exact .inl (.inr ⟨c, z, h1, h2, q⟩)
    · exact .inr ⟨d, ds, h1, h2, h3, h4, q⟩
  · exact P.elim
/-! ## the place in a list (flat values, or data), in a tuple of texts -/
def idxF (x : W) : List W → Option Nat
  | [] => none
  | y :: ws => if eqF y x = true then some 0 else (idxF x ws).map (· + 1)
theorem idxF_at {x : W} : ∀ {ws : List W} {j : Nat}, idxF x ws = some j → (∃ z, ws[j]? = some z ∧ eqF z x = true) ∧ ∀ m z, m < j → ws[m]? = some z → eqF z x = false
  | [], j, h => by cases h
  | y :: ws, j, h => by
    unfold idxF at h
    split at h
    · rename_i e
      cases h
      exact ⟨⟨y, rfl, e⟩, fun m z hm => absurd hm (by omega)⟩
    · rename_i e
      cases e1 : idxF x ws with
      | none => rw [e1] at h; cases h
      | some k =>
        rw [e1] at h; cases h
        obtain ⟨⟨z, h1, h2⟩, h3⟩ := idxF_at e1
        refine ⟨⟨z, by simpa using h1, h2⟩, fun m z' hm hz => ?_⟩
        cases m with
        | zero => simp at hz; subst hz; simpa using e
        | succ m => exact h3 m z' (Nat.lt_of_succ_lt_succ hm) (by simpa using hz)
def idxD (d : PyData) : List PyData → Option Nat
  | [] => none
  | y :: ws => if PyData.eqv y d = true then some 0 else (idxD d ws).map (· + 1)
theorem idxD_at {x : PyData} : ∀ {ws : List PyData} {j : Nat}, idxD x ws = some j → (∃ z, ws[j]? = some z ∧ PyData.eqv z x = true) ∧ ∀ m z, m < j → ws[m]? = some z → PyData.eqv z x = false
  | [], j, h => by cases h
  | y :: ws, j, h => by
    unfold idxD at h
    split at h
    · rename_i e
      cases h
      exact ⟨⟨y, rfl, e⟩, fun m z hm => absurd hm (by omega)⟩
    · rename_i e
      cases e1 : idxD x ws with
      | none => rw [e1] at h; cases h
      | some k =>
        rw [e1] at h; cases h
        obtain ⟨⟨z, h1, h2⟩, h3⟩ := idxD_at e1
        refine ⟨⟨z, by simpa using h1, h2⟩, fun m z' hm hz => ?_⟩
        cases m with
        | zero => simp at hz; subst hz; simpa using e
        | succ m => exact h3 m z' (Nat.lt_of_succ_lt_succ hm) (by simpa using hz)
def mIndex : OpM := fun x ws st => match ws with
  | [y] => match lstW st x with
    | some us => if flW y && us.all flW then (match idxF y us with
        | some j => .ok (.int (j : Nat)) st
        | none => .bad) else (match pdT st x, pdT st y with
        | some (.list ds), some d => if SeqAt.shaped (.list ds) && SeqAt.shaped d then (match idxD d ds with
            | some j => .ok (.int (j : Nat)) st
            | none => .bad) else .bad
        | _, _ => .bad)
    | none => .bad
  | _ => .bad
theorem mt_indexA (hu : X.A.units + 65 < cLine) : MtR X "list.index" (fun x xs H Q => rIndex X.K x xs H Q ∨ rIndexD X.K x xs H Q) := (mt_index).or (mt_indexD hu)
theorem os_index : OpMS X mIndex (fun x xs H Q => rIndex X.K x xs H Q ∨ rIndexD X.K x xs H Q) := by
  intro Wx hid μ st σ H Q w ws x vs k rx rs P
  unfold mIndex at P
  split at P
  · rename_i y
    obtain ⟨v, rfl, r1⟩ := reps1 (ws := []) rs
    split at P
    · rename_i us e
      obtain ⟨a, zs, rfl, h1, h2⟩ := lstW_at k e rx
      split at P
      · rename_i hf
        rw [Bool.and_eq_true] at hf
        split at P
        · rename_i j ej
          obtain ⟨⟨z, q1, q2⟩, q3⟩ := idxF_at ej
          have e1 := flW_at hf.1 r1
          have e2 := flWs_at hf.2 h2
          subst e1 e2
          have fl : ∀ {m : Nat} {z : W}, us[m]? = some z → flW z = true := fun h => List.all_eq_true.mp hf.2 _ (List.mem_of_getElem? h)
          refine .inl ⟨a, _, _, j, vaW z, rfl, rfl, h1, vaW_flat hf.1, flWs_flat hf.2, by rw [List.getElem?_map, q1]; rfl, by rw [eqF_at (fl q1) hf.1]; exact q2, fun m z' hm hz => ?_, P μ H _ k .refl rep_int⟩
          rw [List.getElem?_map] at hz
          cases e3 : us[m]? with
          | none => rw [e3] at hz; cases hz
          | some u =>
            rw [e3] at hz
            cases hz
            rw [eqF_at (fl e3) hf.1]
            exact q3 m u hm e3
        · exact P.elim
      · split at P
        · rename_i ds d e1 e2
          split at P
          · rename_i hs
            rw [Bool.and_eq_true] at hs
            split at P
            · rename_i j ej
              obtain ⟨⟨z, q1, q2⟩, q3⟩ := idxD_at ej
              exact .inr ⟨a, v, d, ds, j, z, rfl, rfl, pdT_at k e1 rx, pdT_at k e2 r1, hs.1, hs.2, q1, q2, q3, P μ H _ k .refl rep_int⟩
            · exact P.elim
          · exact P.elim
        · exact P.elim
    · exact P.elim
  · exact P.elim
/-- the texts of a list -/
def strsW : List W → Option (List Str)
  | [] => some []
  | .str x :: r => (strsW r).map (x :: ·)
  | _ :: _ => none
theorem strsW_at {K : PySem.W.Frag} {mg : Str → Option Value} {F : Hp} {μ : List Addr} : ∀ {ws : List W} {vs : List V} {xs : List Str}, strsW ws = some xs → Reps K mg F μ ws vs → vs = xs.map V.str
  | [], vs, xs, h, r => by rw [Reps.nil_iff] at r; subst r; cases h; rfl
  | w :: ws, vs, xs, h, r => by
    obtain ⟨v, t, rfl, r1, r2⟩ := r.cons_inv
    unfold strsW at h
    split at h
    · rename_i e; cases e
    · rename_i x r' e
      cases e
      cases e1 : strsW ws with
      | none => rw [e1] at h; cases h
      | some ys =>
        rw [e1] at h; cases h
        rw [strsW_at e1 r2, rep_str_inv r1]; rfl
    · cases h
theorem strsW_map (xs : List Str) : strsW (xs.map W.str) = some xs := by
  induction xs with
  | nil => rfl
  | cons x xs ih => rw [List.map_cons]; unfold strsW; rw [ih]; rfl
def mIndexT : OpM := fun x ws st => match ws with
  | [.str y] => match tupW st x with
    | some us => match strsW us with
      | some xs => match xs.findIdx? (fun z => decide (z = y)) with
        | some j => .ok (.int (j : Nat)) st
        | none => .bad
      | none => .bad
    | none => .bad
  | _ => .bad
theorem os_indexT : OpMS X mIndexT (fun x xs H Q => ∃ p, ∃ ys : List Str, ∃ z j, x = .ref p ∧ xs = [.str z] ∧ SqT X.K H p (ys.map V.str) ∧ ys[j]? = some z ∧ (∀ m, m < j → ys[m]? ≠ some z) ∧ Q (.int (j : Nat)) H) := by
  intro Wx hid μ st σ H Q w ws x vs k rx rs P
  unfold mIndexT at P
  split at P
  · rename_i y
    obtain ⟨v, rfl, r1⟩ := reps1 (ws := []) rs
    cases rep_str_inv r1
    split at P
    · rename_i us e
      obtain ⟨a, zs, rfl, h1, h2⟩ := tupW_at k e rx
      split at P
      · rename_i xs e1
        have e2 := strsW_at e1 h2
        subst e2
        split at P
        · rename_i j ej
          obtain ⟨hj, q1, q2⟩ := List.findIdx?_eq_some_iff_getElem.mp ej
          refine ⟨a, xs, y, j, rfl, rfl, h1, by rw [List.getElem?_eq_getElem hj, of_decide_eq_true q1], fun m hm hz => ?_, P μ H _ k .refl rep_int⟩
          have hml : m < xs.length := by omega
          rw [List.getElem?_eq_getElem hml] at hz
          have := q2 m hm
          simp [Option.some.inj hz] at this
        · exact P.elim
      · exact P.elim
    · exact P.elim
  · exact P.elim
/-! ## pop at a place -/
theorem reps_erase {K : PySem.W.Frag} {mg : Str → Option Value} {F : Hp} {μ : List Addr} : ∀ {ws : List W} {vs : List V} (j : Nat), Reps K mg F μ ws vs → Reps K mg F μ (ws.eraseIdx j) (vs.eraseIdx j)
  | [], vs, j, r => by rw [Reps.nil_iff] at r; subst r; simp; exact .nil
  | w :: ws, vs, 0, r => by
    obtain ⟨v, t, rfl, r1, r2⟩ := r.cons_inv
    simpa using r2
  | w :: ws, vs, j + 1, r => by
    obtain ⟨v, t, rfl, r1, r2⟩ := r.cons_inv
    rw [List.eraseIdx_cons_succ, List.eraseIdx_cons_succ]
    exact .cons r1 (reps_erase j r2)
noncomputable def mPopAt : OpM := fun x ws st => match x, ws with
  | .cell k, [.int i] => match st[k]? with
    | some (.lst vs) => if dec (-(2 ^ 63) ≤ i ∧ i < 2 ^ 63) = true then (match seqIndex? i vs.length with
      | some j => match vs[j]? with
        | some u => .ok u (st.set k (.lst (vs.eraseIdx j)))
        | none => .bad
      | none => .bad) else .bad
    | _ => .bad
  | _, _ => .bad
theorem os_popAt : OpMS X mPopAt rPopAt := by
  intro Wx hid μ st σ H Q w ws x vs k rx rs P
  unfold mPopAt at P
  split at P
  · rename_i n i
    obtain ⟨v, rfl, r1⟩ := reps1 (ws := []) rs
    cases rep_int_inv r1
    split at P
    · rename_i zs e1
      split at P
      · rename_i hz
        have hz := dec_of hz
        split at P
        · rename_i j ej
          split at P
          · rename_i u eu
            obtain ⟨a, rfl, h3, xs, h4, h5⟩ := k.cell e1 rx
            obtain ⟨y, ey, ry⟩ := h5.get eu
            refine ⟨a, xs, i, j, y, rfl, rfl, h4, hz.1, hz.2, by rw [← h5.length]; exact ej, ey, ?_⟩
            obtain ⟨k2, g2⟩ := k.setCell (c' := .lst (zs.eraseIdx j)) (o := .lst (xs.eraseIdx j)) h3 e1 rfl rfl ⟨_, upd_same, reps_erase j h5⟩
            exact P μ _ _ k2 g2 (Rep.mono g2.le g2.pre _ _ ry)
          · exact P.elim
        · exact P.elim
      · exact P.elim
    · exact P.elim
  · exact P.elim
end
end SL

/-! # plain tuples: tuple(x) made; their index; list(text); join; sorted texts; a sign of a text -/
namespace SL
open PySem PySem.Spec PyProof.Rows L2
section
variable {X : Cx}
/-- tuple(list) makes a plain one -/
def rTupP (K : PySem.W.Frag) : List V → Hp → VK → Prop := fun xs H Q => ∃ a ys, xs = [.ref a] ∧ ((SqL K H a ys ∧ ∀ l o, o.dict = none → H l = none → Q (.ref l) (upd H l (.frz o (.tup ys)))) ∨ (SqT K H a ys ∧ Q (.ref a) H))
theorem call_tupleP : CallR X (.type "tuple") (rTupP X.K) := by
  intro pins s σ H xs us Q I r h
  obtain ⟨p, ys, rfl, h⟩ := h
  obtain ⟨u, rfl, rx⟩ := vals1 r
  cases rx
  rcases h with ⟨hq, q⟩ | ⟨hq, q⟩
  · obtain ⟨its, r', pl, hz⟩ := I.list hq
    have hlen := r'.length
    refine call_tuple_list pl.isList (fun h' kp => ?_) (by simp only [List.size_toArray] <;> omega)
    have I1 : Inv X pins σ H { s with heap := h' } := I.kept (t' := s.toks) kp
    have I2 : Inv X pins σ (upd H h'.objs.size (.frz { cls := .type "tuple", data := .seq its.toArray } (.tup ys))) { s with heap := h'.push { cls := .type "tuple", data := .seq its.toArray } } :=
      I1.laid (t' := s.toks) (fun b o e => Heap.get?_push_of_some _ e) (Nat.le_refl _) (show ObjOk X.prog X.w _ _ _ (.frz _ (.tup ys)) from ⟨Heap.get?_push_size _ rfl, hz, its, r', IsTup.new _ _⟩)
    exact ⟨.ref h'.objs.size, _, I2, rfl, q _ _ rfl (I1.hok.fresh (Nat.le_refl _))⟩
  · obtain ⟨its, r', pl, hz⟩ := I.tuple hq
    exact call_tuple_same pl ⟨.ref p, H, I, rfl, q⟩
def oTupleP : OpN := fun ws st => match ws with
  | [x] => match lstW st x with
    | some us => .ok (.tpn us) st
    | none => match tupW st x with
      | some _ => .ok x st
      | none => .bad
  | _ => .bad
theorem os_tupleP : OpNS X oTupleP (rTupP X.K) := by
  intro Wx hid μ st σ H Q ws vs k r P
  unfold oTupleP at P
  split at P
  · obtain ⟨v, rfl, r1⟩ := reps1 (ws := []) r
    split at P
    · rename_i us e'
      obtain ⟨a, xs, rfl, h1, h2⟩ := lstW_at k e' r1
      exact ⟨a, xs, rfl, .inl ⟨h1, fun l o ho hl => ok_new P k hl fun F le e => rep_tpn ⟨o, ho, e⟩ (h2.mono le (.refl _))⟩⟩
    · split at P
      · rename_i us e
        obtain ⟨a, xs, rfl, h1, h2⟩ := tupW_at k e r1
        exact ⟨a, xs, rfl, .inr ⟨h1, P μ H _ k .refl r1⟩⟩
      · exact P.elim
  · exact P.elim
/-! ## t.index(x), a plain tuple of texts -/
def tpnW (st : Sto) : W → Option (List W)
  | .tpn ws => some ws
  | .cell k => match st[k]? with
    | some (.frz (.tpn ws)) => some ws
    | _ => none
  | _ => none
theorem tpnW_at {K : PySem.W.Frag} {mg : Str → Option Value} {μ : List Addr} {st : Sto} {hid : List Addr} {H : Hp} (s : StOk K mg μ st hid H) {w : W} {ws : List W} {v : V} (h : tpnW st w = some ws) (r : Rep K mg (Fz μ st hid H) μ w v) : ∃ a vs o, v = .ref a ∧ o.dict = none ∧ H a = some (.frz o (.tup vs)) ∧ Reps K mg (Fz μ st hid H) μ ws vs := by
  cases w with
  | tpn us =>
    unfold tpnW at h; cases h
    obtain ⟨a, vs, e, ⟨o, ho, h1⟩, h2⟩ := rep_tpn_inv r
    exact ⟨a, vs, o, e, ho, (Fz.sub h1).1, h2⟩
  | cell k =>
    unfold tpnW at h
    simp only at h
    split at h
    · rename_i us e
      cases h
      obtain ⟨a, e1, e2, h1⟩ := s.cell e r
      obtain ⟨b, vs, e3, ⟨o, ho, h2⟩, h3⟩ := rep_tpn_inv h1
      cases e3
      exact ⟨a, vs, o, e1, ho, (Fz.sub h2).1, h3⟩
    · cases h
  | _ => cases h
def rIdxP (x : V) (vs : List V) (H : Hp) (Q : VK) : Prop := ∃ (p : Addr) (o : Obj) (ys : List Str) (z : Str) (j : Nat), x = .ref p ∧ vs = [.str z] ∧ o.dict = none ∧ H p = some (.frz o (.tup (ys.map V.str))) ∧ ys[j]? = some z ∧ (∀ m, m < j → ys[m]? ≠ some z) ∧ Q (.int (j : Nat)) H
/-- o.index(e), o a plain tuple of texts -/
theorem pe_idxP {o e : Expr} {to : TE} {t : TA} {apos cpos : Pos} (ho : PE X o to) (ha : PA X [e] t)
    (hbase : attributeBase o "index" X.env (eval o X.env) = eval o X.env) (hline : (apos.endLine == cpos.line) = true) (hs : starEach [e] X.env = [(false, eval e X.env)])
    (hfew : ((backTo cpos (starEach [e] X.env)).all (fun x => !x.1) && (backToKw cpos (keywordEach [] X.env)).all (fun x => x.1.isSome) && decide (([e] : List Expr).length + ([] : List Keyword).length + (if ([] : List Keyword).isEmpty then 0 else 1) < 30)) = true) :
    PE X (.Call (.Attribute o "index" apos) [e] [] cpos) (fun σ H Q => to σ H fun x H1 => (∃ (p : Addr) (ob : Obj) (vs : List V), x = .ref p ∧ ob.dict = none ∧ H1 p = some (.frz ob (.tup vs))) ∧ t σ H1 fun vs H2 => rIdxP x vs H2 Q) := by
  refine ⟨fun pins s σ H Q I h => ?_⟩
  refine wpAny_Call_method_late hbase hfew hline rfl (thn (ho.run pins s σ H _ I h) fun v s1 ⟨x, H1, I1, r1, ty, q1⟩ => ?_)
  obtain ⟨p, ob, vs, rfl, hd, hp⟩ := ty
  cases r1
  obtain ⟨e1, hz, its, rv, it⟩ := I1.hok p _ hp
  have hT : s1.TypeIs (.ref p) "tuple" := by
    obtain ⟨o2, h1, h2, _⟩ := it
    exact ⟨o2, h1, h2⟩
  refine ⟨"tuple", "tuple.index", PySem.F.plainAttrs_tuple, PySem.F.slot_tuple_index, PySem.F.type_tuple_index, hT, fun a ea => ?_, ?_⟩
  · cases ea
    exact ⟨ob, e1, hd⟩
  · have hA := ha.run cpos pins s1 σ H1 _ I1 q1
    rw [hs] at hA ⊢
    refine Calls.callWith_builtin rfl (Calls.evalArgs_plain ?_)
    exact thn hA fun us s2 ⟨vs2, H2, I2, r2, q2⟩ => by
      obtain ⟨p2, o2, ys, z, j, e3, rfl, hd2, hp2, hj, hno, q⟩ := q2
      cases e3
      exact mt_tup_index pins s2 σ H2 (.ref p) [.str z] _ us Q I2 rfl r2 ⟨p, ys, z, j, rfl, rfl, .inl (.inr ⟨o2, hp2⟩), hj, hno, q⟩
def mIndexP : OpM := fun x ws st => match ws with
  | [.str y] => match tpnW st x with
    | some us => match strsW us with
      | some xs => match xs.findIdx? (fun z => decide (z = y)) with
        | some j => .ok (.int (j : Nat)) st
        | none => .bad
      | none => .bad
    | none => .bad
  | _ => .bad
theorem os_indexP : OpMS X mIndexP rIdxP := by
  intro Wx hid μ st σ H Q w ws x vs k rx rs P
  unfold mIndexP at P
  split at P
  · rename_i y
    obtain ⟨v, rfl, r1⟩ := reps1 (ws := []) rs
    cases rep_str_inv r1
    split at P
    · rename_i us e
      obtain ⟨a, zs, o, rfl, ho, h1, h2⟩ := tpnW_at k e rx
      split at P
      · rename_i xs e1
        have e2 := strsW_at e1 h2
        subst e2
        split at P
        · rename_i j ej
          obtain ⟨hj, q1, q2⟩ := List.findIdx?_eq_some_iff_getElem.mp ej
          refine ⟨a, o, xs, y, j, rfl, rfl, ho, h1, by rw [List.getElem?_eq_getElem hj, of_decide_eq_true q1], fun m hm hz => ?_, P μ H _ k .refl rep_int⟩
          have hml : m < xs.length := by omega
          rw [List.getElem?_eq_getElem hml] at hz
          have := q2 m hm
          simp [Option.some.inj hz] at this
        · exact P.elim
      · exact P.elim
    · exact P.elim
  · exact P.elim
def isTpn (st : Sto) (w : W) : Bool := (tpnW st w).isSome
end
section
variable {X : Cx} {Wx : Wish}
theorem eM_readP {ty : Sto → W → Bool} {B : V → Hp → Prop} {op : OpM} {r : V → List V → Hp → VK → Prop} {f : Sem} {g : SemL} (ht : ∀ (hid μ : List Addr) (st : Sto) (H : Hp) (w : W) (v : V), StOk X.K X.mg μ st hid H → Rep X.K X.mg (Fz μ st hid H) μ w v → ty st w = true → B v H) (hs : OpMS X op r) :
    ∀ σ H Q, tE X.K X.mg Wx (eM ty op f g) σ H Q → tE X.K X.mg Wx f σ H fun x H1 => B x H1 ∧ tA X.K X.mg Wx g σ H1 fun vs H2 => r x vs H2 Q := fun σ H Q ⟨μ, st, hid, fr, S, P⟩ => by
  refine ⟨μ, st, hid, fr, S, ?_⟩
  unfold eM at P
  cases h : f fr st with
  | bad => rw [h] at P; exact P
  | err x s => rw [h] at P; exact P
  | ok w st1 =>
    rw [h, Out.bind_ok] at P
    intro μ1 H1 v k1 g1 r1
    have P1 := EPost.from g1 P
    split at P1
    · rename_i hty
      refine ⟨ht hid μ1 st1 H1 w v k1 r1 hty, μ1, st1, hid, fr, S.next k1 g1, ?_⟩
      cases h2 : g fr st1 with
      | bad => rw [h2] at P1; exact P1
      | err x s => rw [h2] at P1; exact P1
      | ok ws st2 =>
        rw [h2, Out.bind_ok] at P1
        intro μ2 H2 vs k2 g2 r2
        exact hs Wx.w hid μ2 st2 σ H2 Q w ws v vs k2 (Rep.mono g2.le g2.pre _ _ r1) r2 (EPost.from g2 P1)
    · exact P1.elim
theorem ev_idxP {o e : Expr} {f : Sem} {g : SemL} {apos cpos : Pos} (ho : EV X Wx o f) (ha : AV X Wx [e] g)
    (hbase : attributeBase o "index" X.env (eval o X.env) = eval o X.env := by rfl) (hline : (apos.endLine == cpos.line) = true := by rfl) (hs : starEach [e] X.env = [(false, eval e X.env)] := by rfl)
    (hfew : ((backTo cpos (starEach [e] X.env)).all (fun x => !x.1) && (backToKw cpos (keywordEach [] X.env)).all (fun x => x.1.isSome) && decide (([e] : List Expr).length + ([] : List Keyword).length + (if ([] : List Keyword).isEmpty then 0 else 1) < 30)) = true := by rfl) :
    EV X Wx (.Call (.Attribute o "index" apos) [e] [] cpos) (eM isTpn mIndexP f g) := PEm (pe_idxP ho ha hbase hline hs hfew) (eM_readP (fun hid μ st H w v k r h => by
      unfold isTpn at h
      cases e : tpnW st w with
      | none => rw [e] at h; cases h
      | some us =>
        obtain ⟨a, vs, o, rfl, hd, h1, _⟩ := tpnW_at k e r
        exact ⟨a, o, vs, rfl, hd, h1⟩) os_indexP)
end
/-! ## list(text) -/
section
variable {X : Cx}
def rListS : List V → Hp → VK → Prop := fun xs H Q => ∃ z : Str, xs = [.str z] ∧ z.length ≤ sizeLine ∧ ∀ l, H l = none → Q (.ref l) (upd H l (.lst (z.cps.toList.map fun c => V.str ⟨#[c]⟩)))
theorem vals_get : ∀ {xs : List V} {us : List Value}, xs.length = us.length → (∀ (i : Nat) x u, xs[i]? = some x → us[i]? = some u → RelV x u) → Vals xs us
  | [], [], _, _ => .nil
  | [], _ :: _, h, _ => by simp at h
  | _ :: _, [], h, _ => by simp at h
  | x :: xs, u :: us, h, r => .cons (r 0 x u rfl rfl) (vals_get (by simpa using h) fun i y v h1 h2 => r (i + 1) y v (by simpa using h1) (by simpa using h2))
theorem vals_signs {x : Str} {acc : Array Value} (h : ItemsOf (SignAt x) acc x.cps.size) : Vals (x.cps.toList.map fun c => V.str ⟨#[c]⟩) acc.toList := by
  have hl : acc.toList.length = x.cps.toList.length := by simpa using h.1
  refine vals_get (by rw [List.length_map]; exact hl.symm) fun i v u h1 h2 => ?_
  obtain ⟨c, t, hc, rfl⟩ := h.2 i u (by rw [← Array.getElem?_toList]; exact h2)
  rw [List.getElem?_map, Array.getElem?_toList, hc] at h1
  cases h1
  exact ⟨t, rfl⟩
theorem call_listS (hc : X.calm = true) : CallR X (.type "list") rListS := by
  intro pins s σ H xs us Q I r h
  obtain ⟨z, rfl, hz, q⟩ := h
  obtain ⟨u, rfl, t, rfl⟩ := vals1 r
  refine call_list_str (I.ok.hd hc) z t (hn := hz) fun h' tk acc' c' kp e hacc => ?_
  have I1 : Inv X pins σ (upd H s.heap.objs.size (.lst (z.cps.toList.map fun c => V.str ⟨#[c]⟩))) { s with heap := h', toks := tk } :=
    I.laid (t' := tk) kp (Nat.le_refl _) (show ObjOk X.prog X.w _ h' _ (.lst _) from ⟨by rw [List.length_map]; exact hz, acc'.toList, c', vals_signs hacc, by simpa using e⟩)
  exact ⟨.ref s.heap.objs.size, _, I1, rfl, q _ (I.hok.fresh (Nat.le_refl _))⟩
theorem reps_signs {K : PySem.W.Frag} {mg : Str → Option Value} {F : Hp} {μ : List Addr} (cs : List Nat) : Reps K mg F μ (cs.map fun c => W.str ⟨#[c]⟩) (cs.map fun c => V.str ⟨#[c]⟩) := by
  induction cs with
  | nil => exact .nil
  | cons c cs ih => exact .cons rep_str ih
/-- list(text), that is to change; that is not -/
def oListSC : OpN := fun ws st => match ws with
  | [.str z] => if z.length ≤ LINE then .ok (.cell st.length) (st ++ [.lst (sgnW z)]) else .bad
  | _ => .bad
theorem os_listSC : OpNS X oListSC rListS := by
  intro Wx hid μ st σ H Q ws vs k r P
  unfold oListSC at P
  split at P
  · rename_i z
    obtain ⟨v, rfl, r1⟩ := reps1 (ws := []) r
    cases rep_str_inv r1
    split at P
    · rename_i hz
      refine ⟨z, rfl, le_line hz, fun l hl => ?_⟩
      obtain ⟨k2, g2⟩ := k.newCell (c := .lst (sgnW z)) (o := .lst (z.cps.toList.map fun c => V.str ⟨#[c]⟩)) hl rfl ⟨_, upd_same, reps_signs _⟩
      refine P _ _ _ k2 g2 ?_
      unfold Rep
      exact ⟨l, by rw [← k.len]; simp, rfl⟩
    · exact P.elim
  · exact P.elim
def oListS : OpN := fun ws st => match ws with
  | [.str z] => if z.length ≤ LINE then .ok (.lst (sgnW z)) st else .bad
  | _ => .bad
theorem os_listS : OpNS X oListS rListS := by
  intro Wx hid μ st σ H Q ws vs k r P
  unfold oListS at P
  split at P
  · rename_i z
    obtain ⟨v, rfl, r1⟩ := reps1 (ws := []) r
    cases rep_str_inv r1
    split at P
    · rename_i hz
      exact ⟨z, rfl, le_line hz, fun l hl => ok_new P k hl fun F le e => rep_lst e (reps_signs _)⟩
    · exact P.elim
  · exact P.elim
end
/-! ## join -/
def eJoin (f g : Sem) : Sem := fun fr st => (f fr st).bind fun w st1 => match w with
  | .str a => (g fr st1).bind fun y st2 => match (seqW st2 y).bind strsW with
    | some ys => if (ys.map (·.length)).sum + ys.length * a.length ≤ LINE then .ok (.str (Txt.join a ys)) st2 else .bad
    | none => .bad
  | _ => .bad
section
variable {X : Cx} {Wx : Wish}
theorem ev_join {o e : Expr} {f g : Sem} {apos pos : Pos} (ho : EV X Wx o f) (he : EV X Wx e g) (hs : starEach [e] X.env = [(false, eval e X.env)] := by rfl) (hbase : attributeBase o "join" X.env (eval o X.env) = eval o X.env := by rfl) (hline : (apos.endLine == pos.line) = true := by rfl) :
    EV X Wx (.Call (.Attribute o "join" apos) [e] [] pos) (eJoin f g) := PEm (pe_join ho he hs hbase hline) fun σ H Q ⟨μ, st, hid, fr, S, P⟩ => by
  refine ⟨μ, st, hid, fr, S, ?_⟩
  unfold eJoin at P
  cases h : f fr st with
  | bad => rw [h] at P; exact P
  | err x s => rw [h] at P; exact P
  | ok w st1 =>
    rw [h, Out.bind_ok] at P
    intro μ1 H1 v k1 g1 r1
    have P1 := EPost.from g1 P
    cases w with
    | str a =>
      refine ⟨⟨a, rep_str_inv r1⟩, μ1, st1, hid, fr, S.next k1 g1, ?_⟩
      simp only at P1
      cases h2 : g fr st1 with
      | bad => rw [h2] at P1; exact P1
      | err x s => rw [h2] at P1; exact P1
      | ok y st2 =>
        rw [h2, Out.bind_ok] at P1
        intro μ2 H2 u k2 g2 r2
        have P2 := EPost.from g2 P1
        split at P2
        · rename_i ys e1
          split at P2
          · rename_i hl
            cases e2 : seqW st2 y with
            | none => rw [e2] at e1; cases e1
            | some us =>
              rw [e2] at e1
              obtain ⟨p, vs, rfl, h3, h4⟩ := seqW_at k2 e2 r2
              have e3 := strsW_at (show strsW us = some ys from e1) h4
              subst e3
              exact ⟨a, p, ys, rep_str_inv r1, rfl, h3, hl, P2 μ2 H2 _ k2 .refl rep_str⟩
          · exact P2.elim
        · exact P2.elim
    | _ => exact P1.elim
end
/-! ## sorted texts -/
theorem lt_asymm : ∀ a b : List Nat, ltCps a b = true → ltCps b a = false
  | [], [], h => by cases h
  | [], _ :: _, _ => rfl
  | _ :: _, [], h => by cases h
  | a :: r, b :: t, h => by
    unfold ltCps at h ⊢
    by_cases e : a = b
    · subst e
      simp at h ⊢
      exact lt_asymm r t h
    · have q : (a == b) = false := by simpa using e
      have q2 : (b == a) = false := by simpa using Ne.symm e
      rw [q, Bool.false_and, Bool.or_false] at h
      rw [q2, Bool.false_and, Bool.or_false]
      have := of_decide_eq_true h
      exact decide_eq_false (by omega)
theorem le_trans' : ∀ a b c : List Nat, ltCps b a = false → ltCps c b = false → ltCps c a = false
  | [], _, [], _, _ => rfl
  | [], _, _ :: _, _, _ => rfl
  | _ :: _, [], _, h, _ => by cases h
  | _ :: _, _ :: _, [], _, h => by cases h
  | a :: r, b :: t, c :: u, h1, h2 => by
    unfold ltCps at h1 h2 ⊢
    rw [Bool.or_eq_false_iff, decide_eq_false_iff_not] at h1 h2 ⊢
    refine ⟨by omega, ?_⟩
    by_cases e : c = a
    · subst e
      have e2 : b = c := by omega
      subst e2
      simp at h1 h2 ⊢
      exact le_trans' r t u h1 h2
    · have q : (c == a) = false := by simpa using e
      rw [q, Bool.false_and]
theorem le_anti : ∀ a b : List Nat, ltCps a b = false → ltCps b a = false → a = b
  | [], [], _, _ => rfl
  | [], _ :: _, h, _ => by cases h
  | _ :: _, [], _, h => by cases h
  | a :: r, b :: t, h1, h2 => by
    unfold ltCps at h1 h2
    rw [Bool.or_eq_false_iff, decide_eq_false_iff_not] at h1 h2
    have e : a = b := by omega
    subst e
    simp at h1 h2
    rw [le_anti r t h1 h2]
def leS (a b : Str) : Bool := !ltCps b.cps.toList a.cps.toList
def sortS (xs : List Str) : List Str := xs.mergeSort leS
theorem str_ext {a b : Str} (h : a.cps.toList = b.cps.toList) : a = b := by
  cases a with | mk a => cases b with | mk b => exact congrArg Str.mk (Array.toList_inj.mp h)
theorem leS_trans (a b c : Str) (h1 : leS a b = true) (h2 : leS b c = true) : leS a c = true := by
  unfold leS at *
  rw [Bool.not_eq_true'] at *
  exact le_trans' _ _ _ h1 h2
theorem leS_total (a b : Str) : (leS a b || leS b a) = true := by
  unfold leS
  cases h : ltCps b.cps.toList a.cps.toList with
  | false => rfl
  | true => rw [lt_asymm _ _ h]; rfl
theorem leS_anti {a b : Str} (h1 : leS a b = true) (h2 : leS b a = true) : a = b := by
  unfold leS at *
  rw [Bool.not_eq_true'] at *
  exact str_ext (le_anti _ _ h2 h1)
theorem rising_pw : ∀ (p : Str) (l : List Str), risingS p l = true → (p :: l).Pairwise fun a b => leS a b = true
  | p, [], _ => by simp
  | p, x :: r, h => by
    unfold risingS at h
    rw [Bool.and_eq_true] at h
    have ih := rising_pw x r h.2
    refine List.pairwise_cons.mpr ⟨fun y hy => ?_, ih⟩
    rcases List.mem_cons.mp hy with e | hy
    · subst e; exact h.1
    · exact leS_trans p x y h.1 ((List.pairwise_cons.mp ih).1 y hy)
theorem sorted_pw : ∀ (l : List Str), sortedS l = true → l.Pairwise fun a b => leS a b = true
  | [], _ => .nil
  | x :: r, h => rising_pw x r h
theorem sortS_pw (xs : List Str) : (sortS xs).Pairwise fun a b => leS a b = true := List.pairwise_mergeSort leS_trans leS_total xs
theorem sortS_perm (xs : List Str) : (sortS xs).Perm xs := List.mergeSort_perm xs _
theorem sortS_of {ys xs : List Str} (p : ys.Perm xs) (h : sortedS ys = true) : ys = sortS xs :=
  one_order (p.trans (sortS_perm xs).symm) (sorted_pw ys h) (sortS_pw xs) fun a _ b _ h1 h2 => leS_anti h1 h2
noncomputable def oSortS : OpN := fun ws st => match ws with
  | [x] => match (lstW st x).bind strsW with
    | some xs => if xs.length < 64 then .ok (.lst ((sortS xs).map .str)) st else .bad
    | none => .bad
  | _ => .bad
theorem reps_strs {K : PySem.W.Frag} {mg : Str → Option Value} {F : Hp} {μ : List Addr} (xs : List Str) : Reps K mg F μ (xs.map W.str) (xs.map V.str) := by
  induction xs with
  | nil => exact .nil
  | cons c cs ih => exact .cons rep_str ih
theorem os_sortS {X : Cx} : OpNS X oSortS (rSortedS X.K) := by
  intro Wx hid μ st σ H Q ws vs k r P
  unfold oSortS at P
  split at P
  · rename_i x
    obtain ⟨v, rfl, r1⟩ := reps1 (ws := []) r
    split at P
    · rename_i xs e
      split at P
      · rename_i hl
        cases e1 : lstW st x with
        | none => rw [e1] at e; cases e
        | some us =>
          rw [e1] at e
          obtain ⟨a, zs, rfl, h1, h2⟩ := lstW_at k e1 r1
          have e3 := strsW_at (show strsW us = some xs from e) h2
          subst e3
          refine ⟨a, xs, rfl, h1, hl, fun ys p pm sr hp => ?_⟩
          rw [sortS_of pm sr]
          exact ok_new P k hp fun F l e => rep_lst e (reps_strs _)
      · exact P.elim
    · exact P.elim
  · exact P.elim
/-! ## t[i], a text -/
noncomputable def oIxS : Op2 := fun x y st => match x, y with
  | .str z, .int i => if dec (0 ≤ i ∧ i < 2 ^ 63) = true then (match z.cps[i.toNat]? with
    | some c => .ok (.str ⟨#[c]⟩) st
    | none => .bad) else .bad
  | _, _ => .bad
def rIxS : R2 := fun x y H Q => ∃ (z : Str) (i : Int) (c : Nat), x = .str z ∧ y = .int i ∧ 0 ≤ i ∧ i < 2 ^ 63 ∧ i < z.length ∧ z.cps[i.toNat]? = some c ∧ Q (.str ⟨#[c]⟩) H
theorem os_ixS {X : Cx} : Op2S X oIxS rIxS := by
  intro Wx hid μ st σ H Q w u x y k rx ry P
  unfold oIxS at P
  split at P
  · rename_i z i
    cases rep_str_inv rx
    cases rep_int_inv ry
    split at P
    · rename_i hd
      have hd := dec_of hd
      split at P
      · rename_i c hc
        have hlt : i.toNat < z.cps.size := by
          rcases Nat.lt_or_ge i.toNat z.cps.size with q | q
          · exact q
          · rw [Array.getElem?_eq_none q] at hc; cases hc
        exact ⟨z, i, c, rfl, rfl, hd.1, hd.2, by show i < (z.cps.size : Int); omega, hc, P μ H _ k .refl rep_str⟩
      · exact P.elim
    · exact P.elim
  · exact P.elim
theorem ev_ixS {X : Cx} {Wx : Wish} {a b : Expr} {f g : Sem} {pos : Pos} (ha : EV X Wx a f) (hb : EV X Wx b g) (hp : PlainIxT b) : EV X Wx (.Subscript a b pos) (e2 oIxS f g) :=
  PEm (pe_item_str ha hb hp) (e2_read os_ixS)
end SL

/-! # own methods; defs with defaults -/
namespace SL
open PySem PySem.Spec PyProof.Rows L2
structure MethIs (P : Program) (w : World) (K : PySem.W.Frag) (mg : Str → Option Value) (base : Heap) (c m : Str) (k n : Nat) (F : Fn) : Prop where
  ex : ∃ (C g : Addr) (fd : FuncData) (ps : List Str), mg c = some (.ref C) ∧ Cls K C ∧ Meth K C m g ∧ FnOk P w K mg base (L2.CX P w) k g fd ps (spF K mg (n + 1) F) ∧ Binds K fd ps []
def eMeth (c m : Str) (F : Fn) (f : Sem) (g : SemL) : Sem := fun fr st => (f fr st).bind fun w st1 => match insW st1 w with
  | some (d, ns, _) => if d = c ∧ m ∉ ns then (g fr st1).bind fun ws st2 => F (w :: ws) st2 else .bad
  | none => .bad
def tMethS (C : Addr) (m : Str) (sp : Sp) (E : L2.St → XK) (ta : TE) (t : TA) : TE := fun σ H Q => ta σ H fun x H1 => ∃ a dx fs, x = .ref a ∧ H1 a = some (.ins C dx fs) ∧ fs.lookup m = none ∧
  t σ H1 fun vs H2 => sp (x :: vs) H2 Q (E σ)
theorem lookup_zip_none {m : Str} : ∀ {ns : List Str} {vs : List V}, m ∉ ns → (ns.zip vs).lookup m = none
  | [], _, _ => rfl
  | _ :: _, [], _ => rfl
  | n :: ns, v :: vs, h => by
    rw [List.mem_cons, not_or] at h
    rw [List.zip_cons_cons, List.lookup_cons]
    have e : (m == n) = false := by simpa using h.1
    rw [e]
    exact lookup_zip_none h.2
section
variable {X : Cx} {Wx : Wish}
theorem pe_methS {k : Nat} {C g : Addr} {fd : FuncData} {ps : List Str} {m : Str} {sp : Sp} {E : L2.St → XK} {o e : Expr} {es : List Expr} {ta : TE} {t : TA} {apos pos : Pos} {pl : PySem.Sem Bool} (he : PE X o ta) (c : Cls X.K C) (hm : Meth X.K C m g) (F : FnOk X.prog X.w X.K X.mg X.base (L2.CX X.prog X.w) k g fd ps sp) (hr : Room k X.A) (hb : Binds X.K fd ps []) (hx : ∀ σ, PassesAt (L2.CX X.prog X.w) X σ (E σ)) (ha : PA X (e :: es) t)
    (hst : starEach (e :: es) X.env = (false, eval e X.env) :: starEach es X.env) (hpl : (backTo pos (starEach es X.env)).any (·.1) = false)
    (ht : eval (.Call (.Attribute o m apos) (e :: es) [] pos) X.env = (do
      let ov ← eval o X.env
      standAt apos.atName
      let (f, first) ← holding [ov] (getMethod ov m pl)
      callWith pos f first (backTo pos (starEach (e :: es) X.env)) (backToKw pos (keywordEach [] X.env)))) :
    PE X (.Call (.Attribute o m apos) (e :: es) [] pos) (tMethS C m sp E ta t) := by
  refine ⟨fun pins s σ H Q I h => ?_⟩
  refine PySem.W.methodCall_KW (pl := pl) (thn (he.run pins s σ H _ I h) fun u s1 ⟨x, H1, I1, rx, a, dx, fs, ex, ea, l, q⟩ => ?_) ht
  subst ex
  obtain rfl : u = Value.ref a := rx
  refine getmeth_ok I1 ea c hm l ?_
  refine PySem.W.callWith_K (first := [.ref a]) (h₀ := X.base) I.ok.mod.kin hm.kp (thn (ha.run pos pins s1 σ H1 _ I1 q) fun us s2 ⟨vs, H2, I2, r, q2⟩ => ⟨I2.kIn, ?_⟩) hst hpl
  exact run_fnS (us := .ref a :: us) (vs := .ref a :: vs) F hr hb (hx σ) I2 (.cons rfl r) q2
theorem eMeth_read {n : Nat} {c m : Str} {C : Addr} {F : Fn} {f : Sem} {g : SemL} (hm : X.mg c = some (.ref C)) (ar : ArN n g) : ∀ σ H Q, tE X.K X.mg Wx (eMeth c m F f g) σ H Q → tMethS C m (spF X.K X.mg (n + 1) F) (WE Wx.w) (tE X.K X.mg Wx f) (tA X.K X.mg Wx g) σ H Q := fun σ H Q ⟨μ, st, hid, fr, S, P⟩ => by
  refine ⟨μ, st, hid, fr, S, ?_⟩
  unfold eMeth at P
  cases h : f fr st with
  | bad => rw [h] at P; exact P
  | err x s => rw [h] at P; exact P
  | ok w st1 =>
    rw [h, Out.bind_ok] at P
    intro μ1 H1 v k1 g1 r1
    have P1 := EPost.from g1 P
    split at P1
    · rename_i d ns us e1
      split at P1
      · rename_i hd
        obtain ⟨rfl, hn⟩ := hd
        obtain ⟨a, D, dx, vs, rfl, g2, g3, g4, g5⟩ := insW_at k1 e1 r1
        rw [hm] at g2; cases g2
        refine ⟨a, dx, _, rfl, g4, lookup_zip_none hn, μ1, st1, hid, fr, S.next k1 g1, ?_⟩
        cases h2 : g fr st1 with
        | bad => rw [h2] at P1; exact P1
        | err x s => rw [h2] at P1; exact P1
        | ok ws st2 =>
          rw [h2, Out.bind_ok] at P1
          intro μ2 H2 zs k2 g6 r2
          have P2 := EPost.from g6 P1
          refine ⟨hid, μ2, st2, w :: ws, by rw [List.length_cons, ← r2.length, ar _ _ _ _ h2], k2, .cons (Rep.mono g6.le g6.pre _ _ r1) r2, ?_⟩
          cases e : F (w :: ws) st2 with
          | bad => rw [e] at P2; exact P2
          | err y st3 => rw [e] at P2; exact P2
          | ok u st3 => rw [e] at P2; exact P2
      · exact P1.elim
    · exact P1.elim
theorem ev_meth {k j n : Nat} {c m : Str} {F : Fn} {o e : Expr} {es : List Expr} {f : Sem} {g : SemL} {apos pos : Pos} {pl : PySem.Sem Bool} (I : MethIs X.prog X.w X.K X.mg X.base c m k n F) (C : Ctx X Wx j) (hk : k ≤ j) (ho : EV X Wx o f) (ha : AV X Wx (e :: es) g) (ar : ArN n g)
    (hst : starEach (e :: es) X.env = (false, eval e X.env) :: starEach es X.env := by rfl) (hpl : (backTo pos (starEach es X.env)).any (·.1) = false := by rfl)
    (ht : eval (.Call (.Attribute o m apos) (e :: es) [] pos) X.env = (do
      let ov ← eval o X.env
      standAt apos.atName
      let (f, first) ← holding [ov] (getMethod ov m pl)
      callWith pos f first (backTo pos (starEach (e :: es) X.env)) (backToKw pos (keywordEach [] X.env))) := by rfl) :
    EV X Wx (.Call (.Attribute o m apos) (e :: es) [] pos) (eMeth c m F f g) := by
  obtain ⟨A, ad, fd, ps, hm, hc, M, G, B⟩ := I.ex
  exact PEm (pe_methS ho hc M G (C.room.mono hk) B (fun σ => passAt C.tk σ) ha hst hpl ht) (eMeth_read hm ar)
/-- a method's own context -/
theorem meth_is {lv : Nat → W → Sto → Out W} {P : Program} {w : World} {K : PySem.W.Frag} {mg : Str → Option Value} {base : Heap} {c m qual : Str} {st : Stmt} {A f : Addr} {fd : FuncData} {N ps : List Str} {k q n : Nat} {b : SSem} (hlv : LvOk K mg lv) (F : Fun K m qual st f fd) (hx : mg c = some (.ref A)) (hc : Cls K A) (h1 : PySem.W.findIn K (.ref A) m = some (some (.ref f))) (h2 : PySem.W.isFn K (.ref f) = true) (hB : Binds K fd ps []) (S : FnScope N ps (defScope st))
    (hb : ∀ (cdv : Value) (A : Around) (outer : List Env) (s : Shared) (H : Hp) (E : XK), Ctx (cxOf (L2.CX P w) P w K mg base N qual (defScope st) f cdv A outer s H E) (Wish.of fun c d _ H => E c d H) k → BV (cxOf (L2.CX P w) P w K mg base N qual (defScope st) f cdv A outer s H E) (Wish.of fun c d _ H => E c d H) (defBody st) b)
    (hm : N.length = q := by rfl) (hn : ps.length = n + 1 := by rfl) : MethIs P w K mg base c m (k + 1) n (mkFnG lv q b) :=
  ⟨A, f, fd, ps, hx, hc, ⟨h1, h2, F.kp⟩, fn_okG hlv F S hm hn hb, hB⟩
end
/-! ## a def with one default: called with all but the last -/
structure FnDs (P : Program) (w : World) (K : PySem.W.Frag) (mg : Str → Option Value) (base : Heap) (x : Str) (k n : Nat) (dw : W) (F : Fn) : Prop where
  ex : ∃ (g : Addr) (fd : FuncData) (ps : List Str) (dv : V) (ds : List Value), FnOk P w K mg base (L2.CX P w) k g fd ps (spF K mg (n + 1) F) ∧ mg x = some (.ref g) ∧ PySem.W.keepIn K (.ref g) = true ∧ Binds K fd ps ds ∧ Vals [dv] ds ∧ ∀ F μ, Rep K mg F μ dw dv
def eCallD (F : Fn) (dw : W) (f : SemL) : Sem := eN (fun ws st => F (ws ++ [dw]) st) f
section
variable {X : Cx} {Wx : Wish}
theorem ev_callD {k j n : Nat} {x : Str} {dw : W} {F : Fn} {e : Expr} {es : List Expr} {f : SemL} {p pos : Pos} (I : FnDs X.prog X.w X.K X.mg X.base x k n dw F) (C : Ctx X Wx j) (hk : k ≤ j) (ha : AV X Wx (e :: es) f) (ar : ArN n f) (hg : Gl X x := by rfl) (hdb : (x == ("__debug__" : Str)) = false := by decide)
    (he : starEach (e :: es) X.env = (false, eval e X.env) :: starEach es X.env := by rfl) (hpl : (backTo pos (starEach es X.env)).any (·.1) = false := by rfl) : EV X Wx (.Call (.Name x p) (e :: es) [] pos) (eCallD F dw f) := by
  obtain ⟨g, fd, ps, dv, ds, h1, h2, h3, h4, h5, h6⟩ := I.ex
  refine PEm (pe_callSD h1 (C.room.mono hk) hg h2 h3 h4 h5 (fun σ => passAt C.tk σ) ha hdb he hpl) fun σ H Q ⟨μ, st, hid, fr, S, P⟩ => ?_
  refine ⟨μ, st, hid, fr, S, ?_⟩
  unfold eCallD eN at P
  cases h : f fr st with
  | bad => rw [h] at P; exact P
  | err x s => rw [h] at P; exact P
  | ok ws st1 =>
    rw [h, Out.bind_ok] at P
    intro μ1 H1 vs k1 g1 r1
    have P1 := EPost.from g1 P
    refine ⟨hid, μ1, st1, ws ++ [dw], by rw [List.length_append, ← r1.length, ar _ _ _ _ h]; rfl, k1, r1.append (.cons (h6 _ _) .nil), ?_⟩
    replace P1 : EPost X.K X.mg Wx.w hid μ1 st1 σ H1 Q (F (ws ++ [dw]) st1) := P1
    cases e : F (ws ++ [dw]) st1 with
    | bad => rw [e] at P1; exact P1
    | err y st3 => rw [e] at P1; exact P1
    | ok u st3 => rw [e] at P1; exact P1
end
end SL
namespace SL
open PySem PySem.Spec PyProof.Rows L2
theorem rm65 {k : Nat} {A : Around} (r : Room k A) : A.units + 65 < cLine := by have := r.un; omega
section
variable {X : Cx} {Wx : Wish}
/-- a method of a built-in type, without arguments -/
def eM0 (ty : Sto → W → Bool) (op : OpM) (f : Sem) : Sem := fun fr st => (f fr st).bind fun w st1 => if ty st1 w = true then op w [] st1 else .bad
theorem ev_m0 {T id : String} {name : Str} {ty : Sto → W → Bool} {op : OpM} {r : V → List V → Hp → VK → Prop} {o : Expr} {f : Sem} {apos cpos : Pos} (pa : PlainAttrs T) (slot : Slot T name id) (hty : typeOf (.builtin id) = pure (.type "method_descriptor"))
    (ht : ∀ (hid μ : List Addr) (st : Sto) (H : Hp) (w : W) (v : V), StOk X.K X.mg μ st hid H → Rep X.K X.mg (Fz μ st hid H) μ w v → ty st w = true → tyV X.K T v H) (hm : MtR X id r) (hs : OpMS X op r) (ho : EV X Wx o f)
    (hbase : attributeBase o name X.env (eval o X.env) = eval o X.env := by rfl) (hline : (apos.endLine == cpos.line) = true := by rfl) :
    EV X Wx (.Call (.Attribute o name apos) [] [] cpos) (eM0 ty op f) := PEm (pe_bm0 pa slot hty hm ho (hbase := hbase) (hline := hline)) fun σ H Q ⟨μ, st, hid, fr, S, P⟩ => by
  refine ⟨μ, st, hid, fr, S, ?_⟩
  unfold eM0 at P
  cases h : f fr st with
  | bad => rw [h] at P; exact P
  | err x s => rw [h] at P; exact P
  | ok w st1 =>
    rw [h, Out.bind_ok] at P
    intro μ1 H1 v k1 g1 r1
    have P1 := EPost.from g1 P
    split at P1
    · rename_i hty
      exact ⟨ht hid μ1 st1 H1 w v k1 r1 hty, hs Wx.w hid μ1 st1 σ H1 Q w [] v [] k1 r1 .nil P1⟩
    · exact P1.elim
end
theorem fn_okGD {lv : Nat → W → Sto → Out W} {P : Program} {w : World} {K : PySem.W.Frag} {mg : Str → Option Value} {base : Heap} {x qual : Str} {st : Stmt} {f : Addr} {fd : FuncData} {N ps : List Str} {k m n : Nat} {b : SSem} {dvs : List V} {kws : List (Str × V)} (hlv : LvOk K mg lv) (F : FunD K x qual (defArgs st) (defBody st) (defScope st) dvs kws f fd) (S : FnScope N ps (defScope st)) (hm : N.length = m := by rfl) (hn : ps.length = n := by rfl)
    (hb : ∀ (cdv : Value) (A : Around) (outer : List Env) (s : Shared) (H : Hp) (E : XK), Ctx (cxOf (L2.CX P w) P w K mg base N qual (defScope st) f cdv A outer s H E) (Wish.of fun c d _ H => E c d H) k → BV (cxOf (L2.CX P w) P w K mg base N qual (defScope st) f cdv A outer s H E) (Wish.of fun c d _ H => E c d H) (defBody st) b) :
    FnOk P w K mg base (L2.CX P w) (k + 1) f fd ps (spF K mg n (mkFnG lv m b)) := by
  refine F.ok S (fun vs H Q E h => ?_) (fun cdv A outer s H vs Q E hr h => ?_)
  · obtain ⟨_, _, _, _, h, _⟩ := h
    rw [h, hn]
  · refine ⟨_, hb cdv A outer s H E ⟨rfl, S.nd, hr, takes_of rfl rfl rfl rfl, passes_of (K := fun e s'' => L2.CX P w outer H s E e s'') rfl⟩, ?_⟩
    obtain ⟨hid, μ, st0, ws, hl, k0, r, P0⟩ := h
    have wl : ws.length = vs.length := r.length
    refine ⟨μ, st0, hid, ws.map some ++ List.replicate (m - ws.length) none, ⟨k0, ?_, fun i u hi => ?_, trivial⟩, ?_⟩
    · unfold L2.start
      simp only [List.length_append, List.length_map, List.length_replicate, wl, hm]
    · by_cases hlt : i < ws.length
      · rw [List.getElem?_append_left (by simpa using hlt), List.getElem?_map] at hi
        cases e : ws[i]? with
        | none => rw [e] at hi; cases hi
        | some u' =>
          rw [e] at hi
          cases hi
          obtain ⟨v, e1, e2⟩ := r.get e
          exact ⟨v, start_get e1, e2⟩
      · rw [List.getElem?_append_right (by simpa using hlt), List.getElem?_replicate] at hi
        split at hi <;> cases hi
    · unfold mkFnG at P0
      cases e : b (ws.map some ++ List.replicate (m - ws.length) none) st0 with
      | bad => rw [e] at P0; exact P0
      | bk f s => rw [e] at P0; exact P0.elim
      | ct f s => rw [e] at P0; exact P0.elim
      | nx f s =>
        rw [e] at P0
        exact fun μ' σ' H' S' g => leave_at k0.len g S'.sto rep_non P0
      | rt u s =>
        rw [e] at P0
        exact fun μ' H' v k' g r' => hlv _ _ _ _ _ _ _ _ _ _ _ _ _ k0.len g k' r' P0
      | er x f s =>
        rw [e] at P0
        exact fun μ' σ' H' c d S' g xr => leaveX_at k0.len g S'.sto xr P0
end SL

/-! # sorted(x, reverse=True); an own exception without fields -/
namespace SLr
open PySem PyProof.Rows Srt SrtO
section
variable {prog : Program} {w : World} {A : Around} {E : Value → Shared → Prop} {s : Shared}
def sv : Value → Str
  | .str x _ => x
  | _ => ""
def ltSv (v u : Value) : Bool := decide ((sv v).cps.toList < (sv u).cps.toList)
theorem swo_str : Swo ltSv := by
  refine ⟨fun x y h => ?_, fun x y z h1 h2 => ?_⟩
  · have a := of_decide_eq_true (p := (sv x).cps.toList < (sv y).cps.toList) h
    exact decide_eq_false (p := (sv y).cps.toList < (sv x).cps.toList) (List.lt_asymm a)
  · have a := of_decide_eq_false (p := (sv y).cps.toList < (sv x).cps.toList) h1
    have b := of_decide_eq_false (p := (sv z).cps.toList < (sv y).cps.toList) h2
    exact decide_eq_false (p := (sv z).cps.toList < (sv x).cps.toList) fun c => by
      have h3 : (sv x).cps.toList ≤ (sv y).cps.toList := a
      have h4 : (sv y).cps.toList ≤ (sv z).cps.toList := b
      exact List.le_trans h3 h4 c
theorem str_cmp {vs : List Value} {ss : List Str} (hS : StrsAre vs ss) : Cmp prog w A s oneType' (fun p => p.1 ∈ vs) (lt2 ltSv) := by
  intro p q hm hm'
  obtain ⟨a, t, e⟩ := hS.all _ hm
  obtain ⟨b, u, e'⟩ := hS.all _ hm'
  show wpAny (model prog w) A (keyLt' oneType' p.1 q.1) (fun r s' => s' = s ∧ r = ltSv p.1 q.1) (fun _ _ => False) s
  rw [e, e', keyLt'_oneType]
  exact oneLt_str ⟨rfl, rfl⟩
theorem strs_sortable {a : Addr} {vs : List Value} {ss : List Str} (hS : StrsAre vs ss) (h2 : 2 ≤ vs.length) : SortableO prog w A s a vs ltSv := by
  intro h' _
  refine ⟨oneType', fun Q E hq => ?_, str_cmp hS⟩
  match vs, hS, h2 with
  | v1 :: v2 :: rest, hS, _ =>
    rw [keyKind_strs hS]
    exact wpAny_pure hq
  | [], _, h => exact absurd h (by decide)
  | [v], _, h => exact absurd h (by simp)
end
end SLr
namespace SL
open PySem PySem.Spec PyProof.Rows L2
def downS (a b : Str) : Bool := leS b a
def sortSR (xs : List Str) : List Str := xs.mergeSort downS
def sortIR (xs : List Int) : List Int := xs.mergeSort fun a b => decide (b ≤ a)
theorem sortIR_of {ms ns : List Int} (p : ms.Perm ns) (h : ms.Pairwise (· ≥ ·)) : ms = sortIR ns := by
  refine one_order (p.trans (List.mergeSort_perm ns _).symm) h ?_ fun a _ b _ h1 h2 => Int.le_antisymm h2 h1
  have z := List.pairwise_mergeSort (le := fun a b : Int => decide (b ≤ a)) (fun a b c h1 h2 => by simp at h1 h2 ⊢; omega) (fun a b => by simp; omega) ns
  exact z.imp fun {a b} h => of_decide_eq_true h
theorem lt_is {a b : List Nat} (h : ¬ a < b) : ltCps a b = false := by
  induction a generalizing b with
  | nil =>
    cases b with
    | nil => rfl
    | cons y b => exact absurd (List.nil_lt_cons y b) h
  | cons x a ih =>
    cases b with
    | nil => rfl
    | cons y b =>
      unfold ltCps
      have h1 : ¬ x < y := fun z => h (List.Lex.rel z)
      rw [decide_eq_false h1, Bool.false_or]
      by_cases e : x = y
      · subst e
        have h2 : ¬ a < b := fun z => h (List.Lex.cons z)
        rw [ih h2, Bool.and_false]
      · have q : (x == y) = false := by simpa using e
        rw [q, Bool.false_and]
def rSortSR (K : PySem.W.Frag) : List V → List V → Hp → VK → Prop := fun vs zs H Q => ∃ (a : Addr) (xs : List Str), vs = [V.ref a] ∧ zs = [.bl true] ∧ SqL K H a (xs.map V.str) ∧ ∀ p, H p = none → Q (.ref p) (upd H p (.lst ((sortSR xs).map V.str)))
theorem cr_sortSR {X : Cx} : CallRK X (.builtin "sorted") [Str.ofString "reverse"] (rSortSR X.K) := by
  intro pins s σ H vs zs us ws Q I r rz h
  obtain ⟨a, xs, rfl, rfl, hs, q⟩ := h
  obtain rfl := Vals.ref1 r
  obtain ⟨w1, rfl, e1⟩ := vals1 rz
  obtain rfl : w1 = Value.bool true := e1
  obtain ⟨its, rv, hl, hz⟩ := I.list hs
  have hS := rv.strs
  refine SrtR.sorted_ordK (b := true) (fun _ => rfl) (PyProof.Rows.args_sorted_rev _ _) (fun _ => PyProof.Rows.args_list_sort_rev _ _) SLr.swo_str hl.isList (by rw [← rv.length]; exact hz) (fun h2 h₁ a' _ _ => SLr.strs_sortable hS h2) fun out h1 h2 => ?_
  obtain ⟨ep, he'⟩ := PyProof.Rows.sortedAll_at s.heap its out.toArray.reverse
  have hall : ∀ v ∈ out, ∃ x t, v = Value.str x t := fun v hv => hS.all v (List.mem_reverse.mp (h2.perm.mem_iff.mp hv))
  have out1 : StrsAre out (out.map strOf) := strsAre_map out hall
  have pm : ((out.map strOf).reverse).Perm xs := by
    refine (List.reverse_perm _).trans ?_
    have z := h2.perm.map strOf
    rw [if_pos rfl] at z
    refine z.trans ((List.reverse_perm its).map strOf |>.trans ?_)
    rw [hS.strs]
  have so : ∀ v ∈ out, SLr.sv v = strOf v := fun v hv => by
    obtain ⟨x, t, e⟩ := hall v hv
    subst e; rfl
  have pw : ((out.map strOf).reverse).Pairwise fun a b => downS a b = true := by
    rw [List.pairwise_reverse, List.pairwise_map]
    refine List.Pairwise.imp_of_mem (fun {x y} hx hy h => ?_) h1
    show (!ltCps (strOf y).cps.toList (strOf x).cps.toList) = true
    have h := of_decide_eq_false (p := (SLr.sv y).cps.toList < (SLr.sv x).cps.toList) h
    rw [so x hx, so y hy] at h
    rw [lt_is h]; rfl
  have e0 : (out.map strOf).reverse = sortSR xs := by
    refine one_order (pm.trans (List.mergeSort_perm xs _).symm) pw ?_ fun a _ b _ h1 h2 => leS_anti h2 h1
    exact List.pairwise_mergeSort (le := downS) (fun a b c h1 h2 => leS_trans c b a h2 h1) (fun a b => by unfold downS; rw [Bool.or_comm]; exact leS_total a b) xs
  have hlen : ((sortSR xs).map V.str).length ≤ sizeLine := by
    rw [List.length_map, ← e0, pm.length_eq]
    rw [List.length_map] at hz
    exact hz
  have k1 : StrsAre (out.toArray.reverse).toList (sortSR xs) := by
    rw [← e0, Array.toList_reverse]
    have : out.reverse.map strOf = (out.map strOf).reverse := by rw [List.map_reverse]
    rw [← this]
    exact strsAre_map out.reverse fun v hv => hall v (List.mem_reverse.mp hv)
  have e1 : (out.toArray.reverse).toList.toArray = out.toArray.reverse := by rw [Array.toArray_toList]
  exact ⟨.ref _, upd H (s.heap.objs.size + 1) (.lst ((sortSR xs).map V.str)), I.laid (t' := s.toks) (fun _ _ => PyProof.Rows.sortedAll_old) (Nat.le_succ _) ⟨hlen, _, ep, vals_of_strs k1, by rw [e1]; exact he'⟩, rfl, q _ (I.hok.fresh (Nat.le_succ _))⟩
def oSortR : OpN := fun ws st => match ws with
  | [x] => match lstW st x with
    | some us => match strsW us with
      | some xs => .ok (.lst ((sortSR xs).map .str)) st
      | none => match intsW us with
        | some ns => .ok (.lst ((sortIR ns).map .int)) st
        | none => .bad
    | none => .bad
  | _ => .bad
section
variable {X : Cx} {Wx : Wish}
theorem cr_sortR : CallRK X (.builtin "sorted") [Str.ofString "reverse"] (fun vs zs H Q => rSortSR X.K vs zs H Q ∨ rSortedKw X.K true [.bl true] vs zs H Q) := by
  intro pins s σ H vs zs us ws Q I r rz h
  rcases h with h | h
  · exact cr_sortSR pins s σ H vs zs us ws Q I r rz h
  · exact cr_sortedRev pins s σ H vs zs us ws Q I r rz h
theorem ev_sortR {p pos kp p2 : Pos} {j : Nat} {e : Expr} {f : SemL} (hm : X.mg "sorted" = none) (ha : AV X Wx [e] f) (hg : Gl X "sorted" := by rfl)
    (he : backTo pos (starEach [e] X.env) = (false, eval e X.env) :: backTo pos (starEach [] X.env) := by rfl) (hpl : (backTo pos (starEach [e] X.env)).any (·.1) = false := by rfl) :
    EV X Wx (.Call (.Name "sorted" p) [e] [⟨some "reverse", .Constant (.bool true) j p2, kp⟩] pos) (eN oSortR f) := by
  refine PEm (pe_callBK cr_sortR hg hm (by decide +kernel) ha (pk_cons pe_bl pk_nil) (he := he) (hpl := hpl)) fun σ H Q ⟨μ, st, hid, fr, S, P⟩ => ?_
  refine ⟨μ, st, hid, fr, S, ?_⟩
  unfold eN at P
  cases h : f fr st with
  | bad => rw [h] at P; exact P
  | err x s => rw [h] at P; exact P
  | ok ws st1 =>
    rw [h, Out.bind_ok] at P
    intro μ1 H1 vs k1 g1 r1
    have P1 := EPost.from g1 P
    show (rSortSR X.K vs [.bl true] H1 Q ∨ rSortedKw X.K true [.bl true] vs [.bl true] H1 Q)
    unfold oSortR at P1
    split at P1
    · rename_i x
      obtain ⟨v, rfl, r2⟩ := reps1 (ws := []) r1
      split at P1
      · rename_i us e1
        obtain ⟨a, zs, rfl, h1, h2⟩ := lstW_at k1 e1 r2
        split at P1
        · rename_i xs e2
          have e3 := strsW_at e2 h2
          subst e3
          exact .inl ⟨a, xs, rfl, rfl, h1, fun p hp => ok_new P1 k1 hp fun F l e => rep_lst e (reps_strs _)⟩
        · split at P1
          · rename_i ns e2
            rw [intsW_eq e2] at h2
            rw [reps_ints h2] at h1
            refine .inr ⟨a, ns, rfl, rfl, h1, fun ms p pm sr hp => ?_⟩
            rw [sortIR_of pm sr]
            exact ok_new P1 k1 hp fun F l e => rep_lst e (ro_reps _)
          · exact P1.elim
      · exact P1.elim
    · exact P1.elim
end
/-! ## raise X(), X without own __init__ -/
structure Exc0 (K : PySem.W.Frag) (mg : Str → Option Value) (c : Str) : Prop where
  ex : ∃ C, mg c = some (.ref C) ∧ PySem.W.excIn K C [.type "ValueError", .type "Exception", .type "BaseException", .type "object"] "ValueError.__new__" = true ∧ PySem.W.keepIn K (.ref C) = true ∧ PySem.W.subIn K (.ref C) (.type "BaseException") = some true ∧ PySem.W.typeIn K (.ref C) = some (.type "type")
def sRaise0 (c : Str) : SSem := fun fr st => .er ⟨c, [], []⟩ fr st
section
variable {X : Cx} {Wx : Wish}
theorem pmk0 {C : Addr} {bmB : List Value} {B newId initId : String} {x : Str} {p pos : Pos} (F : ExcBaseFacts B newId initId bmB) (q : PySem.W.excIn X.K C bmB newId = true) (gC : X.mg x = some (.ref C))
    (kC : PySem.W.keepIn X.K (.ref C) = true) (r : Raises X (.ref C)) (hg : Gl X x) (hdb : (x == ("__debug__" : Str)) = false) :
    PMk X (.Call (.Name x p) [] [] pos) (fun σ H Q => Q (.ref C) none H) := by
  intro pins s σ H Q I h
  refine wpAny_Call_Name_kw (ld_glob I hg gC ?_ hdb)
  refine PySem.W.callWith_K0 I.kIn kC ?_
  obtain ⟨bm, N, nm, qn, bs, hdct, sn, sub, ab, col, dd, k0, k1, k2, k3, k5, mN, hC, hN, hni, T⟩ := exc_obj I.kIn q
  refine wpAny_call_exc_subT F T hC hN hni (fun h' e hm => ?_) (by decide)
  exact mk_of I hm r h (I.hok.gone hm.new)
theorem sv_raise0 {k : Nat} {c : Str} {p p2 pos : Pos} (C : Ctx X Wx k) (E : Exc0 X.K X.mg c) (hg : Gl X c := by rfl) (hdb : (c == ("__debug__" : Str)) = false := by decide) : SV X Wx (.Raise (some (.Call (.Name c p) [] [] p2)) none pos) (sRaise0 c) := by
  obtain ⟨A, h1, h2, h3, h4, h5⟩ := E.ex
  refine PSm (ps_raise C.calm C.tk (pmk0 F.excBase_ValueError h2 h1 h3 (raises_own h4 h5) hg hdb)) fun D σ H ⟨μ, st, hid, fr, S, P⟩ => ?_
  unfold sRaise0 at P
  exact P μ σ H (.ref A) none S .refl ⟨A, h1, rfl, .inl rfl⟩
end
end SL

/-! # pairs of two sequences; name += e -/
namespace SL
open PySem PySem.Spec PyProof.Rows L2
def zipP (us ws : List W) : List W := List.zipWith (fun u w => W.tup [u, w]) us ws
def tupF : W → Option (List W)
  | .tup us | .tpn us => some us
  | _ => none
def iZip (f : SemL) : SemI := fun fr st => (f fr st).bind fun vs st1 => match vs with
  | [x, y] => (match tupF x, tupF y with
    | some us, some ws => if us.length ≤ LINE then .ok (.non, zipP us ws) st1 else .bad
    | _, _ => .bad)
  | _ => .bad
theorem tup_now {K : PySem.W.Frag} {mg : Str → Option Value} {F : Hp} {μ0 : List Addr} {x : W} {ws : List W} {v : V} (h : tupF x = some ws) (r : Rep K mg F μ0 x v) :
    ∃ a vs, v = .ref a ∧ vs.length = ws.length ∧ ∀ hid μ st H, StOk K mg μ st hid H → Le F (Fz μ st hid H) → Pre μ0 μ → SqT K H a vs ∧ Reps K mg (Fz μ st hid H) μ ws vs := by
  cases x with
  | tup us =>
    cases h
    obtain ⟨a, vs, rfl, h1, h2⟩ := rep_tup_inv r
    exact ⟨a, vs, rfl, h2.length.symm, fun hid μ st H k l p => ⟨(h1.le l).fz, h2.mono l p⟩⟩
  | tpn us =>
    cases h
    obtain ⟨a, vs, rfl, h1, h2⟩ := rep_tpn_inv r
    exact ⟨a, vs, rfl, h2.length.symm, fun hid μ st H k l p => ⟨(h1.le l).fz, h2.mono l p⟩⟩
  | _ => cases h
theorem zipP_get {us ws : List W} {i : Nat} {u w : W} (h : us[i]? = some u) (h2 : ws[i]? = some w) : (zipP us ws)[i]? = some (.tup [u, w]) := by
  unfold zipP
  rw [List.getElem?_zipWith, h, h2]
theorem zipP_len {us ws : List W} : (zipP us ws).length = min us.length ws.length := by unfold zipP; simp
/-- name += e, of ints -/
def sAug (n : Nat) (f : Sem) : SSem := fun fr st => match fr[n]? with
  | some (some (.int a)) => (f fr st).stm fr fun w st1 => match w with
    | .int b => .nx (fr.set n (some (.int (a + b)))) st1
    | _ => .bad
  | _ => .bad
theorem sv_aug {X : Cx} {Wx : Wish} {i : Nat} {x : Str} {e : Expr} {f : Sem} {pos pos' : Pos} (hN : X.N.Nodup) (he : EV X Wx e f) (hi : X.N[i]? = some x := by rfl) (hx : Loc X.env.scope x := by first | exact Or.inl rfl | exact Or.inr rfl)
    (hf : X.fn x = true ∨ X.env.scope.names.lookup x = some .local := by first | exact .inl rfl | exact .inr rfl) (hk : i ∉ Wx.lock := by first | exact List.not_mem_nil | decide) : SV X Wx (.AugAssign (.Name x pos') .Add e pos) (sAug i f) :=
  PSm (ps_aug hN hi hx he ip_add hf) fun D σ H ⟨μ, st, hid, fr, S, P⟩ => by
    unfold sAug at P
    split at P
    · rename_i a ea
      obtain ⟨v, e1, r⟩ := S.loc i _ ea
      cases rep_int_inv r
      refine ⟨_, e1, stm_read (t := id) S P fun w st1 μ1 H1 v S1 g1 r1 P1 => ?_⟩
      split at P1
      · rename_i b
        cases rep_int_inv r1
        exact ⟨_, _, rfl, rfl, P1 μ1 _ H1 (S1.set i hk rep_int) .refl⟩
      · exact P1.elim
    · exact P.elim
end SL

/-! # list(range(..)) as a value -/
namespace SL
open PySem PySem.Spec PyProof.Rows L2
/-- the whole numbers a .. b - 1 -/
def rgI (a b : Int) : List Int := (List.range (b - a).toNat).map fun (i : Nat) => a + (i : Int)
theorem rgI_len {a b : Int} : (rgI a b).length = (b - a).toNat := by unfold rgI; rw [List.length_map, List.length_range]
theorem rgV_rgI {a b : Int} : rgV a b = (rgI a b).map V.int := by unfold rgV rgI; rw [List.map_map]; rfl
noncomputable def rgOk (a b : Int) : Bool := dec (RgOk a b)
noncomputable def eLstRg1 (f : Sem) : Sem := fun fr st => (f fr st).bind fun w st1 => match w with
  | .int b => if rgOk 0 b = true then .ok (.lst ((rgI 0 b).map W.int)) st1 else .bad
  | _ => .bad
noncomputable def eLstRg2 (f g : Sem) : Sem := fun fr st => (f fr st).bind fun w st1 => (g fr st1).bind fun u st2 => match w, u with
  | .int a, .int b => if rgOk a b = true then .ok (.lst ((rgI a b).map W.int)) st2 else .bad
  | _, _ => .bad
section
variable {X : Cx} {Wx : Wish}
theorem ev_lstRg1 {a : Expr} {f : Sem} {p pos p2 pos2 : Pos} (hc : X.calm = true) (hm : X.mg "list" = none) (hmr : X.mg "range" = none) (ha : EV X Wx a f) (hg : Gl X "list" := by rfl) (hgr : Gl X "range" := by rfl) (na : starEach [a] X.env = (false, eval a X.env) :: starEach [] X.env := by rfl)
    (ne : starEach [.Call (.Name "range" p2) [a] [] pos2] X.env = (false, eval (.Call (.Name "range" p2) [a] [] pos2) X.env) :: starEach [] X.env := by rfl) : EV X Wx (.Call (.Name "list" p) [.Call (.Name "range" p2) [a] [] pos2] [] pos) (eLstRg1 f) :=
  PEm (pe_listRg hc hg hm (prg_1 hgr hmr ha na) ne) fun σ H Q ⟨μ, st, hid, fr, S, P⟩ => by
    unfold tLstRg tRg1
    refine ⟨μ, st, hid, fr, S, ?_⟩
    unfold eLstRg1 at P
    cases h : f fr st with
    | bad => rw [h] at P; exact P
    | err x s => rw [h] at P; exact P
    | ok w st1 =>
      rw [h, Out.bind_ok] at P
      intro μ1 H1 v k1 g1 r1
      cases w with
      | int b =>
        have P1 := EPost.from g1 P
        simp only at P1
        split at P1
        · rename_i hb
          refine ⟨b, rep_int_inv r1, dec_of hb, fun q hq => ?_⟩
          refine ok_new P1 k1 hq fun F l e => rep_lst e ?_
          rw [rgV_rgI]; exact ro_reps _
        · exact P1.elim
      | _ => exact P.elim
theorem ev_lstRg2 {a b : Expr} {f g : Sem} {p pos p2 pos2 : Pos} (hc : X.calm = true) (hm : X.mg "list" = none) (hmr : X.mg "range" = none) (ha : EV X Wx a f) (hb : EV X Wx b g) (hg : Gl X "list" := by rfl) (hgr : Gl X "range" := by rfl) (na : starEach [a, b] X.env = (false, eval a X.env) :: starEach [b] X.env := by rfl)
    (nb : starEach [b] X.env = (false, eval b X.env) :: starEach [] X.env := by rfl) (hp : (backTo pos2 (starEach [b] X.env)).any (·.1) = false := by rfl)
    (ne : starEach [.Call (.Name "range" p2) [a, b] [] pos2] X.env = (false, eval (.Call (.Name "range" p2) [a, b] [] pos2) X.env) :: starEach [] X.env := by rfl) : EV X Wx (.Call (.Name "list" p) [.Call (.Name "range" p2) [a, b] [] pos2] [] pos) (eLstRg2 f g) :=
  PEm (pe_listRg hc hg hm (prg_2 hgr hmr ha hb na nb hp) ne) fun σ H Q ⟨μ, st, hid, fr, S, P⟩ => by
    unfold tLstRg tRg2
    refine ⟨μ, st, hid, fr, S, ?_⟩
    unfold eLstRg2 at P
    cases h : f fr st with
    | bad => rw [h] at P; exact P
    | err x s => rw [h] at P; exact P
    | ok w st1 =>
      rw [h, Out.bind_ok] at P
      intro μ1 H1 v k1 g1 r1
      have P1 := EPost.from g1 P
      refine ⟨μ1, st1, hid, fr, S.next k1 g1, ?_⟩
      cases h2 : g fr st1 with
      | bad => rw [h2] at P1; exact P1
      | err x s => rw [h2] at P1; exact P1
      | ok u st2 =>
        rw [h2, Out.bind_ok] at P1
        intro μ2 H2 v2 k2 g2 r2
        have P2 := EPost.from g2 P1
        cases w with
        | int a =>
          cases u with
          | int b =>
            simp only at P2
            split at P2
            · rename_i hb
              refine ⟨a, b, rep_int_inv r1, rep_int_inv r2, dec_of hb, fun q hq => ?_⟩
              refine ok_new P2 k2 hq fun F l e => rep_lst e ?_
              rw [rgV_rgI]; exact ro_reps _
            · exact P2.elim
          | _ => exact P2.elim
        | _ => exact P2.elim
end
end SL

/-! # list.remove, text * int, tuples (int, text) compared -/
namespace SL
open PySem PySem.Spec PyProof.Rows L2
section
variable {X : Cx} {Wx : Wish}
def mRemove : OpM := fun x ws st => match x, ws with
  | .cell k, [.int v] => match st[k]? with
    | some (.lst us) => match intsW us with
      | some ns => match ns.findIdx? (fun z => decide (z = v)) with
        | some j => .ok .non (st.set k (.lst ((ns.eraseIdx j).map W.int)))
        | none => .bad
      | none => .bad
    | _ => .bad
  | _, _ => .bad
theorem os_remove : OpMS X mRemove rRemI := by
  intro Wx hid μ st σ H Q w ws x vs k rx rs P
  unfold mRemove at P
  split at P
  · rename_i n v
    obtain ⟨y, rfl, r1⟩ := reps1 (ws := []) rs
    cases rep_int_inv r1
    split at P
    · rename_i us e1
      split at P
      · rename_i ns en
        split at P
        · rename_i j ej
          obtain ⟨a, rfl, h3, xs, h4, h5⟩ := k.cell e1 rx
          rw [intsW_eq en] at h5
          rw [reps_ints h5] at h4
          rw [List.findIdx?_eq_some_iff_getElem] at ej
          obtain ⟨hj, e2', e3⟩ := ej
          have e2' := of_decide_eq_true e2'
          refine ⟨a, ns, v, j, rfl, rfl, h4, by rw [List.getElem?_eq_getElem hj, e2'], fun m hm => ?_, ?_⟩
          · have := e3 m hm
            have hml : m < ns.length := by omega
            rw [List.getElem?_eq_getElem hml]
            intro z
            cases z
            simp at this
          · obtain ⟨k2, g2⟩ := k.setCell (c' := .lst ((ns.eraseIdx j).map W.int)) (o := .lst ((ns.eraseIdx j).map V.int)) h3 e1 rfl rfl ⟨_, upd_same, ro_reps _⟩
            exact P μ _ _ k2 g2 rep_non
        · exact P.elim
      · exact P.elim
    · exact P.elim
  · exact P.elim
/-! ## text * int -/
def rMulS : R2 := fun x y H Q => ∃ z n, x = .str z ∧ y = .int n ∧ MulOk z n ∧ Q (.str (Txt.mul z n)) H
theorem op_mulS : OpR X (binaryOp .Mult) rMulS := by
  intro pins s σ H x y v u Q I rx ry h
  obtain ⟨z, n, rfl, rfl, ok, q⟩ := h
  obtain ⟨t, rfl⟩ := rx
  obtain ⟨t', rfl⟩ := ry
  exact SB.mul ok fun t2 k => ⟨.str (Txt.mul z n), H, I.tok _, ⟨_, rfl⟩, q⟩
noncomputable def oMulS : Op2 := fun x y st => match x, y with
  | .str z, .int n => if dec (z.length = 1 ∧ 0 ≤ n ∧ n ≤ 1000) = true then .ok (.str (Txt.mul z n)) st else .bad
  | _, _ => .bad
theorem mulOk_one {z : Str} {n : Int} (h : z.length = 1 ∧ 0 ≤ n ∧ n ≤ 1000) : MulOk z n := by
  obtain ⟨h1, h2, h3⟩ := h
  refine ⟨?_, fun h4 _ => ?_, fun _ _ => ?_⟩
  · rw [decide_eq_false (by omega), decide_eq_false (by omega)]; rfl
  · rw [h1]
    have : (1 : Int) ≤ (2 ^ 63 - 1) / n := (Int.le_ediv_iff_mul_le (by omega)).mpr (by omega)
    show ¬ ((1 : Nat) : Int) > _
    omega
  · rw [h1]
    have hl := line63
    exact decide_eq_false (by
      have : (16777216 : Nat) ≤ sizeLine := by rw [sizeLine_eq]; omega
      omega)
theorem os_mulS : Op2S X oMulS rMulS := by
  intro Wx hid μ st σ H Q w u x y k rx ry P
  unfold oMulS at P
  split at P
  · cases rep_str_inv rx; cases rep_int_inv ry
    split at P
    · rename_i hz
      exact ⟨_, _, rfl, rfl, mulOk_one (dec_of hz), P μ H _ k .refl rep_str⟩
    · exact P.elim
  · exact P.elim
/-! ## (int, text) > (int, text) -/
def rGtIS (K : PySem.W.Frag) : R2 := fun x y H Q => ∃ a b i j z w, x = .ref a ∧ y = .ref b ∧ SqT K H a [V.int i, V.str z] ∧ SqT K H b [V.int j, V.str w] ∧ Q (.bl (if i = j then decide (w.cps.toList < z.cps.toList) else decide (j < i))) H
theorem op_gtIS (hu : X.A.units < cLine) : OpR X (compareOp .Gt) (rGtIS X.K) := by
  intro pins s σ H x y v u Q I rx ry h
  obtain ⟨a, b, i, j, z, w, rfl, rfl, ha, hb, q⟩ := h
  cases rx
  cases ry
  obtain ⟨its, r1, p1, _⟩ := I.tuple ha
  obtain ⟨its2, r2, p2, _⟩ := I.tuple hb
  cases r1 with
  | cons x1 r1 =>
  cases r1 with
  | cons x2 r1 =>
  cases r1
  cases r2 with
  | cons y1 r2 =>
  cases r2 with
  | cons y2 r2 =>
  cases r2
  obtain ⟨t1, rfl⟩ := x1
  obtain ⟨t2, rfl⟩ := x2
  obtain ⟨t3, rfl⟩ := y1
  obtain ⟨t4, rfl⟩ := y2
  have R := Ob.RcOp.tuples_gt (A := X.A) (s := s) (e := fun k => if k = 0 then decide (i = j) else (z == w)) (r := fun k => if k = 0 then decide (j < i) else decide (w.cps.toList < z.cps.toList)) p1 p2 hu (fun k h1 h2 => by
    have hk : k < 2 := h1
    match k, hk with
    | 0, _ =>
      have e : (i == j) = decide (i = j) := by
        by_cases q : i = j
        · rw [decide_eq_true q]; exact beq_iff_eq.mpr q
        · rw [decide_eq_false q]; exact beq_eq_false_iff_ne.mpr q
      show SeqAt.EqAt X.A.in1 s (.int i t1) (.int j t3) (decide (i = j))
      rw [← e]
      exact SeqAt.EqAt.int_int _ _ _ _
    | 1, _ => exact SeqAt.EqAt.str_str _ _ _ _) (fun k h1 h2 _ => by
    have hk : k < 2 := h1
    match k, hk with
    | 0, _ => exact Ob.RcOp.gt_int _ _ _ _
    | 1, _ => exact fun _ _ _ _ h => PySem.P.gt_str h)
  have e : Ob.lexAt (fun k => if k = 0 then decide (i = j) else (z == w)) (fun k => if k = 0 then decide (j < i) else decide (w.cps.toList < z.cps.toList)) (decide (([Value.int i t1, Value.str z t2].toArray).size > ([Value.int j t3, Value.str w t4].toArray).size)) 0 (min ([Value.int i t1, Value.str z t2].toArray).size ([Value.int j t3, Value.str w t4].toArray).size) = (if i = j then decide (w.cps.toList < z.cps.toList) else decide (j < i)) := by
    show (if decide (i = j) = true then (if (z == w) = true then decide (2 > 2) else decide (w.cps.toList < z.cps.toList)) else decide (j < i)) = _
    by_cases q : i = j
    · rw [if_pos (decide_eq_true q), if_pos q]
      by_cases q2 : z = w
      · subst q2
        rw [if_pos (by simp)]
        rw [decide_eq_false (by omega : ¬ (2 > 2)), decide_eq_false (List.lt_irrefl _)]
      · rw [if_neg (by simpa using q2)]
    · rw [if_neg (by rw [decide_eq_false q]; decide), if_neg q]
  rw [e] at R
  have z : wpAny (model X.prog X.w) X.A (compareOp .Gt (.ref a) (.ref b)) (EP X pins σ Q) X.xe s := R X.prog X.w X.xe (EP X pins σ Q) ⟨.bl _, H, I, rfl, q⟩
  exact z
def oGtT : Op2 := fun x y st => match x, y with
  | .tup [.int i, .str z], .tup [.int j, .str w] => .ok (.bl (if i = j then decide (w.cps.toList < z.cps.toList) else decide (j < i))) st
  | _, _ => .bad
theorem os_gtT : Op2S X oGtT (rGtIS X.K) := by
  intro Wx hid μ st σ H Q w u x y k rx ry P
  unfold oGtT at P
  split at P
  · rename_i i z j w
    obtain ⟨a, as, rfl, ta, ra⟩ := rep_tup_inv rx
    obtain ⟨b, bs, rfl, tb, rb⟩ := rep_tup_inv ry
    obtain ⟨a1, a2, rfl, r1, r2⟩ := reps2 ra
    obtain ⟨b1, b2, rfl, r3, r4⟩ := reps2 rb
    cases rep_int_inv r1; cases rep_str_inv r2; cases rep_int_inv r3; cases rep_str_inv r4
    refine ⟨a, b, i, j, z, w, rfl, rfl, ?_, ?_, P μ H _ k .refl rep_bl⟩
    · exact ta.fz
    · exact tb.fz
  · exact P.elim
end
end SL

/-! # dicts with text keys: sorted(d), dict(d), list(d), list(d.values()), items -/
namespace SLd
open PySem PySem.Spec PyProof.Rows L2
section
variable {X : Cx} {e : Expr} {te : TE} {p apos cpos pos : Pos}
def tListVals (te : TE) : TE := fun σ H Q => te σ H fun x H1 => ∃ (d : Addr) (kvs : List (Key × V)), x = .ref d ∧ Rd H1 d (.dK kvs) ∧ ∀ p, H1 p = none → Q (.ref p) (upd H1 p (.lst (kvs.map (·.2))))
theorem pe_listVals (hc : X.calm = true) (he : PE X e te) (hg : Gl X "list") (hm : X.mg "list" = none) (hv : bootBuiltins "list" = some (.type "list")) (hbase : attributeBase e "values" X.env (eval e X.env) = eval e X.env := by rfl) (hline : (apos.endLine == cpos.line) = true := by rfl)
    (hs : starEach [.Call (.Attribute e "values" apos) [] [] cpos] X.env = (false, eval (.Call (.Attribute e "values" apos) [] [] cpos) X.env) :: starEach [] X.env := by rfl) :
    PE X (.Call (.Name "list" p) [.Call (.Attribute e "values" apos) [] [] cpos] [] pos) (tListVals te) := by
  refine ⟨fun pins s σ H Q I hq => ?_⟩
  refine wpAny_Call_Name_kw (ld_blt I hg hm hv ?_)
  refine PyProof.Rows.callWith_type1 ?_ hs rfl
  rw [hs]
  show wpAny _ _ (spliced ((false, eval (.Call (.Attribute e "values" apos) [] [] cpos) X.env) :: backTo pos (starEach [] X.env))) _ _ s
  refine Calls.spliced_cons ?_
  refine wpAny_Call_method (T := "dict") (id := "dict.values") hbase rfl hline F.plainAttrs_dict F.slot_dict_values F.type_dict_values (thn (he.run pins s σ H _ I hq) fun u s1 ⟨x, H1, I1, rx, d, kvs, ex, hd, q⟩ => ?_)
  subst ex
  obtain rfl : u = Value.ref d := rx
  obtain ⟨hz, hs0, vs, kv, hdo⟩ := hd.ok I1.hok
  obtain ⟨ep, hat⟩ := hdo.dictAt
  have lk : kvs.length = vs.length := Paired.length kv
  have I2 : Inv X pins σ H1 { s1 with heap := s1.heap.push { cls := .type "dict_values", data := .fields #[.ref d] } } := I1.kept (t' := s1.toks) fun b ob q => Heap.get?_push_of_some _ q
  refine ⟨hdo.typeIs, hdo.mapOf.noDict, ?_⟩
  show wpAny _ _ (callWith cpos (.builtin "dict.values") [.ref d] [] []) _ X.xe s1
  refine method_meetsIn F.slot_dict_values F.entry_dict_values rfl (PySem.evalArgs_none ⟨rfl, hdo.typeIs, F.args_dict_values_1 _, _, meets_dict_values (mixKind X.prog X.w) d hs0, ⟨vs, hdo⟩, ?_⟩)
  refine Calls.spliced_nil ?_
  refine PySem.W.kdl_call (PySem.W.kdl_values (knd := mixKind X.prog X.w) (r := s1.heap.objs.size) (d := d) (kvs := vs) (ep := ep)) (I1.ok.hd hc) ⟨⟨_, Heap.get?_push_size _ rfl, rfl, rfl⟩, hat.push _⟩ (by omega) fun h' tk acc' c' hkeep hS hacc => ?_
  refine ⟨.ref _, upd H1 _ (.lst (kvs.map (·.2))), I2.laid hkeep (Nat.le_refl _) (show ObjOk X.prog X.w _ _ _ (.lst (kvs.map (·.2))) from ⟨?_, acc'.toList, c', ?_, ?_⟩), rfl, q _ (I2.hok.fresh (Nat.le_refl _))⟩
  · rw [List.length_map]; exact hz
  · have el : acc'.toList.length = acc'.size := by simp
    refine vals_of_at (by rw [List.length_map, el, hacc.1, lk]) fun j x w h1 h2 => ?_
    obtain ⟨k, hky⟩ := hacc.2 j w (by rw [← Array.getElem?_toList]; exact h2)
    rw [List.getElem?_map] at h1
    obtain ⟨kvj, h3, rfl⟩ := Option.map_eq_some_iff.mp h1
    obtain ⟨u, hu, ru⟩ := kv_get kv h3
    rw [hky] at hu
    cases hu
    exact ru
  · rw [Array.toArray_toList]; exact hS
def rListR : List V → Hp → VK → Prop := fun xs H Q => ∃ p kvs, xs = [.ref p] ∧ Rd H p (.dK kvs) ∧ ∀ q, H q = none → Q (.ref q) (upd H q (.lst (kvs.map fun kv => kV kv.1)))
theorem call_list_dR (hc : X.calm = true) : CallR X (.type "list") rListR := by
  intro pins s σ H xs us Q I r h
  obtain ⟨p, kvs, e, hk, q⟩ := h
  subst e
  obtain ⟨u, eu, rx⟩ := vals1 r
  subst eu
  obtain rfl : u = Value.ref p := rx
  obtain ⟨z, lo, vs, rk, hd⟩ := hk.ok I.hok
  obtain ⟨ep, hat⟩ := hd.dictAt
  have hl : kvs.length = vs.length := Paired.length rk
  refine PySem.W.kdl_call (PySem.W.kdl_dict (knd := mixKind X.prog X.w) (kvs := vs) (ep := ep) lo) (I.ok.hd hc) hat (by rw [← hl]; exact z) fun h' tk acc' c' hkeep hS hacc => ?_
  refine ⟨.ref s.heap.objs.size, upd H s.heap.objs.size (.lst (kvs.map fun kv => kV kv.1)), I.laid hkeep (Nat.le_refl _) (show ObjOk X.prog X.w _ _ _ (.lst (kvs.map fun kv => kV kv.1)) from ⟨?_, acc'.toList, c', ?_, ?_⟩), rfl, q _ (I.hok.fresh (Nat.le_refl _))⟩
  · rw [List.length_map]; exact z
  · have el : acc'.toList.length = acc'.size := by simp
    refine vals_of_at (by rw [List.length_map, el, hacc.1, hl]) fun j x w h1 h2 => ?_
    obtain ⟨k, y, hky, hi⟩ := hacc.2 j w (by rw [← Array.getElem?_toList]; exact h2)
    rw [List.getElem?_map] at h1
    obtain ⟨kvj, h3, rfl⟩ := Option.map_eq_some_iff.mp h1
    obtain ⟨u, hu, ru⟩ := kv_get rk h3
    rw [hky] at hu
    cases hu
    exact keyIs_rel hi
  · rw [Array.toArray_toList]; exact hS
end
end SLd
namespace SL
open PySem PySem.Spec PyProof.Rows L2
/-- a dict's keys as they stand -/
def dctKs (st : Sto) (x : W) : Option (List W × List W) := match x with
  | .cell k => match st[k]? with
    | some (.dct ks ws) => some (ks, ws)
    | _ => none
  | .dct ks ws => some (ks, ws)
  | _ => none
/-- all keys are texts -/
def txtKs : List Key → Option (List Str)
  | [] => some []
  | .inr x :: r => (txtKs r).map (x :: ·)
  | _ => none
theorem txtKs_eq : ∀ {kk : List Key} {xs : List Str}, txtKs kk = some xs → kk = xs.map Sum.inr
  | [], xs, h => by unfold txtKs at h; cases h; rfl
  | .inr x :: r, xs, h => by
    unfold txtKs at h
    cases e : txtKs r with
    | none => rw [e] at h; cases h
    | some ys => rw [e] at h; cases h; rw [List.map_cons, ← txtKs_eq e]
  | .inl _ :: _, _, h => by unfold txtKs at h; cases h
noncomputable def oSortD : OpN := fun ws st => match ws with
  | [x] => match dctW st x with
    | some (kk, _) => match txtKs kk with
      | some xs => if xs.length < 64 then .ok (.lst ((sortS xs).map .str)) st else .bad
      | none => .bad
    | none => .bad
  | _ => .bad
def oDictC : OpN := fun ws st => match ws with
  | [x] => match dctKs st x with
    | some (ks, us) => match mapO keyW ks with
      | some _ => .ok (.cell st.length) (st ++ [.dct ks us])
      | none => .bad
    | none => .bad
  | _ => .bad
def oListD : OpN := fun ws st => match ws with
  | [x] => match dctKs st x with
    | some (ks, _) => match mapO keyW ks with
      | some _ => .ok (.lst ks) st
      | none => .bad
    | none => .bad
  | _ => .bad
def eListV (f : Sem) : Sem := fun fr st => (f fr st).bind fun x st1 => match dctKs st1 x with
  | some (ks, us) => match mapO keyW ks with
    | some _ => .ok (.lst us) st1
    | none => .bad
  | none => .bad
section
variable {X : Cx} {Wx : Wish}
theorem dctKs_at {K : PySem.W.Frag} {mg : Str → Option Value} {hid μ : List Addr} {st : Sto} {H : Hp} {x : W} {v : V} {kk : List Key} {ks ws : List W} (k : StOk K mg μ st hid H) (h : dctKs st x = some (ks, ws)) (hk : mapO keyW ks = some kk) (r : Rep K mg (Fz μ st hid H) μ x v) :
    ∃ a vs, v = .ref a ∧ kk.length = vs.length ∧ Rd H a (.dK (kk.zip vs)) ∧ Reps K mg (Fz μ st hid H) μ ws vs := by
  refine dctW_at k (kk := kk) (ws := ws) ?_ r
  cases x with
  | cell n =>
    unfold dctKs at h
    unfold dctW
    simp only at h ⊢
    split at h
    · rename_i k1 w1 e
      cases h
      simp only [e, kind_plain hk]
    · cases h
  | dct k1 w1 =>
    unfold dctKs at h
    cases h
    unfold dctW
    simp only [kind_plain hk]
  | _ => cases h
theorem zip_snd {α β : Type} : ∀ (kk : List α) (vs : List β), kk.length = vs.length → (kk.zip vs).map (·.2) = vs
  | [], [], _ => rfl
  | _ :: kk, _ :: vs, h => by rw [List.zip_cons_cons, List.map_cons, zip_snd kk vs (by simpa using h)]
  | [], _ :: _, h => (nomatch h)
  | _ :: _, [], h => (nomatch h)
theorem zip_fst {α β : Type} : ∀ (kk : List α) (vs : List β), kk.length = vs.length → (kk.zip vs).map (·.1) = kk
  | [], [], _ => rfl
  | _ :: kk, _ :: vs, h => by rw [List.zip_cons_cons, List.map_cons, zip_fst kk vs (by simpa using h)]
  | [], _ :: _, h => (nomatch h)
  | _ :: _, [], h => (nomatch h)
theorem keys_reps {K : PySem.W.Frag} {mg : Str → Option Value} {F : Hp} {μ : List Addr} : ∀ {ks : List W} {kk : List Key}, mapO keyW ks = some kk → Reps K mg F μ ks (kk.map kV)
  | [], kk, h => by unfold mapO at h; cases h; exact .nil
  | w :: ks, kk, h => by
    unfold mapO at h
    cases e1 : keyW w with
    | none => rw [e1] at h; cases h
    | some b =>
      cases e2 : mapO keyW ks with
      | none => rw [e1, e2] at h; cases h
      | some bs =>
        rw [e1, e2] at h; cases h
        exact .cons (rep_key e1) (keys_reps e2)
theorem os_sortD : OpNS X oSortD (fun xs H Q => ∃ (a : Addr) (kvs : List (Key × V)) (ks : List Str), xs = [.ref a] ∧ Rd H a (.dK kvs) ∧ kvs.map (·.1) = ks.map Sum.inr ∧ ks.length < 64 ∧ ∀ ys p, ys.Perm ks → sortedS ys = true → H p = none → Q (.ref p) (upd H p (.lst (ys.map V.str)))) := by
  intro Wx hid μ st σ H Q ws vs k r P
  unfold oSortD at P
  split at P
  · rename_i x
    obtain ⟨v, rfl, r1⟩ := reps1 (ws := []) r
    split at P
    · rename_i kk us e
      split at P
      · rename_i xs ex
        split at P
        · rename_i hl
          obtain ⟨a, vs, rfl, h1, h2, h3⟩ := dctW_at k e r1
          refine ⟨a, kk.zip vs, xs, rfl, h2, by rw [zip_fst kk vs h1]; exact txtKs_eq ex, hl, fun ys p pm sr hp => ?_⟩
          have e2 : ys = sortS xs := sortS_of pm sr
          rw [e2]
          refine ok_new P k hp fun F l e => rep_lst e ?_
          exact reps_strs _
        · exact P.elim
      · exact P.elim
    · exact P.elim
  · exact P.elim
theorem os_dictC : OpNS X oDictC (fun xs H Q => ∃ (a : Addr) (kvs : List (Key × V)), xs = [.ref a] ∧ Rd H a (.dK kvs) ∧ ∀ p, H p = none → Q (.ref p) (upd H p (.dK kvs))) := by
  intro Wx hid μ st σ H Q ws vs k r P
  unfold oDictC at P
  split at P
  · rename_i x
    obtain ⟨v, rfl, r1⟩ := reps1 (ws := []) r
    split at P
    · rename_i ks us e
      split at P
      · rename_i kk hk
        obtain ⟨a, vs, rfl, h1, h2, h3⟩ := dctKs_at k e hk r1
        refine ⟨a, kk.zip vs, rfl, h2, fun p hp => ?_⟩
        obtain ⟨k2, g2⟩ := k.newCell (c := .dct ks us) (o := .dK (kk.zip vs)) hp rfl ⟨vs, ⟨false, .inl kk, kind_plain hk, h1, upd_same⟩, h3.mono (.refl _) ⟨[p], rfl⟩⟩
        refine P _ _ _ k2 g2 ?_
        unfold Rep
        exact ⟨p, by rw [← k.len]; simp, rfl⟩
      · exact P.elim
    · exact P.elim
  · exact P.elim
theorem os_listD : OpNS X oListD SLd.rListR := by
  intro Wx hid μ st σ H Q ws vs k r P
  unfold oListD at P
  split at P
  · rename_i x
    obtain ⟨v, rfl, r1⟩ := reps1 (ws := []) r
    split at P
    · rename_i ks us e
      split at P
      · rename_i kk hk
        obtain ⟨a, vs, rfl, h1, h2, h3⟩ := dctKs_at k e hk r1
        refine ⟨a, kk.zip vs, rfl, h2, fun p hp => ?_⟩
        refine ok_new P k hp fun F l e => rep_lst e ?_
        have e2 : (kk.zip vs).map (fun kv => kV kv.1) = kk.map kV := by
          rw [← zip_fst kk vs h1, List.map_map, zip_fst kk vs h1]; rfl
        rw [e2]
        exact keys_reps hk
      · exact P.elim
    · exact P.elim
  · exact P.elim
theorem ev_listV {e : Expr} {f : Sem} {p apos cpos pos : Pos} (hc : X.calm = true) (hm : X.mg "list" = none) (he : EV X Wx e f) (hg : Gl X "list" := by rfl) (hv : bootBuiltins "list" = some (.type "list") := by decide +kernel) (hbase : attributeBase e "values" X.env (eval e X.env) = eval e X.env := by rfl) (hline : (apos.endLine == cpos.line) = true := by rfl)
    (hs : starEach [.Call (.Attribute e "values" apos) [] [] cpos] X.env = (false, eval (.Call (.Attribute e "values" apos) [] [] cpos) X.env) :: starEach [] X.env := by rfl) :
    EV X Wx (.Call (.Name "list" p) [.Call (.Attribute e "values" apos) [] [] cpos] [] pos) (eListV f) :=
  PEm (SLd.pe_listVals hc he hg hm hv hbase hline hs) fun σ H Q ⟨μ, st, hid, fr, S, P⟩ => by
    unfold SLd.tListVals
    refine ⟨μ, st, hid, fr, S, ?_⟩
    unfold eListV at P
    cases h : f fr st with
    | bad => rw [h] at P; exact P
    | err x s => rw [h] at P; exact P
    | ok w st1 =>
      rw [h, Out.bind_ok] at P
      intro μ1 H1 v k1 g1 r1
      have P1 := EPost.from g1 P
      split at P1
      · rename_i ks us e
        split at P1
        · rename_i kk hk
          obtain ⟨a, vs, rfl, h1, h2, h3⟩ := dctKs_at k1 e hk r1
          refine ⟨a, kk.zip vs, rfl, h2, fun q hq => ?_⟩
          refine ok_new P1 k1 hq fun F l e => rep_lst e ?_
          rw [zip_snd kk vs h1]
          exact h3.mono l (.refl _)
        · exact P1.elim
      · exact P1.elim
end
end SL

/-! # dicts walked, told by an expression; their items -/
namespace SL
open PySem PySem.Spec PyProof.Rows L2
def sLockX (fl : Sem) (s : SSem) : SSem := fun fr st => match fl fr st with
  | .ok (.cell n) _ => (match st[n]? with
    | some (.dct ks ws) => (match mapO keyW ks with
      | some _ => unlS n (s fr (st.set n (.dct (lkL ks) ws)))
      | none => s fr st)
    | _ => .bad)
  | _ => .bad
def eLockX (fl : Sem) (e : Sem) : Sem := fun fr st => match fl fr st with
  | .ok (.cell n) _ => (match st[n]? with
    | some (.dct ks ws) => (match mapO keyW ks with
      | some _ => unlE n (e fr (st.set n (.dct (lkL ks) ws)))
      | none => e fr st)
    | _ => .bad)
  | _ => .bad
def iKeysX (f : Sem) : SemI := fun fr st => (f fr st).bind fun x st1 => match x with
  | .cell n => (match st1[n]? with
    | some (.dct (.ty t :: ks) _) => if t = "L" then (match mapO keyW ks with
      | some _ => if ks.length ≤ LINE then .ok (.non, ks) st1 else .bad
      | none => .bad) else .bad
    | _ => .bad)
  | _ => .bad
def kvT (ks ws : List W) : List W := (ks.zip ws).map fun p => .tup [p.1, p.2]
def iItemsX (f : Sem) : SemI := fun fr st => (f fr st).bind fun x st1 => match x with
  | .cell n => (match st1[n]? with
    | some (.dct (.ty t :: ks) ws) => if t = "L" then (match mapO keyW ks with
      | some _ => if ks.length ≤ LINE ∧ ks.length = ws.length then .ok (.non, kvT ks ws) st1 else .bad
      | none => .bad) else .bad
    | _ => .bad)
  | _ => .bad
section
variable {K : PySem.W.Frag} {mg : Str → Option Value} {Wx : Wish} {μ hid : List Addr} {st : Sto} {fr : Fr} {σ : L2.St} {H : Hp}
theorem SI.lockN (S : SI K mg Wx μ st hid fr σ H) {n : Nat} {ks ws : List W} {kk : List Key} (hn : st[n]? = some (.dct ks ws)) (hk : mapO keyW ks = some kk) :
    ∃ (d : Addr) (vs : List V), μ[n]? = some d ∧ d ∉ hid ∧ kk.length = vs.length ∧ H d = some (.dK (kk.zip vs)) ∧ ∀ od, SI K mg Wx μ (st.set n (.dct (lkL ks) ws)) hid fr σ (upd H d (.frz od (.dK (kk.zip vs)))) ∧ Fz μ (st.set n (.dct (lkL ks) ws)) hid (upd H d (.frz od (.dK (kk.zip vs)))) = Fz μ st hid H := by
  have hlt : n < μ.length := by rw [S.sto.len]; exact (List.getElem?_eq_some_iff.mp hn).1
  have h1 : μ[n]? = some μ[n] := List.getElem?_eq_getElem hlt
  obtain ⟨vs, ⟨l, q, g1, g2, g3⟩, h3⟩ := S.sto.ok n _ _ h1 hn
  rw [kind_plain hk] at g1
  cases g1
  have g3' : H μ[n] = some (.dK (kk.zip vs)) := g3
  have g2' : kk.length = vs.length := g2
  refine ⟨μ[n], vs, h1, S.sto.hidn n _ _ h1 hn rfl, g2', g3', fun od => ?_⟩
  have kl : kindW (lkL ks) = some (true, .inl kk) := by
    show (mapO keyW ks).map (fun kk => (true, Sum.inl kk)) = _
    rw [hk]; rfl
  obtain ⟨k2, e, _⟩ := S.sto.setCell0 (c' := .dct (lkL ks) ws) (o := .frz od (.dK (kk.zip vs))) h1 hn rfl rfl ⟨vs, ⟨true, .inl kk, kl, g2', od, upd_same⟩, h3⟩
  exact ⟨⟨k2, S.len, fun j w h => by rw [e]; exact S.loc j w h, by rw [e]; exact S.ex⟩, e⟩
end
section
variable {X : Cx} {Wx : Wish}
theorem sv_lockX {fl : Sem} {st : Stmt} {s : SSem} (h : SV X Wx st s) : SV X Wx st (sLockX fl s) := PSm (PSor (ps_lock h) h) fun D σ H ⟨μ, st, hid, fr, S, P⟩ => by
  unfold sLockX at P
  split at P
  · rename_i n _ hf
    split at P
    · rename_i ks ws hn
      split at P
      · rename_i kk hk
        obtain ⟨d, vs, h1, h2, h3, h4, h5⟩ := S.lockN hn hk
        refine .inl ⟨d, _, h4, trivial, fun od => ?_⟩
        obtain ⟨S1, e1⟩ := h5 od
        refine ⟨μ, _, hid, fr, S1, ?_⟩
        have at2 : ∀ {μ2 : List Addr} {st2 : Sto} {H2 : Hp}, Grow hid μ (st.set n (.dct (lkL ks) ws)) (upd H d (.frz od (.dK (kk.zip vs)))) μ2 st2 H2 → μ2[n]? = some d ∧ H2 d = some (.frz od (.dK (kk.zip vs))) := fun g => ⟨g.pre.get h1, g.lck _ _ _ upd_same⟩
        cases e : s fr (st.set n (.dct (lkL ks) ws)) with
        | bad => rw [e] at P; exact P
        | er x f s => rw [e] at P; exact False.elim P
        | nx f2 st2 =>
          rw [e] at P
          intro μ2 σ2 H2 S2 g
          obtain ⟨a1, a2⟩ := at2 g
          refine ⟨a2, ?_⟩
          cases eu : unlk n st2 with
          | none => simp only [unlS, eu] at P; exact False.elim P
          | some st3 =>
            simp only [unlS, eu] at P
            exact P μ2 σ2 _ (S2.free eu a1 a2) (grow_lock (n := n) e1 h2 h4 (fun o z q => nomatch q) rfl g (unlk_at S2.sto eu a1 a2).2)
        | bk f2 st2 =>
          rw [e] at P
          intro μ2 σ2 H2 S2 g
          obtain ⟨a1, a2⟩ := at2 g
          refine ⟨a2, ?_⟩
          cases eu : unlk n st2 with
          | none => simp only [unlS, eu] at P; exact False.elim P
          | some st3 =>
            simp only [unlS, eu] at P
            exact P μ2 σ2 _ (S2.free eu a1 a2) (grow_lock (n := n) e1 h2 h4 (fun o z q => nomatch q) rfl g (unlk_at S2.sto eu a1 a2).2)
        | ct f2 st2 =>
          rw [e] at P
          intro μ2 σ2 H2 S2 g
          obtain ⟨a1, a2⟩ := at2 g
          refine ⟨a2, ?_⟩
          cases eu : unlk n st2 with
          | none => simp only [unlS, eu] at P; exact False.elim P
          | some st3 =>
            simp only [unlS, eu] at P
            exact P μ2 σ2 _ (S2.free eu a1 a2) (grow_lock (n := n) e1 h2 h4 (fun o z q => nomatch q) rfl g (unlk_at S2.sto eu a1 a2).2)
        | rt w st2 =>
          rw [e] at P
          intro μ2 H2 v k2 g r2
          obtain ⟨a1, a2⟩ := at2 g
          refine ⟨a2, ?_⟩
          cases eu : unlk n st2 with
          | none => simp only [unlS, eu] at P; exact False.elim P
          | some st3 =>
            simp only [unlS, eu] at P
            obtain ⟨k3, e3⟩ := unlk_at k2 eu a1 a2
            exact P μ2 _ v k3 (grow_lock (n := n) e1 h2 h4 (fun o z q => nomatch q) rfl g e3) (by rw [e3]; exact r2)
      · exact .inr ⟨μ, st, hid, fr, S, P⟩
    · exact P.elim
  · exact P.elim
theorem ev_lockX {fl : Sem} {e : Expr} {f : Sem} (h : EV X Wx e f) : EV X Wx e (eLockX fl f) := PEm (PEor (pe_lock h) h) fun σ H Q ⟨μ, st, hid, fr, S, P⟩ => by
  unfold eLockX at P
  split at P
  · rename_i n _ hf
    split at P
    · rename_i ks ws hn
      split at P
      · rename_i kk hk
        obtain ⟨d, vs, h1, h2, h3, h4, h5⟩ := S.lockN hn hk
        refine .inl ⟨d, _, h4, trivial, fun od => ?_⟩
        obtain ⟨S1, e1⟩ := h5 od
        refine ⟨μ, _, hid, fr, S1, ?_⟩
        cases e : f fr (st.set n (.dct (lkL ks) ws)) with
        | bad => rw [e] at P; exact P
        | err x s => rw [e] at P; exact P.elim
        | ok w st2 =>
          rw [e] at P
          intro μ2 H2 v k2 g r2
          have a1 := g.pre.get h1
          have a2 := g.lck _ _ _ (upd_same (H := H) (a := d) (o := .frz od (.dK (kk.zip vs))))
          refine ⟨a2, ?_⟩
          cases eu : unlk n st2 with
          | none => simp only [unlE, eu] at P; exact False.elim P
          | some st3 =>
            simp only [unlE, eu] at P
            obtain ⟨k3, e3⟩ := unlk_at k2 eu a1 a2
            exact P μ2 _ v k3 (grow_lock (n := n) e1 h2 h4 (fun o z q => nomatch q) rfl g e3) (by rw [e3]; exact r2)
      · exact .inr ⟨μ, st, hid, fr, S, P⟩
    · exact P.elim
  · exact P.elim
theorem iv_keysX {e : Expr} {f : Sem} {tg : Expr} (he : EV X Wx e f) : IV X Wx tg e (iKeysX f) := PIm (pi_keys he) fun σ H R ⟨μ, st, hid, fr, S, P⟩ => by
  unfold iKeysX at P
  refine ⟨μ, st, hid, fr, S, ?_⟩
  cases hx : f fr st with
  | bad => rw [hx] at P; exact P.elim
  | err x s => rw [hx] at P; exact P
  | ok w st1 =>
  rw [hx, Out.bind_ok] at P
  intro μ1 H1 v k1 g1 r1
  have P := IPost.from g1 P
  split at P
  · rename_i n
    split at P
    · rename_i t ks ws hn
      split at P
      · rename_i ht
        subst ht
        split at P
        · rename_i kk hk
          split at P
          · rename_i hl
            obtain ⟨d, rfl, h1, vs, ⟨l, q, c1, c2, c3⟩, h3⟩ := k1.cell hn r1
            have kl : kindW (.ty "L" :: ks) = some (true, .inl kk) := by
              show (mapO keyW ks).map (fun kk => (true, Sum.inl kk)) = _
              rw [hk]; rfl
            rw [kl] at c1
            cases c1
            obtain ⟨o, c3⟩ := c3
            have c3' : H1 d = some (.frz o (.dK (kk.zip vs))) := c3
            have c2' : kk.length = vs.length := c2
            have hkl := mapO_len hk
            have hz : (kk.zip vs).length = ks.length := by rw [List.length_zip]; omega
            refine ⟨d, o, rfl, .inl ⟨_, c3', P μ1 H1 _ k1 .refl ?_⟩⟩
            exact {
              len := le_line hl
              go := fun hid μ st H j k l p q s hj => ⟨q _ _ _ c3', by rw [hz]; exact hj⟩
              yld := fun hid μ st H j v H' k l p q s hj y => by
                obtain ⟨rfl, key, u, e1, rfl⟩ := y
                refine ⟨k, .refl, ks[j], List.getElem?_eq_getElem hj, ?_⟩
                have e2 : kk[j]? = some key := by
                  rw [List.getElem?_zip_eq_some] at e1
                  exact e1.1
                exact rep_key (mapO_get hk (List.getElem?_eq_getElem hj) e2)
              stop := fun hid μ st H j k l p q s hj => ⟨q _ _ _ c3', by rw [hz]; exact hj⟩ }
          · exact P.elim
        · exact P.elim
      · exact P.elim
    · exact P.elim
  · exact P.elim

theorem iv_items {e : Expr} {f : Sem} {elts : List Expr} {kk0 : Nat} {tpos apos cpos : Pos} (he : EV X Wx e f) (hbase : attributeBase e "items" X.env (eval e X.env) = eval e X.env := by rfl) (hline : (apos.endLine == cpos.line) = true := by rfl) : IV X Wx (.Tuple elts kk0 tpos) (.Call (.Attribute e "items" apos) [] [] cpos) (iItemsX f) := PIm (pi_items he hbase hline) fun σ H R ⟨μ, st, hid, fr, S, P⟩ => by
  unfold iItemsX at P
  refine ⟨μ, st, hid, fr, S, ?_⟩
  cases hx : f fr st with
  | bad => rw [hx] at P; exact P.elim
  | err x s => rw [hx] at P; exact P
  | ok w st1 =>
  rw [hx, Out.bind_ok] at P
  intro μ1 H1 v k1 g1 r1
  have P := IPost.from g1 P
  split at P
  · rename_i n
    split at P
    · rename_i t ks ws hn
      split at P
      · rename_i ht
        subst ht
        split at P
        · rename_i kk hk
          split at P
          · rename_i hl
            obtain ⟨hl, hlw⟩ := hl
            obtain ⟨d, rfl, h1, vs, ⟨l, q, c1, c2, c3⟩, h3⟩ := k1.cell hn r1
            have kl : kindW (.ty "L" :: ks) = some (true, .inl kk) := by
              show (mapO keyW ks).map (fun kk => (true, Sum.inl kk)) = _
              rw [hk]; rfl
            rw [kl] at c1
            cases c1
            obtain ⟨o, c3⟩ := c3
            have c3' : H1 d = some (.frz o (.dK (kk.zip vs))) := c3
            have c2' : kk.length = vs.length := c2
            have hkl := mapO_len hk
            have hz : (kk.zip vs).length = ks.length := by rw [List.length_zip]; omega
            have hkv : (kvT ks ws).length = ks.length := by unfold kvT; rw [List.length_map, List.length_zip]; omega
            refine ⟨d, o, _, rfl, c3', P μ1 H1 _ k1 .refl ?_⟩
            exact {
              len := by rw [hkv]; exact le_line hl
              go := fun hid μ st H j k l p q s hj => ⟨q _ _ _ c3', by rw [hz, ← hkv]; exact hj⟩
              yld := fun hid μ st H j v H' k l p q s hj y => by
                obtain ⟨T, key, u, e1, rfl, hT, rfl⟩ := y
                rw [hkv] at hj
                rw [List.getElem?_zip_eq_some] at e1
                obtain ⟨e2, e3⟩ := e1
                obtain ⟨w, h4, h5⟩ := h3.get' e3
                obtain ⟨k2, g2, e4⟩ := k.laid (o := .tup [kV key, u]) hT
                refine ⟨k2, g2, .tup [ks[j], w], ?_, ?_⟩
                · unfold kvT
                  rw [List.getElem?_map, (List.getElem?_zip_eq_some (z := (ks[j], w))).mpr ⟨List.getElem?_eq_getElem hj, h4⟩]; rfl
                · exact rep_tup e4 (.cons (rep_key (mapO_get hk (List.getElem?_eq_getElem hj) e2)) (.cons ((Rep.mono l p _ _ h5).mono g2.le (.refl _)) .nil))
              stop := fun hid μ st H j k l p q s hj => ⟨q _ _ _ c3', by rw [hz, ← hkv]; exact hj⟩ }
          · exact P.elim
        · exact P.elim
      · exact P.elim
    · exact P.elim
  · exact P.elim
end
end SL

/-! # a def whose new cells go on to live, however it ends -/
namespace SL
open PySem PySem.Spec PyProof.Rows L2
def mkFnI (m : Nat) (b : SSem) : Fn := fun ws st => match b (ws.map some ++ List.replicate (m - ws.length) none) st with
  | .nx _ st1 => .ok .non st1
  | .rt w st1 => .ok w st1
  | .er x _ st1 => .err x st1
  | _ => .bad
theorem fn_okI {P : Program} {w : World} {K : PySem.W.Frag} {mg : Str → Option Value} {base : Heap} {x qual : Str} {st : Stmt} {f : Addr} {fd : FuncData} {N ps : List Str} {k m n : Nat} {b : SSem} (F : Fun K x qual st f fd) (S : FnScope N ps (defScope st)) (hm : N.length = m := by rfl) (hn : ps.length = n := by rfl)
    (hb : ∀ (cdv : Value) (A : Around) (outer : List Env) (s : Shared) (H : Hp) (E : XK), Ctx (cxOf (L2.CX P w) P w K mg base N qual (defScope st) f cdv A outer s H E) (Wish.of fun c d _ H => E c d H) k → BV (cxOf (L2.CX P w) P w K mg base N qual (defScope st) f cdv A outer s H E) (Wish.of fun c d _ H => E c d H) (defBody st) b) :
    FnOk P w K mg base (L2.CX P w) (k + 1) f fd ps (spF K mg n (mkFnI m b)) := by
  refine F.okX S (fun vs H Q E h => ?_) (fun cdv A outer s H vs Q E hr h => ?_)
  · obtain ⟨_, _, _, _, h, _⟩ := h
    rw [h, hn]
  · refine ⟨_, hb cdv A outer s H E ⟨rfl, S.nd, hr, takes_of rfl rfl rfl rfl, passes_of (K := fun e s'' => L2.CX P w outer H s E e s'') rfl⟩, ?_⟩
    obtain ⟨hid, μ, st0, ws, hl, k0, r, P0⟩ := h
    have wl : ws.length = vs.length := r.length
    refine ⟨μ, st0, hid, ws.map some ++ List.replicate (m - ws.length) none, ⟨k0, ?_, fun i u hi => ?_, trivial⟩, ?_⟩
    · unfold L2.start
      simp only [List.length_append, List.length_map, List.length_replicate, wl, hm]
    · by_cases hlt : i < ws.length
      · rw [List.getElem?_append_left (by simpa using hlt), List.getElem?_map] at hi
        cases e : ws[i]? with
        | none => rw [e] at hi; cases hi
        | some u' =>
          rw [e] at hi
          cases hi
          obtain ⟨v, e1, e2⟩ := r.get e
          exact ⟨v, start_get e1, e2⟩
      · rw [List.getElem?_append_right (by simpa using hlt), List.getElem?_replicate] at hi
        split at hi <;> cases hi
    · unfold mkFnI at P0
      cases e : b (ws.map some ++ List.replicate (m - ws.length) none) st0 with
      | bad => rw [e] at P0; exact P0
      | bk f s => rw [e] at P0; exact P0.elim
      | ct f s => rw [e] at P0; exact P0.elim
      | nx f s =>
        rw [e] at P0
        exact fun μ' σ' H' S' g => P0 μ' H' _ S'.sto g rep_non
      | rt u s =>
        rw [e] at P0
        exact fun μ' H' v k' g' r' => P0 μ' H' v k' g' r'
      | er x f s =>
        rw [e] at P0
        exact fun μ' σ' H' c d S' g xr => P0 μ' H' c d S'.sto g xr
end SL

/-! # a method without arguments -/
namespace SL
open PySem PySem.Spec PyProof.Rows L2
section
variable {X : Cx} {Wx : Wish}
/-- o.m() -/
theorem ev_meth0 {k j : Nat} {c m : Str} {F : Fn} {o : Expr} {f : Sem} {apos pos : Pos} {pl : PySem.Sem Bool} (I : MethIs X.prog X.w X.K X.mg X.base c m k 0 F) (C : Ctx X Wx j) (hk : k ≤ j) (ho : EV X Wx o f)
    (ht : eval (.Call (.Attribute o m apos) [] [] pos) X.env = (do
      let ov ← eval o X.env
      standAt apos.atName
      let (f, first) ← holding [ov] (getMethod ov m pl)
      callWith pos f first [] []) := by rfl) :
    EV X Wx (.Call (.Attribute o m apos) [] [] pos) (eMeth c m F f aNil) := by
  obtain ⟨A, ad, fd, ps, hm, hc, M, G, B⟩ := I.ex
  refine ⟨fun pins s σ H Q J h => ?_⟩
  obtain h := eMeth_read (g := aNil) hm arN_nil σ H Q h
  refine PySem.W.methodCall_KW (pl := pl) (thn (ho.run pins s σ H _ J h) fun u s1 ⟨x, H1, I1, rx, a, dx, fs, ex, ea, l, q⟩ => ?_) ht
  subst ex
  obtain rfl : u = Value.ref a := rx
  refine getmeth_ok I1 ea hc M l ?_
  obtain ⟨μ, st, hid, fr, S, P⟩ := q
  exact PySem.W.callWith_K0 (first := [.ref a]) I1.kIn M.kp (run_fnS (us := [.ref a]) (vs := [.ref a]) G (C.room.mono hk) B (passAt C.tk σ) I1 (.cons rfl .nil) (P μ H1 [] S.sto .refl .nil))
end
end SL

/-! # == of dicts with data within; == of lists where an item may be the same object -/
namespace SL
open PySem PySem.Spec PyProof.Rows L2
/-- x == y gives b: data; the same object; two empty dicts -/
inductive EqIt (K : PySem.W.Frag) (H : Hp) : V → V → Bool → Prop
  | dat {x y : V} {d e : PyData} (h1 : Dp K H x d) (h2 : Dp K H y e) (h3 : SeqAt.shaped d = true) (h4 : SeqAt.shaped e = true) : EqIt K H x y (PyData.eqv d e)
  | same {a : Addr} : EqIt K H (.ref a) (.ref a) true
  | dct0 {a b : Addr} (h1 : Rd H a (.dK [])) (h2 : Rd H b (.dK [])) : EqIt K H (.ref a) (.ref b) true
theorem rd_dct {X : Cx} {pins : List (Addr × Obj)} {σ : L2.St} {H : Hp} {s : Shared} {a : Addr} {ks : List (Key × V)} (I : Inv X pins σ H s) (h : Rd H a (.dK ks)) : ObjOk X.prog X.w H s.heap a (.dK ks) := by
  rcases h with h | ⟨o, h⟩
  · exact I.hok a _ h
  · exact (show s.heap.get? a = some o ∧ ObjOk X.prog X.w H s.heap a (.dK ks) from I.hok a _ h).2
theorem dct0_any {P P' : Program} {w w' : World} {h : Heap} {a : Addr} (d : h.DictOf (mixKind P w) a []) : h.DictOf (mixKind P' w') a [] := by
  obtain ⟨o, es, ep, h1, h2, h3, h4, h5, h6⟩ := d
  have e : es = #[] := by
    have := h5.length
    simpa using this
  subst e
  exact ⟨o, #[], ep, h1, h2, h3, fun x hx => by simp at hx, .nil, h6⟩
theorem eqIt_at {X : Cx} {pins : List (Addr × Obj)} {σ : L2.St} {H : Hp} {s : Shared} (I : Inv X pins σ H s) {A : Around} (hu : A.units + 66 < cLine) {x y : V} {v u : Value} {b : Bool} (h : EqIt X.K H x y b) (rx : RelV x v) (ry : RelV y u) : SeqAt.EqAt A s v u b := by
  cases h with
  | dat h1 h2 h3 h4 =>
    obtain ⟨as, r1⟩ := Dp.reads I _ _ v h1 rx
    obtain ⟨bs, r2⟩ := Dp.reads I _ _ u h2 ry
    exact SeqAt.eqAt_reads _ _ A s v u as bs r1 r2 (SeqAt.canLay_of_shaped h3) (SeqAt.canLay_of_shaped h4) (SeqAt.room_of_shaped h3 (by omega))
  | same =>
    cases (show v = Value.ref _ from rx)
    cases (show u = Value.ref _ from ry)
    exact SeqAt.EqAt.same _
  | @dct0 a b h1 h2 =>
    cases (show v = Value.ref a from rx)
    cases (show u = Value.ref b from ry)
    by_cases e : a = b
    · subst e; exact SeqAt.EqAt.same _
    · obtain ⟨_, ya, va, ra, da⟩ := rd_dct I h1
      obtain ⟨_, yb, vb, rb, db⟩ := rd_dct I h2
      cases ra
      cases rb
      exact fun P' w' E' Q' q' => SeqAt.eqP_refs (prog := P') (w := w') e (fun E Q q => PySem.W.rcP_dicts (knd := mixKind P' w') (r := true) ya yb (dct0_any da) (dct0_any db) (by omega) (fun _ => .nil) E Q q) E' Q' q'
theorem eqIt_run {X : Cx} {pins : List (Addr × Obj)} {σ : L2.St} {H : Hp} {s : Shared} (I : Inv X pins σ H s) {A : Around} (hu : A.units + 66 < cLine) {x y : V} {v u : Value} {b : Bool} (h : EqIt X.K H x y b) (rx : RelV x v) (ry : RelV y u) : SeqAt.EqP X.prog X.w A s v u b := (eqIt_at I hu h rx ry).eqP
/-! ## dicts -/
inductive HitV (K : PySem.W.Frag) (H : Hp) (ls : List (Key × V)) : List (Key × V) → Bool → Prop
  | nil : HitV K H ls [] true
  | miss {k : Key} {v : V} {r : List (Key × V)} (h : valV ls k = none) : HitV K H ls ((k, v) :: r) false
  | hit {k : Key} {v y : V} {r : List (Key × V)} {e b : Bool} (h : valV ls k = some y) (h2 : EqIt K H v y e) (h3 : HitV K H ls r b) : HitV K H ls ((k, v) :: r) (e && b)
theorem hitV_run {X : Cx} {pins : List (Addr × Obj)} {σ : L2.St} {H : Hp} {s : Shared} (I : Inv X pins σ H s) {A : Around} (hu : A.units + 66 < cLine) {ls : List (Key × V)} {vb : List (Key × Value)} (rb : KV ls vb) {ks : List (Key × V)} {b : Bool} (h : HitV X.K H ls ks b) :
    ∀ {va : List (Key × Value)}, KV ks va → PySem.W.KeqHitsP X.prog X.w A s vb va b := by
  induction h with
  | nil =>
    intro va ra
    cases ra
    exact .nil
  | @miss k v r hn =>
    intro va ra
    unfold KV at ra
    cases ra with
    | @cons _ q _ qs h t =>
      obtain ⟨key, v'⟩ := q
      obtain ⟨h1, h2⟩ := h
      have h1' : k = key := h1
      subst h1'
      refine .miss ?_
      have rr : RelO (valV ls k) (valueAt vb k) := rb.val k
      rw [hn] at rr
      cases e : valueAt vb k with
      | none => rfl
      | some y => rw [e] at rr; exact (show False from rr).elim
  | @hit k v y r e b hv hi _ ih =>
    intro va ra
    unfold KV at ra
    cases ra with
    | @cons _ q _ qs h t =>
      obtain ⟨key, v'⟩ := q
      obtain ⟨h1, h2⟩ := h
      have h1' : k = key := h1
      subst h1'
      have rr : RelO (some y) (valueAt vb k) := by rw [← hv]; exact rb.val k
      obtain ⟨z, hz, rz⟩ := rr.some_of
      exact .hit hz (eqIt_run I hu hi h2 rz) (ih t)
def rEqDct (K : PySem.W.Frag) : R2 := fun x y H Q => ∃ a b ks ls r, x = .ref a ∧ y = .ref b ∧ Rd H a (.dK ks) ∧ Rd H b (.dK ls) ∧ (ks.length = ls.length → HitV K H ls ks r) ∧ Q (.bl (ks.length == ls.length && r)) H
section
variable {X : Cx}
theorem op_eqDct (hu : X.A.units + 70 < cLine) : OpR X (compareOp .Eq) (rEqDct X.K) := by
  intro pins s σ H x y v u Q I rx ry h
  obtain ⟨a, b, ks, ls, r, rfl, rfl, ea, eb, hp, q⟩ := h
  cases (show v = Value.ref a from rx)
  cases (show u = Value.ref b from ry)
  obtain ⟨_, ya, va, ra, da⟩ := rd_dct I ea
  obtain ⟨_, yb, vb, rb, db⟩ := rd_dct I eb
  have la : va.length = ks.length := ra.length.symm
  have lb : vb.length = ls.length := rb.length.symm
  refine PySem.W.rcP_dicts (knd := mixKind X.prog X.w) (r := r) ya yb da db (by omega) (fun e => hitV_run I (by show X.A.units + 1 + 66 < cLine; omega) rb (hp (by omega)) ra) _ _ ?_
  rw [la, lb]
  exact ⟨.bl _, H, I, rfl, q⟩
end
def dHits (st : Sto) (ls : List (Key × W)) : List (Key × W) → Option Bool
  | [] => some true
  | (k, w) :: r => match valW ls k with
    | none => some false
    | some u => match eqW st w u, dHits st ls r with
      | some e, some b => some (e && b)
      | _, _ => none
def oEqDct : Op2 := fun x y st => match dctW st x, dctW st y with
  | some (kk, ws), some (jj, us) => if kk.length = ws.length ∧ jj.length = us.length then (if kk.length = jj.length then (match dHits st (jj.zip us) (kk.zip ws) with
    | some b => .ok (.bl b) st
    | none => .bad) else .ok (.bl false) st) else .bad
  | _, _ => .bad
theorem hits_at {K : PySem.W.Frag} {mg : Str → Option Value} {hid μ : List Addr} {st : Sto} {H : Hp} (k : StOk K mg μ st hid H) {jj : List Key} {us : List W} {ys : List V} (hj : jj.length = ys.length) (ru : Reps K mg (Fz μ st hid H) μ us ys) :
    ∀ {kk : List Key} {ws : List W} {xs : List V} {b : Bool}, kk.length = xs.length → Reps K mg (Fz μ st hid H) μ ws xs → dHits st (jj.zip us) (kk.zip ws) = some b → HitV K H (jj.zip ys) (kk.zip xs) b
  | [], ws, xs, b, _, _, h => by
    cases h
    exact .nil
  | j :: kk, ws, [], b, h, _, _ => by simp at h
  | j :: kk, ws, x :: xs, b, hl, r, h => by
    have hl2 := r.length
    cases ws with
    | nil => simp at hl2
    | cons w ws =>
      obtain ⟨v', vs', e, r1, r2⟩ := r.cons_inv
      cases e
      rw [List.zip_cons_cons] at h ⊢
      unfold dHits at h
      obtain ⟨v1, v2⟩ := val_at (K := K) (mg := mg) (F := Fz μ st hid H) (μ := μ) j hj ru
      cases e : valW (jj.zip us) j with
      | none =>
        rw [e] at h
        cases h
        exact .miss (v2 e)
      | some u =>
        rw [e] at h
        obtain ⟨y, hy, ry⟩ := v1 u e
        cases e1 : eqW st w u with
        | none => simp only [e1] at h; cases h
        | some c =>
          cases e3 : dHits st (jj.zip us) (kk.zip ws) with
          | none => simp only [e1, e3] at h; cases h
          | some d =>
            simp only [e1, e3] at h
            cases h
            obtain ⟨dd, de, h1, h2, h3, h4, rfl⟩ := eqW_at k e1 r1 ry
            exact .hit hy (.dat h1 h2 h3 h4) (hits_at k hj ru (by simpa using hl) r2 e3)
section
variable {X : Cx}
theorem os_eqDct : Op2S X oEqDct (rEqDct X.K) := by
  intro Wx hid μ st σ H Q w u x y k rx ry P
  unfold oEqDct at P
  split at P
  · rename_i kk ws jj us h1 h2
    obtain ⟨a, xs, rfl, l1, r1, q1⟩ := dctW_at k h1 rx
    obtain ⟨b, ys, rfl, l2, r2, q2⟩ := dctW_at k h2 ry
    split at P
    · have z1 : (kk.zip xs).length = kk.length := by rw [List.length_zip]; omega
      have z2 : (jj.zip ys).length = jj.length := by rw [List.length_zip]; omega
      split at P
      · rename_i hl
        split at P
        · rename_i b h
          refine ⟨_, _, _, _, b, rfl, rfl, r1, r2, fun _ => hits_at k l2 q2 l1 q1 h, ?_⟩
          rw [z1, z2, hl, beq_self_eq_true, Bool.true_and]
          exact P μ H _ k .refl rep_bl
        · exact P.elim
      · rename_i hl
        refine ⟨_, _, _, _, true, rfl, rfl, r1, r2, fun e => absurd (by rw [z1, z2] at e; exact e) hl, ?_⟩
        rw [z1, z2, show (kk.length == jj.length) = false by simpa using hl]
        exact P μ H _ k .refl rep_bl
    · exact P.elim
  · exact P.elim
end
/-! ## lists, item by item -/
def rEqLs (K : PySem.W.Frag) : R2 := fun x y H Q => ∃ (a b : Addr) (xs ys : List V), x = .ref a ∧ y = .ref b ∧ SqL K H a xs ∧ SqL K H b ys ∧ xs.length = ys.length ∧ (∀ (j : Nat) (x y : V), xs[j]? = some x → ys[j]? = some y → EqIt K H x y true) ∧ Q (.bl true) H
section
variable {X : Cx}
theorem op_eqLs (hu : X.A.units + 70 < cLine) : OpR X (compareOp .Eq) (rEqLs X.K) := by
  intro pins s σ H x y v u Q I rx ry h
  obtain ⟨a, b, xs, ys, rfl, rfl, ha, hb, hl, hp, q⟩ := h
  cases (show v = Value.ref a from rx)
  cases (show u = Value.ref b from ry)
  obtain ⟨us, r1, p1, _⟩ := I.list ha
  obtain ⟨ws, r2, p2, _⟩ := I.list hb
  have hsz : us.toArray.size = ws.toArray.size := by
    rw [List.size_toArray, List.size_toArray, ← r1.length, ← r2.length]
    exact hl
  refine SeqAt.rcP_lists (e := fun _ => true) p1.isList p2.isList hsz (by omega) (fun j h1 h2 => ?_) _ _ ?_
  · have h1' : j < us.length := by simpa using h1
    have h2' : j < ws.length := by simpa using h2
    have hx : j < xs.length := by rw [r1.length]; exact h1'
    have hy : j < ys.length := by rw [r2.length]; exact h2'
    obtain ⟨u1, g1, q1⟩ := Vals.get r1 (List.getElem?_eq_getElem hx)
    obtain ⟨u2, g2, q2⟩ := Vals.get r2 (List.getElem?_eq_getElem hy)
    have k := eqIt_run I (A := X.A.in1) (by show X.A.units + 1 + 66 < cLine; omega) (hp j xs[j] ys[j] (List.getElem?_eq_getElem hx) (List.getElem?_eq_getElem hy)) q1 q2
    rw [List.getElem?_eq_getElem h1'] at g1
    rw [List.getElem?_eq_getElem h2'] at g2
    cases g1
    cases g2
    simpa using k
  · rw [show ((List.range us.toArray.size).all fun _ => true) = true from List.all_eq_true.mpr fun _ _ => rfl]
    exact ⟨.bl true, H, I, rfl, q⟩
def rNeLs (K : PySem.W.Frag) : R2 := fun x y H Q => ∃ (a b : Addr) (xs ys : List V), x = .ref a ∧ y = .ref b ∧ SqL K H a xs ∧ SqL K H b ys ∧ xs.length = ys.length ∧ (∀ (j : Nat) (x y : V), xs[j]? = some x → ys[j]? = some y → EqIt K H x y true) ∧ Q (.bl false) H
theorem op_neLs (hu : X.A.units + 70 < cLine) : OpR X (compareOp .NotEq) (rNeLs X.K) := by
  intro pins s σ H x y v u Q I rx ry h
  obtain ⟨a, b, xs, ys, rfl, rfl, ha, hb, hl, hp, q⟩ := h
  cases (show v = Value.ref a from rx)
  cases (show u = Value.ref b from ry)
  obtain ⟨us, r1, p1, _⟩ := I.list ha
  obtain ⟨ws, r2, p2, _⟩ := I.list hb
  have hsz : us.toArray.size = ws.toArray.size := by
    rw [List.size_toArray, List.size_toArray, ← r1.length, ← r2.length]
    exact hl
  refine SeqAt.RcNeAt.lists (e := fun _ => true) p1.isList p2.isList hsz (by omega) (fun j h1 h2 => ?_) X.prog X.w _ _ ?_
  · have h1' : j < us.length := by simpa using h1
    have h2' : j < ws.length := by simpa using h2
    have hx : j < xs.length := by rw [r1.length]; exact h1'
    have hy : j < ys.length := by rw [r2.length]; exact h2'
    obtain ⟨u1, g1, q1⟩ := Vals.get r1 (List.getElem?_eq_getElem hx)
    obtain ⟨u2, g2, q2⟩ := Vals.get r2 (List.getElem?_eq_getElem hy)
    have k := eqIt_at I (A := X.A.in1) (by show X.A.units + 1 + 66 < cLine; omega) (hp j xs[j] ys[j] (List.getElem?_eq_getElem hx) (List.getElem?_eq_getElem hy)) q1 q2
    rw [List.getElem?_eq_getElem h1'] at g1
    rw [List.getElem?_eq_getElem h2'] at g2
    cases g1
    cases g2
    simpa using k
  · rw [show ((List.range us.toArray.size).all fun _ => true) = true from List.all_eq_true.mpr fun _ _ => rfl]
    exact ⟨.bl false, H, I, rfl, q⟩
/-- the same cell, or data that are equal, or two empty dicts -/
def itSame (st : Sto) (w u : W) : Bool := match w, u with
  | .cell j, .cell k => decide (j = k)
  | .dct [] [], .dct [] [] => true
  | w, u => match eqW st w u with
    | some true => true
    | _ => false
def allSame (st : Sto) : List W → List W → Bool
  | [], [] => true
  | w :: ws, u :: us => itSame st w u && allSame st ws us
  | _, _ => false
def oEqLs : Op2 := fun x y st => match lstW st x, lstW st y with
  | some ws, some us => if allSame st ws us = true then .ok (.bl true) st else .bad
  | _, _ => .bad
theorem itSame_at {K : PySem.W.Frag} {mg : Str → Option Value} {hid μ : List Addr} {st : Sto} {H : Hp} (k : StOk K mg μ st hid H) {w u : W} {x y : V} (h : itSame st w u = true) (rx : Rep K mg (Fz μ st hid H) μ w x) (ry : Rep K mg (Fz μ st hid H) μ u y) : EqIt K H x y true := by
  unfold itSame at h
  split at h
  · rename_i i j
    have e := of_decide_eq_true h
    subst e
    obtain ⟨a, e1, rfl⟩ := rx
    obtain ⟨b, e2, rfl⟩ := ry
    rw [e1] at e2
    cases e2
    exact .same
  · obtain ⟨a, xs, rfl, l1, r1, q1⟩ := dctW_at (kk := []) (ws := []) k rfl rx
    obtain ⟨b, ys, rfl, l2, r2, q2⟩ := dctW_at (kk := []) (ws := []) k rfl ry
    exact .dct0 r1 r2
  · split at h
    · rename_i e
      obtain ⟨dd, de, h1, h2, h3, h4, hb⟩ := eqW_at k e rx ry
      rw [hb]
      exact .dat h1 h2 h3 h4
    · cases h
theorem allSame_at {K : PySem.W.Frag} {mg : Str → Option Value} {hid μ : List Addr} {st : Sto} {H : Hp} (k : StOk K mg μ st hid H) : ∀ {ws us : List W} {xs ys : List V}, allSame st ws us = true → Reps K mg (Fz μ st hid H) μ ws xs → Reps K mg (Fz μ st hid H) μ us ys →
    xs.length = ys.length ∧ ∀ (j : Nat) (x y : V), xs[j]? = some x → ys[j]? = some y → EqIt K H x y true
  | [], [], xs, ys, _, r1, r2 => by
    have l1 := r1.length
    have l2 := r2.length
    have e1 : xs = [] := List.eq_nil_of_length_eq_zero (by simpa using l1.symm)
    have e2 : ys = [] := List.eq_nil_of_length_eq_zero (by simpa using l2.symm)
    subst e1; subst e2
    exact ⟨rfl, fun j x y h => by simp at h⟩
  | w :: ws, u :: us, xs, ys, h, r1, r2 => by
    obtain ⟨x, xs, e1, a1, a2⟩ := r1.cons_inv
    obtain ⟨y, ys, e2, b1, b2⟩ := r2.cons_inv
    subst e1; subst e2
    unfold allSame at h
    rw [Bool.and_eq_true] at h
    obtain ⟨i1, i2⟩ := allSame_at k h.2 a2 b2
    refine ⟨by simp [i1], fun j z t h1 h2 => ?_⟩
    cases j with
    | zero =>
      simp at h1 h2
      subst h1; subst h2
      exact itSame_at k h.1 a1 b1
    | succ j => exact i2 j z t (by simpa using h1) (by simpa using h2)
  | [], _ :: _, _, _, h, _, _ => by cases h
  | _ :: _, [], _, _, h, _, _ => by cases h
theorem os_eqLs : Op2S X oEqLs (rEqLs X.K) := by
  intro Wx hid μ st σ H Q w u x y k rx ry P
  unfold oEqLs at P
  split at P
  · rename_i ws us h1 h2
    split at P
    · rename_i h
      obtain ⟨a, xs, rfl, p1, q1⟩ := lstW_at k h1 rx
      obtain ⟨b, ys, rfl, p2, q2⟩ := lstW_at k h2 ry
      obtain ⟨i1, i2⟩ := allSame_at k h q1 q2
      exact ⟨a, b, xs, ys, rfl, rfl, p1, p2, i1, i2, P μ H _ k .refl rep_bl⟩
    · exact P.elim
  · exact P.elim
def oNeLs : Op2 := fun x y st => match lstW st x, lstW st y with
  | some ws, some us => if allSame st ws us = true then .ok (.bl false) st else .bad
  | _, _ => .bad
theorem os_neLs : Op2S X oNeLs (rNeLs X.K) := by
  intro Wx hid μ st σ H Q w u x y k rx ry P
  unfold oNeLs at P
  split at P
  · rename_i ws us h1 h2
    split at P
    · rename_i h
      obtain ⟨a, xs, rfl, p1, q1⟩ := lstW_at k h1 rx
      obtain ⟨b, ys, rfl, p2, q2⟩ := lstW_at k h2 ry
      obtain ⟨i1, i2⟩ := allSame_at k h q1 q2
      exact ⟨a, b, xs, ys, rfl, rfl, p1, p2, i1, i2, P μ H _ k .refl rep_bl⟩
    · exact P.elim
  · exact P.elim
theorem Room.u70 {k : Nat} {A : Around} (r : Room k A) : A.units + 70 < cLine := by have := r.un; omega
end
end SL

/-! # properties; d.clear(), d.pop(k) of a dict that lives; in, not in for lists of data -/
namespace SL
open PySem PySem.Spec PyProof.Rows L2
/-! ## properties -/
structure PropIs (P : Program) (w : World) (K : PySem.W.Frag) (mg : Str → Option Value) (base : Heap) (c m : Str) (k : Nat) (F : Fn) : Prop where
  ex : ∃ (C p g : Addr) (fd : FuncData) (ps : List Str), mg c = some (.ref C) ∧ Cls K C ∧ PropOf K C m p g ∧ FnOk P w K mg base (L2.CX P w) k g fd ps (spF K mg 1 F) ∧ Binds K fd ps []
theorem prop_is {P : Program} {w : World} {K : PySem.W.Frag} {mg : Str → Option Value} {base : Heap} {c m : Str} {k : Nat} {F : Fn} {C p g : Addr} {fd : FuncData} {ps : List Str} {rest : List Value} (hm : mg c = some (.ref C)) (hc : Cls K C) (h1 : PySem.W.findIn K (.ref C) m = some (some (.ref p))) (h2 : PySem.W.specialIn K (.ref p) "__get__" = some (some (.builtin "property.__get__"))) (h3 : PySem.W.takesIn K (.ref p) = some true) (h4 : PySem.W.recIn K p "property" = some (.ref g :: rest))
    (G : FnOk P w K mg base (L2.CX P w) k g fd ps (spF K mg 1 F)) (B : Binds K fd ps []) : PropIs P w K mg base c m k F := ⟨C, p, g, fd, ps, hm, hc, ⟨h1, h2, h3, rest, h4⟩, G, B⟩
def eProp (c m : Str) (F : Fn) (f : Sem) : Sem := fun fr st => (f fr st).bind fun w st1 => match insW st1 w with
  | some (d, _, _) => if d = c then (match F [w] st1 with
    | .ok u st2 => .ok u st2
    | _ => .bad) else .bad
  | none => .bad
section
variable {X : Cx} {Wx : Wish}
theorem eProp_read {c m : Str} {C : Addr} {F : Fn} {f : Sem} (hm : X.mg c = some (.ref C)) : ∀ σ H Q, tE X.K X.mg Wx (eProp c m F f) σ H Q → tE X.K X.mg Wx f σ H fun x H1 => ∃ a dx fs, x = .ref a ∧ H1 a = some (.ins C dx fs) ∧ spF X.K X.mg 1 F [.ref a] H1 Q (fun _ _ _ => False) := fun σ H Q ⟨μ, st, hid, fr, S, P⟩ => by
  refine ⟨μ, st, hid, fr, S, ?_⟩
  unfold eProp at P
  cases h : f fr st with
  | bad => rw [h] at P; exact P
  | err x s => rw [h] at P; exact P
  | ok w st1 =>
    rw [h, Out.bind_ok] at P
    intro μ1 H1 v k1 g1 r1
    have P1 := EPost.from g1 P
    split at P1
    · rename_i d ns us e1
      split at P1
      · rename_i hd
        subst hd
        obtain ⟨a, D, dx, vs, rfl, g2, g3, g4, g5⟩ := insW_at k1 e1 r1
        rw [hm] at g2; cases g2
        refine ⟨a, dx, _, rfl, g4, hid, μ1, st1, [w], rfl, k1, .cons r1 .nil, ?_⟩
        cases e : F [w] st1 with
        | bad => rw [e] at P1; exact P1.elim
        | err y st3 => rw [e] at P1; exact P1.elim
        | ok u st3 => rw [e] at P1; exact P1
      · exact P1.elim
    · exact P1.elim
theorem ev_prop {k j : Nat} {c m : Str} {F : Fn} {o : Expr} {f : Sem} {pos : Pos} (I : PropIs X.prog X.w X.K X.mg X.base c m k F) (C : Ctx X Wx j) (hk : k + 1 ≤ j) (ho : EV X Wx o f)
    (hab : attributeBase o m X.env (eval o X.env) = eval o X.env := by rfl) : EV X Wx (.Attribute o m pos) (eProp c m F f) := by
  obtain ⟨A, p, g, fd, ps, hm, hc, hp, G, B⟩ := I.ex
  refine ⟨fun pins s σ H Q J h => ?_⟩
  obtain h := eProp_read (m := m) hm σ H Q h
  refine attr_of hab (thn (ho.run pins s σ H _ J h) fun u s1 ⟨x, H1, I1, rx, a, dx, fs, ex, ea, q⟩ => ?_)
  subst ex
  obtain rfl : u = Value.ref a := rx
  exact getprop_ok I1 ea hc hp G (C.room.mono hk) B .nil (fun pins σ H s e s' _ z => by
    obtain ⟨_, _, _, _, _, _, _, _, _, _, _, _, z⟩ := z
    exact z.elim) q
/-! ## d.clear(), d.pop(k) -/
/-- a dict cell with plain keys that is not locked -/
def dctL (st : Sto) (w : W) : Option (Nat × List Key × List W) := match w with
  | .cell n => (match st[n]? with
    | some (.dct ks ws) => (match mapO keyW ks with
      | some kk => some (n, kk, ws)
      | none => none)
    | _ => none)
  | _ => none
theorem dctL_at {K : PySem.W.Frag} {mg : Str → Option Value} {hid μ : List Addr} {st : Sto} {H : Hp} {x : W} {v : V} {n : Nat} {kk : List Key} {ws : List W} (k : StOk K mg μ st hid H) (h : dctL st x = some (n, kk, ws)) (r : Rep K mg (Fz μ st hid H) μ x v) :
    ∃ a vs ks, x = .cell n ∧ v = .ref a ∧ μ[n]? = some a ∧ st[n]? = some (.dct ks ws) ∧ mapO keyW ks = some kk ∧ H a = some (.dK (kk.zip vs)) ∧ kk.length = vs.length ∧ Reps K mg (Fz μ st hid H) μ ws vs := by
  unfold dctL at h
  split at h
  · rename_i m
    split at h
    · rename_i ks us e
      split at h
      · rename_i jj hk
        cases h
        obtain ⟨a, rfl, h1, vs, ⟨l, q', g1, g2, g3⟩, h3⟩ := k.cell e r
        rw [kind_plain hk] at g1
        cases g1
        exact ⟨a, vs, ks, rfl, rfl, h1, e, hk, g3, g2, h3⟩
      · cases h
    · cases h
  · cases h
def isDctL (st : Sto) (w : W) : Bool := (dctL st w).isSome
theorem isDctL_at {K : PySem.W.Frag} {mg : Str → Option Value} (hid μ : List Addr) (st : Sto) (H : Hp) (w : W) (v : V) (k : StOk K mg μ st hid H) (r : Rep K mg (Fz μ st hid H) μ w v) (h : isDctL st w = true) : tyV K "dict" v H := by
  unfold isDctL at h
  cases e : dctL st w with
  | none => rw [e] at h; cases h
  | some p =>
    obtain ⟨n, kk, ws⟩ := p
    obtain ⟨a, vs, ks, _, rfl, _, _, _, h2, _⟩ := dctL_at k e r
    exact .inr (.inr (.inl ⟨rfl, .inl ⟨_, h2⟩⟩))
def mDClear : OpM := fun x ws st => match ws with
  | [] => (match dctL st x with
    | some (n, _, _) => .ok .non (st.set n (.dct [] []))
    | none => .bad)
  | _ => .bad
theorem os_dclear : OpMS X mDClear rDClear := by
  intro Wx hid μ st σ H Q w ws x vs k rx rv P
  unfold mDClear at P
  split at P
  · split at P
    · rename_i n kk us e
      obtain ⟨a, xs, ks, rfl, rfl, h1, e1, hk, h2, h3, h4⟩ := dctL_at k e rx
      have hv : vs = [] := List.eq_nil_of_length_eq_zero (by have := rv.length; simpa using this.symm)
      subst hv
      refine ⟨a, _, rfl, rfl, h2, ?_⟩
      obtain ⟨k2, g4⟩ := k.setCell (c' := .dct [] []) (o := .dK []) h1 e1 rfl rfl ⟨[], ⟨false, .inl [], kind_plain (ks := []) rfl, rfl, upd_same⟩, .nil⟩ (unl_plain hk)
      exact P μ _ .non k2 g4 (by unfold Rep; rfl)
    · exact P.elim
  · exact P.elim
theorem ev_dclear {o : Expr} {f : Sem} {apos cpos : Pos} (ho : EV X Wx o f) (hbase : attributeBase o "clear" X.env (eval o X.env) = eval o X.env := by rfl) (hline : (apos.endLine == cpos.line) = true := by rfl) : EV X Wx (.Call (.Attribute o "clear" apos) [] [] cpos) (eM0 isDctL mDClear f) :=
  ev_m0 PySem.F.plainAttrs_dict PySem.F.slot_dict_clear PySem.F.type_dict_clear isDctL_at mtd_clear os_dclear ho hbase hline
def keyO : Key → W
  | .inl i => .int i
  | .inr x => .str x
theorem mapO_keyO : ∀ kk : List Key, mapO keyW (kk.map keyO) = some kk
  | [] => rfl
  | k :: kk => by
    rw [List.map_cons, mapO, mapO_keyO kk]
    cases k <;> rfl
def dropW (kk : List Key) (ws : List W) (j : Key) : List W := ((kk.zip ws).filter fun p => decide (p.1 ≠ j)).map (·.2)
theorem drop_zip (j : Key) : ∀ (kk : List Key) (vs : List V), kk.length = vs.length → dropK (kk.zip vs) j = (kk.filter fun i => decide (i ≠ j)).zip (((kk.zip vs).filter fun p => decide (p.1 ≠ j)).map (·.2))
  | [], vs, _ => rfl
  | i :: kk, [], h => by simp at h
  | i :: kk, v :: vs, h => by
    have ih := drop_zip j kk vs (by simpa using h)
    unfold dropK at ih ⊢
    rw [List.zip_cons_cons, List.filter_cons, List.filter_cons]
    by_cases e : i = j
    · simp only [e, ne_eq, not_true_eq_false, decide_false]
      exact ih
    · simp only [ne_eq, e, not_false_eq_true, decide_true, if_true]
      rw [List.map_cons, List.zip_cons_cons]
      congr 1
theorem drop_len (j : Key) : ∀ (kk : List Key) (vs : List V), kk.length = vs.length → (kk.filter fun i => decide (i ≠ j)).length = (((kk.zip vs).filter fun p => decide (p.1 ≠ j)).map (·.2)).length
  | [], vs, _ => rfl
  | i :: kk, [], h => by simp at h
  | i :: kk, v :: vs, h => by
    have ih := drop_len j kk vs (by simpa using h)
    rw [List.zip_cons_cons, List.filter_cons, List.filter_cons]
    by_cases e : i = j
    · simp only [e, ne_eq, not_true_eq_false, decide_false]
      exact ih
    · simp only [ne_eq, e, not_false_eq_true, decide_true, if_true, List.map_cons, List.length_cons]
      rw [ih]
theorem drop_reps {K : PySem.W.Frag} {mg : Str → Option Value} {F : Hp} {μ : List Addr} (j : Key) : ∀ (kk : List Key) (ws : List W) (vs : List V), kk.length = vs.length → Reps K mg F μ ws vs → Reps K mg F μ (dropW kk ws j) (((kk.zip vs).filter fun p => decide (p.1 ≠ j)).map (·.2))
  | [], ws, vs, _, _ => by unfold dropW; simp; exact .nil
  | i :: kk, ws, [], h, _ => by simp at h
  | i :: kk, ws, v :: vs, h, r => by
    have hl := r.length
    cases ws with
    | nil => simp at hl
    | cons w ws =>
      obtain ⟨v', vs', e, r1, r2⟩ := r.cons_inv
      cases e
      have ih := drop_reps (K := K) (mg := mg) (F := F) (μ := μ) j kk ws vs (by simpa using h) r2
      unfold dropW at ih ⊢
      rw [List.zip_cons_cons, List.zip_cons_cons, List.filter_cons, List.filter_cons]
      by_cases e : i = j
      · simp only [e, ne_eq, not_true_eq_false, decide_false]
        exact ih
      · simp only [ne_eq, e, not_false_eq_true, decide_true, if_true, List.map_cons]
        exact .cons r1 ih
/-- d.pop(k), k there -/
def eDPop (f g : Sem) : Sem := fun fr st => (f fr st).bind fun x st1 => if isDctL st1 x = true then (g fr st1).bind fun y st2 => (match dctL st2 x, keyW y with
  | some (n, kk, ws), some j => (match valW (kk.zip ws) j with
    | some w => .ok w (st2.set n (.dct ((kk.filter fun i => decide (i ≠ j)).map keyO) (dropW kk ws j)))
    | none => .bad)
  | _, _ => .bad) else .bad
theorem ev_dpop {o e : Expr} {f g : Sem} {apos cpos : Pos} (ho : EV X Wx o f) (he : EV X Wx e g) (m : M1 X o "pop" apos e cpos := by exact ⟨rfl, rfl, rfl, rfl⟩) : EV X Wx (.Call (.Attribute o "pop" apos) [e] [] cpos) (eDPop f g) :=
  PEm (pe_dpop1 ho he m) fun σ H Q ⟨μ, st, hid, fr, S, P⟩ => by
    refine ⟨μ, st, hid, fr, S, ?_⟩
    unfold eDPop at P
    cases h1 : f fr st with
    | bad => rw [h1] at P; exact P
    | err x s => rw [h1] at P; exact P
    | ok x st1 =>
      rw [h1, Out.bind_ok] at P
      intro μ1 H1 xv k1 g1 r1
      have P1 := EPost.from g1 P
      split at P1
      · rename_i hx
        unfold isDctL at hx
        cases hd : dctL st1 x with
        | none => rw [hd] at hx; cases hx
        | some p =>
          obtain ⟨n0, kk0, ws0⟩ := p
          obtain ⟨a, vs, ks, rfl, rfl, _, _, _, q2, _⟩ := dctL_at k1 hd r1
          refine ⟨a, rfl, .inl ⟨_, .inl q2⟩, μ1, st1, hid, fr, S.next k1 g1, ?_⟩
          cases h2 : g fr st1 with
          | bad => rw [h2] at P1; exact P1
          | err x s => rw [h2] at P1; exact P1
          | ok y st2 =>
            rw [h2, Out.bind_ok] at P1
            intro μ2 H2 yv k2 g2 r2
            have P2 := EPost.from g2 P1
            split at P2
            · rename_i n kk ws j hx2 hy
              obtain ⟨b, ys, js, ex, eb, m1, e1, hk, m2, m3, m4⟩ := dctL_at k2 hx2 (Rep.mono g2.le g2.pre _ _ r1)
              cases ex
              cases eb
              split at P2
              · rename_i w hw
                obtain ⟨v1, v2⟩ := val_at (K := X.K) (mg := X.mg) (F := Fz μ2 st2 hid H2) (μ := μ2) j m3 m4
                obtain ⟨v, hv, rv⟩ := v1 w hw
                refine ⟨_, j, v, m2, key_rep hy r2, hv, ?_⟩
                rw [drop_zip j kk ys m3]
                obtain ⟨k3, g3⟩ := k2.setCell (c' := .dct ((kk.filter fun i => decide (i ≠ j)).map keyO) (dropW kk ws j)) (o := .dK ((kk.filter fun i => decide (i ≠ j)).zip (List.map (fun q : Key × V => q.2) (List.filter (fun p : Key × V => decide (p.1 ≠ j)) (kk.zip ys))))) m1 e1 rfl rfl
                  ⟨List.map (fun q : Key × V => q.2) (List.filter (fun p : Key × V => decide (p.1 ≠ j)) (kk.zip ys)), ⟨false, .inl _, kind_plain (mapO_keyO _), drop_len j kk ys m3, upd_same⟩, drop_reps j kk ws ys m3 m4⟩ (unl_plain hk)
                exact P2 μ2 _ v k3 g3 (Rep.mono g3.le g3.pre _ _ rv)
              · exact P2.elim
            · exact P2.elim
      · exact P1.elim
/-! ## in, not in: lists of data -/
def oInD (f : Bool → Bool) : Op2 := fun x y st => match pdT st x, pdT st y with
  | some d, some (.list ds) => if (SeqAt.shaped d && SeqAt.shaped (.list ds)) = true then .ok (.bl (f (ds.any fun z => PyData.eqv z d))) st else .bad
  | _, _ => .bad
theorem os_inD : Op2S X (oInD fun b => b) (rInD X.K) := by
  intro Wx hid μ st σ H Q w u x y k rx ry P
  unfold oInD at P
  split at P
  · rename_i d ds h1 h2
    split at P
    · rename_i h
      rw [Bool.and_eq_true] at h
      exact ⟨d, ds, pdT_at k h1 rx, pdT_at k h2 ry, h.1, h.2, P μ H _ k .refl rep_bl⟩
    · exact P.elim
  · exact P.elim
theorem os_ninD : Op2S X (oInD not) (rNotInD X.K) := by
  intro Wx hid μ st σ H Q w u x y k rx ry P
  unfold oInD at P
  split at P
  · rename_i d ds h1 h2
    split at P
    · rename_i h
      rw [Bool.and_eq_true] at h
      exact ⟨d, ds, pdT_at k h1 rx, pdT_at k h2 ry, h.1, h.2, P μ H _ k .refl rep_bl⟩
    · exact P.elim
  · exact P.elim
end
end SL

/-! # {x: y, u: v}: a new dict that lives, of four written texts -/
namespace SL
open PySem PySem.Spec PyProof.Rows L2
def eDctSS (x y u v : Str) : Sem := fun _ st => .ok (.cell st.length) (st ++ [.dct [.str x, .str u] [.str y, .str v]])
section
variable {X : Cx} {Wx : Wish}
theorem ev_dctSS {x y u v : Str} {n1 n2 n3 n4 : Nat} {p1 p2 p3 p4 pos : Pos} (hne : x ≠ u) : EV X Wx (.Dict [some (.Constant (.str x) n1 p1), some (.Constant (.str u) n3 p3)] [.Constant (.str y) n2 p2, .Constant (.str v) n4 p4] pos) (eDctSS x y u v) :=
  PEm (pe_disp (pps_cons pe_str pe_str (pps_cons pe_str pe_str pps_nil)) rfl rfl (by simp) (by simp)) fun σ H Q ⟨μ, st, hid, fr, S, P⟩ => by
    intro p hp
    refine ⟨upd_same, [(.inr x, .str y), (.inr u, .str v)], rfl, by simp, ?_⟩
    have m : mergeK [] [(.inr x, V.str y), (.inr u, V.str v)] = [(.inr x, V.str y), (.inr u, V.str v)] := by
      have : ¬ (Sum.inr x : Key) = .inr u := fun z => hne (Sum.inr.inj z)
      unfold mergeK
      simp [putK, this]
    have e : upd (upd H p (.dK [])) p (.dK (mergeK [] [(.inr x, V.str y), (.inr u, V.str v)])) = upd H p (.dK [(.inr x, .str y), (.inr u, .str v)]) := by
      rw [m]
      funext b
      by_cases z : b = p
      · subst z; rw [upd_same, upd_same]
      · rw [upd_ne z, upd_ne z, upd_ne z]
    rw [e]
    obtain ⟨k2, g2⟩ := S.sto.newCell (c := .dct [.str x, .str u] [.str y, .str v]) (o := .dK [(.inr x, .str y), (.inr u, .str v)]) hp rfl ⟨[.str y, .str v], ⟨false, .inl [.inr x, .inr u], rfl, rfl, upd_same⟩, .cons (by unfold Rep; rfl) (.cons (by unfold Rep; rfl) .nil)⟩
    refine P _ _ _ k2 g2 ?_
    unfold Rep
    exact ⟨p, by rw [← S.sto.len]; simp, rfl⟩
end
end SL

/-! # isinstance(e, c) of a caught error that has fields -/
namespace SL
open PySem PySem.Spec PyProof.Rows L2
/-- what isinstance says of an error of the class told, by a table -/
structure IxOk (K : PySem.W.Frag) (mg : Str → Option Value) (T : ExT) : Prop where
  ok : ∀ c c' b, T c c' = some b → ∀ D C, mg c = some (.ref D) → mg c' = some (.ref C) → ExcC K D ∧ PySem.W.kitOne K (.ref D) (.ref C) = some b
theorem kit_is {K : PySem.W.Frag} {D C : Addr} {b : Bool} (hd : PySem.W.hasDictIn K C = true) (hy : PySem.W.typeIn K (.ref C) = some (.type "type")) (h : PySem.W.subIn K (.ref D) (.ref C) = some b) (hs : PySem.W.subIn K (.ref C) (.ref C) = some true) : PySem.W.kitOne K (.ref D) (.ref C) = some b := by
  by_cases e : D = C
  · subst e
    rw [h] at hs
    cases hs
    exact kit_self
  · obtain ⟨cd, hcd, _⟩ := PySem.W.any_some hd
    have e1 : ((PySem.W.clsIn K C).isSome && PySem.W.typeIn K (.ref C) == some (.type "type")) = true := by
      rw [hcd, hy]; rfl
    show (if (Value.ref D == Value.ref C) = true then some true else (if ((PySem.W.clsIn K C).isSome && PySem.W.typeIn K (.ref C) == some (.type "type")) = true then PySem.W.subIn K (.ref D) (.ref C) else none)) = some b
    rw [if_neg (fun q => e (Value.ref.inj (beq_iff_eq.mp q))), if_pos e1]
    exact h
def rIsX (K : PySem.W.Frag) (cls : Value) (d : Option Addr) (a : Addr) : List V → Hp → VK → Prop := fun xs H Q => ∃ (D C dx : Addr) (b : Bool) (fs : List (Str × V)), cls = .ref D ∧ d = some dx ∧ H dx = some (.xd fs) ∧ xs = [.ref a, .ref C] ∧ ExcC K D ∧ PySem.W.kitOne K (.ref D) (.ref C) = some b ∧ Q (.bl b) H
theorem call_isX {X : Cx} {a : Addr} {oe : Obj} {cls : Value} {d : Option Addr} {pn : List (Addr × Obj)} (hz : Zc cls d oe) (hf : ∃ vs, oe.data = .fields vs) : CallR (X.suite a ((a, oe) :: pn)) (.builtin "isinstance") (rIsX X.K cls d a) := by
  intro pins s σ H xs us Q I r h; obtain ⟨D, C, dx, b, fs, rfl, rfl, hdx, rfl, E, e, q⟩ := h
  cases r with
  | cons rx rr =>
    cases rr with
    | cons rt rr =>
      cases rr
      cases rx
      cases rt
      obtain ⟨ha, _⟩ := I.pin (a, oe) (List.mem_append.mpr (.inl List.mem_cons_self))
      obtain ⟨vs, hv⟩ := hf
      have hx : ObjOk X.prog X.w H s.heap dx (.xd fs) := I.hok dx _ hdx
      obtain ⟨mA, hns, _⟩ := hx
      obtain ⟨od, ho, _⟩ := lookIn_ns hns
      have J : PySem.W.InstAt s.heap a oe D (some od) := ⟨ha, hz.1, by unfold PySem.W.notCls; rw [hv] <;> rfl, by rw [hz.2]; exact ho⟩
      obtain ⟨cd, hcd, _⟩ := PySem.W.any_some E.hd
      exact PySem.W.kia_one (PySem.W.kitx_exc (by rw [hcd]; rfl) E.hg E.hk E.hs E.ha E.hn E.ht E.hm) I.kIn J e (fun z => nomatch z) fun tk => ⟨.bl b, H, I.kept (t' := tk) fun _ _ z => z, rfl, q⟩
def eIsX (T : ExT) (x : Exc) (c : Str) : Sem := fun _ st => match x.ns with
  | [] => .bad
  | _ :: _ => match T x.c c with
    | some b => .ok (.bl b) st
    | none => .bad
section
variable {X : Cx} {Wx : Wish}
theorem ev_isX {T : ExT} {a : Addr} {oe : Obj} {cls : Value} {d : Option Addr} {pn : List (Addr × Obj)} {C : Addr} {x : Exc} {c nm f : Str} {i : Nat} {p p1 p2 pos : Pos} (hT : IxOk X.K X.mg T) (hm : X.mg c = some (.ref C)) (hb : X.mg f = none) (hz : Zc cls d oe) (hf : ∃ vs, oe.data = .fields vs)
    (hN : X.N[i]? = some nm) (hv : Vis X.env.scope nm) (hbv : bootBuiltins f = some (.builtin "isinstance") := by decide +kernel) (hg : Gl X f := by rfl) (hgc : Gl X c := by rfl) (hd : (nm == ("__debug__" : Str)) = false := by decide) (hcd : (nm == ("__classdict__" : Str)) = false := by decide)
    (hfn : f ≠ "__name__" := by decide) (hfd : (f == ("__debug__" : Str)) = false := by decide) (hcg : (c == ("__debug__" : Str)) = false := by decide) (he : starEach [Expr.Name nm p1, Expr.Name c p2] X.env = (false, eval (.Name nm p1) X.env) :: starEach [Expr.Name c p2] X.env := by rfl)
    (he2 : starEach [Expr.Name c p2] X.env = (false, eval (.Name c p2) X.env) :: starEach [] X.env := by rfl)
    (hpl : (backTo pos (starEach [Expr.Name c p2] X.env)).any (·.1) = false := by rfl) :
    EV (X.suite a ((a, oe) :: pn)) (Wx.suite X.K X.mg (some i) x a cls d) (.Call (.Name f p) [.Name nm p1, .Name c p2] [] pos) (eIsX T x c) :=
  PEm (pe_callB (X := X.suite a ((a, oe) :: pn)) (call_isX hz hf) hg hb hbv (pa_cons (pe_var (X := X.suite a ((a, oe) :: pn)) (i := i) hN hv hd hcd) (pa_cons (pe_glob (X := X.suite a ((a, oe) :: pn)) (v := .ref C) hgc hm rfl hcg) pa_nil he2) he) hfn hfd he hpl) fun σ H Q ⟨μ, st, hid, fr, S, P⟩ => by
    obtain ⟨_, ⟨C', h1, h2, h3⟩, h4⟩ := S.ex
    refine ⟨.ref a, h4 i rfl, ?_⟩
    show rIsX X.K cls d a [.ref a, .ref C] H Q
    unfold eIsX at P
    split at P
    · exact P.elim
    · rename_i n ns hns
      split at P
      · rename_i b hb'
        obtain ⟨g1, g2⟩ := hT.ok _ _ _ hb' _ _ h1 hm
        rcases h3 with h3 | ⟨dx, vs, h3, h4, h5, h6⟩
        · rw [hns] at h3; cases h3
        · exact ⟨C', C, dx, b, _, h2, h3, (Fz.sub h5).1, rfl, g1, g2, P μ H _ S.sto .refl rep_bl⟩
      · exact P.elim
end
end SL

/-! # dicts with tuples as keys: len(d), list(d.values()) -/
namespace SLd
open PySem PySem.Spec PyProof.Rows L2
section
variable {X : Cx} {e : Expr} {te : TE} {p apos cpos pos : Pos}
theorem call_lenT : CallR X (.builtin "len") (fun xs H Q => ∃ (d : Addr) (kvs : List (List Key × V)), xs = [.ref d] ∧ Rd H d (.dT kvs) ∧ Q (.int ((kvs.length : Nat) : Int)) H) := by
  intro pn s σ H xs us Q J r h; obtain ⟨d, kvs, rfl, hp, q⟩ := h
  obtain ⟨u, rfl, ru⟩ := vals1 r; obtain rfl : u = .ref d := ru
  obtain ⟨z, hd, ys, rel, dd⟩ := dt_rd J.hok hp
  have hl : kvs.length = ys.length := Paired.length rel; refine call_len_dictH hd dd (by rw [← hl]; rw [sizeLine_eq] at z; omega) ?_
  rw [← hl]
  exact ⟨.int ((kvs.length : Nat) : Int), H, J.tok _, ⟨_, rfl⟩, q⟩
theorem kt_get {H : Hp} : ∀ {kvs : List (List Key × V)} {xs : List (List Key × Addr × Value)}, KT H kvs xs → ∀ {i : Nat} {k : List Key} {v : V}, kvs[i]? = some (k, v) → ∃ b u, xs[i]? = some (k, b, u) ∧ RelV v u := by
  intro kvs xs h
  induction h with
  | nil => intro i k v e; simp at e
  | @cons a b l m hab t ih =>
    intro i k v e
    cases i with
    | zero =>
      have e : a = (k, v) := by simpa using e
      subst e
      obtain ⟨h1, h2, h3⟩ := hab
      refine ⟨b.2.1, b.2.2, ?_, h3⟩
      obtain ⟨b1, b2, b3⟩ := b
      have h1 : k = b1 := h1
      subst h1
      rfl
    | succ i => exact ih (by simpa using e)
def tListValsT (te : TE) : TE := fun σ H Q => te σ H fun x H1 => ∃ (d : Addr) (kvs : List (List Key × V)), x = .ref d ∧ Rd H1 d (.dT kvs) ∧ ∀ p, H1 p = none → Q (.ref p) (upd H1 p (.lst (kvs.map (·.2))))
theorem pe_listValsT (hc : X.calm = true) (he : PE X e te) (hg : Gl X "list") (hm : X.mg "list" = none) (hv : bootBuiltins "list" = some (.type "list")) (hbase : attributeBase e "values" X.env (eval e X.env) = eval e X.env := by rfl) (hline : (apos.endLine == cpos.line) = true := by rfl)
    (hs : starEach [.Call (.Attribute e "values" apos) [] [] cpos] X.env = (false, eval (.Call (.Attribute e "values" apos) [] [] cpos) X.env) :: starEach [] X.env := by rfl) :
    PE X (.Call (.Name "list" p) [.Call (.Attribute e "values" apos) [] [] cpos] [] pos) (tListValsT te) := by
  refine ⟨fun pn s σ H Q J post => ?_⟩; refine wpAny_Call_Name_kw (ld_blt J hg hm hv ?_)
  refine PyProof.Rows.callWith_type1 ?_ hs rfl; rw [hs]
  show wpAny _ _ (spliced ((false, eval (.Call (.Attribute e "values" apos) [] [] cpos) X.env) :: backTo pos (starEach [] X.env))) _ _ s
  refine Calls.spliced_cons ?_
  refine wpAny_Call_method (T := "dict") (id := "dict.values") hbase rfl hline F.plainAttrs_dict F.slot_dict_values F.type_dict_values (thn (he.run pn s σ H _ J post) fun u s1 ⟨x, H1, J1, ru, d, kvs, ex, hd, q⟩ => ?_)
  subst ex
  obtain rfl : u = Value.ref d := ru; obtain ⟨hz, hs0, xs, kt, hdo⟩ := dt_rd J1.hok hd
  obtain ⟨o, es, ep, ho, hxd, hdat, hes, _, _⟩ := id hdo
  have raw : s1.heap.DictRaw d es ep := ⟨o, ho, hxd, hdat⟩
  have lk : kvs.length = es.size := by
    have l1 : kvs.length = xs.length := Paired.length kt
    have l2 := congrArg List.length hes
    rw [List.length_map, Array.length_toList] at l2
    omega
  have J2 : Inv X pn σ H1 { s1 with heap := s1.heap.push { cls := .type "dict_values", data := .fields #[.ref d] } } := J1.kept (t' := s1.toks) fun b ob q => Heap.get?_push_of_some _ q; refine ⟨raw.typeIs, fun b eb => by cases eb; exact ⟨o, ho, hxd.2.1⟩, ?_⟩
  show wpAny _ _ (callWith cpos (.builtin "dict.values") [.ref d] [] []) _ X.xe s1; refine method_meetsIn F.slot_dict_values F.entry_dict_values rfl (PySem.evalArgs_none ⟨rfl, raw.typeIs, F.args_dict_values_1 _, _, meets_dict_values_raw d hs0, ⟨⟨es, ep, raw⟩, ?_⟩⟩)
  refine Calls.spliced_nil ?_
  refine PySem.W.kdl_call (PySem.KdlSrc.rawValues (r := s1.heap.objs.size) (d := d) (es := es) (ep := ep)) (J1.ok.hd hc) ⟨⟨_, Heap.get?_push_size _ rfl, rfl, rfl⟩, raw.push _⟩ (by omega) fun h' tk acc' c' hkeep hS hacc => ?_
  refine ⟨.ref _, upd H1 _ (.lst (kvs.map (·.2))), J2.laid hkeep (Nat.le_refl _) (show ObjOk X.prog X.w _ _ _ (.lst (kvs.map (·.2))) from ⟨?_, acc'.toList, c', ?_, ?_⟩), rfl, q _ (J2.hok.fresh (Nat.le_refl _))⟩
  · rw [List.length_map]; exact hz
  · have el : acc'.toList.length = acc'.size := by simp
    refine vals_of_at (by rw [List.length_map, el, hacc.1, lk]) fun j x w h1 h2 => ?_
    obtain ⟨hj, hky⟩ := hacc.2 j w (by rw [← Array.getElem?_toList]; exact h2)
    rw [List.getElem?_map] at h1
    obtain ⟨⟨kk, vv⟩, h3, rfl⟩ := Option.map_eq_some_iff.mp h1
    obtain ⟨b, u, hu, ru⟩ := kt_get kt h3
    have e1 : es.toList[j]? = some (entryOfKey (tupleKind (mixKind X.prog X.w)) (kk, b, u)) := by rw [hes, List.getElem?_map, hu]; rfl
    rw [Array.getElem?_toList, Array.getElem?_eq_getElem hj] at e1
    have e2 := Option.some.inj e1
    rw [hky, e2]
    exact ru
  · rw [Array.toArray_toList]; exact hS
end
end SLd
namespace SL
open PySem PySem.Spec PyProof.Rows L2
def oTLen : OpN := fun ws st => match ws with
  | [x] => match dctT st x with
    | some (kk, _) => .ok (.int kk.length) st
    | none => .bad
  | _ => .bad
def eListVT (f : Sem) : Sem := fun fr st => (f fr st).bind fun x st1 => match dctT st1 x with
  | some (_, us) => .ok (.lst us) st1
  | none => .bad
section
variable {X : Cx} {Wx : Wish}
theorem os_tlen : OpNS X oTLen (fun xs H Q => ∃ (d : Addr) (kvs : List (List Key × V)), xs = [.ref d] ∧ Rd H d (.dT kvs) ∧ Q (.int ((kvs.length : Nat) : Int)) H) := by
  intro Wx hid μ st σ H Q ws vs k r P
  unfold oTLen at P
  split at P
  · rename_i x
    obtain ⟨v, rfl, r1⟩ := reps1 (ws := []) r
    split at P
    · rename_i kk us e
      obtain ⟨a, xs, rfl, h1, h2, h3⟩ := dctT_at k e r1
      have hl : (kk.zip xs).length = kk.length := by rw [List.length_zip]; omega
      exact ⟨a, _, rfl, h2, by rw [hl]; exact P μ H _ k .refl rep_int⟩
    · exact P.elim
  · exact P.elim
theorem ev_listVT {e : Expr} {f : Sem} {p apos cpos pos : Pos} (hc : X.calm = true) (hm : X.mg "list" = none) (he : EV X Wx e f) (hg : Gl X "list" := by rfl) (hv : bootBuiltins "list" = some (.type "list") := by decide +kernel) (hbase : attributeBase e "values" X.env (eval e X.env) = eval e X.env := by rfl) (hline : (apos.endLine == cpos.line) = true := by rfl)
    (hs : starEach [.Call (.Attribute e "values" apos) [] [] cpos] X.env = (false, eval (.Call (.Attribute e "values" apos) [] [] cpos) X.env) :: starEach [] X.env := by rfl) :
    EV X Wx (.Call (.Name "list" p) [.Call (.Attribute e "values" apos) [] [] cpos] [] pos) (eListVT f) :=
  PEm (SLd.pe_listValsT hc he hg hm hv hbase hline hs) fun σ H Q ⟨μ, st, hid, fr, S, P⟩ => by
    unfold SLd.tListValsT
    refine ⟨μ, st, hid, fr, S, ?_⟩
    unfold eListVT at P
    cases h : f fr st with
    | bad => rw [h] at P; exact P
    | err x s => rw [h] at P; exact P
    | ok w st1 =>
      rw [h, Out.bind_ok] at P
      intro μ1 H1 v k1 g1 r1
      have P1 := EPost.from g1 P
      split at P1
      · rename_i kk us e
        obtain ⟨a, vs, rfl, h1, h2, h3⟩ := dctT_at k1 e r1
        refine ⟨a, kk.zip vs, rfl, h2, fun q post => ?_⟩
        refine ok_new P1 k1 post fun F l e => rep_lst e ?_
        rw [zip_snd kk vs h1]
        exact h3.mono l (.refl _)
      · exact P1.elim
end
end SL

/-! # sorted(d) of a dict whose keys are all ints -/
namespace SLd
open PySem PySem.Spec PyProof.Rows L2
section
variable {X : Cx}
def rSortDI : List V → Hp → VK → Prop := fun ys H Q => ∃ (a : Addr) (kvs : List (Key × V)) (ns : List Int), ys = [.ref a] ∧ Rd H a (.dK kvs) ∧ kvs.map (·.1) = ns.map Sum.inl ∧ ∀ (ms : List Int) (p : Addr), ms.Perm ns → ms.Pairwise (· ≤ ·) → H p = none → Q (.ref p) (upd H p (.lst (ms.map V.int)))
theorem call_sortedDI (hc : X.calm = true) : CallR X (.builtin "sorted") rSortDI := by
  intro pn s σ H ys us Q J r h
  obtain ⟨a, kvs, ns, rfl, hd, hk, q⟩ := h
  obtain ⟨u, rfl, ru⟩ := vals1 r; cases ru
  obtain ⟨hz, lo, vs, kv, dd⟩ := dk_rd J.hok hd
  obtain ⟨ep, hat⟩ := dd.dictAt
  have ek : vs.map (·.1) = ns.map Sum.inl := kv.keys.symm.trans hk
  have hn : vs.length ≤ sizeLine := by rw [← (Paired.length kv : kvs.length = vs.length)]; exact hz
  refine Calls.call_function_entry kind_sorted plain_sorted entry_sorted (args_sorted1 _) ?_; unfold Builtin.«sorted»
  refine wpAny_bind (m := checkCount "sorted" 1 1 _) (wpAny_pure (wpAny_bind ?_))
  refine PySem.W.kdu_collect (A := X.A.in1) (PySem.W.kdl_dict (knd := mixKind X.prog X.w) (kvs := vs) (ep := ep) lo) (J.ok.hd hc) hat hn fun h' tk acc keep hacc => ?_
  have la : acc.toList.length = vs.length := by rw [Array.length_toList, hacc.1]
  have hI : IntsAre acc.toList ns := by
    have hV : Vals (vs.map fun p => kV p.1) acc.toList := keys_at (by omega) fun j v e => hacc.2 j v (by rw [← Array.getElem?_toList]; exact e)
    have e : (vs.map fun p => kV p.1) = ns.map V.int := by
      have : (vs.map fun p => kV p.1) = (vs.map (·.1)).map kV := by rw [List.map_map]; rfl
      rw [this, ek, List.map_map]; rfl
    rw [e] at hV
    exact hV.ints
  have J1 : Inv X pn σ H { s with heap := h', toks := tk } := J.kept keep
  refine wpAny_bind (wpAny_newList ?_ (by rw [la]; exact hn))
  have ho : (h'.push (seqObj "list" acc.toList.toArray 0)).get? h'.objs.size = some (seqObj "list" acc.toList.toArray 0) := Heap.get?_push_size _ rfl
  show wpAny _ _ _ _ _ { s with heap := h'.push (seqObj "list" acc.toList.toArray 0), toks := tk }; refine wpAny_bind (wpAny_holding (wpAny_call_entry slot_list_sort ⟨_, ho, rfl⟩ entry_list_sort (SrtO.list_sort_ord SrtO.swo_int ho (by rw [la]; exact hn) (fun h2 => SrtO.ints_sortable hI h2) fun out b1 b2 => ⟨_, rfl, ?_⟩) (args_list_sort _)))
  obtain ⟨k1, k2, k3⟩ := SrtO.ints_out hI b1 b2
  obtain ⟨e', he⟩ := sortedHeap_at (vs := acc.toList) (out := out.toArray) ho
  have le : ns.length = vs.length := by
    have := congrArg List.length ek
    rw [List.length_map, List.length_map] at this
    exact this.symm
  have lo : ((out.map SrtO.iv).map V.int).length ≤ sizeLine := by
    rw [List.length_map, k2.length_eq, le]; exact hn
  refine wpAny_pure ⟨_, rfl, .ref h'.objs.size, upd H h'.objs.size (.lst ((out.map SrtO.iv).map V.int)), J1.laid (t' := tk) (fun b u e => ?_) (Nat.le_refl _) (show ObjOk X.prog X.w _ _ _ (.lst ((out.map SrtO.iv).map V.int)) from ⟨lo, out, e', vals_of_ints k1, he⟩), rfl, q _ _ k2 k3 (J1.hok.fresh (Nat.le_refl _))⟩
  have lt : b < h'.objs.size := Heap.lt_size e
  rw [sortedHeap_old (Nat.ne_of_lt lt) (by rw [size_push']; exact Nat.lt_succ_of_lt lt)]
  exact Heap.get?_push_of_some _ e
end
end SLd
namespace SL
open PySem PySem.Spec PyProof.Rows L2
/-- all keys are ints -/
def intKs : List Key → Option (List Int)
  | [] => some []
  | .inl x :: r => (intKs r).map (x :: ·)
  | _ => none
theorem intKs_eq : ∀ {kk : List Key} {xs : List Int}, intKs kk = some xs → kk = xs.map Sum.inl
  | [], xs, h => by unfold intKs at h; cases h; rfl
  | .inl x :: r, xs, h => by
    unfold intKs at h
    cases e : intKs r with
    | none => rw [e] at h; cases h
    | some ys => rw [e] at h; cases h; rw [List.map_cons, ← intKs_eq e]
  | .inr _ :: _, _, h => by unfold intKs at h; cases h
noncomputable def oSortDI : OpN := fun ws st => match ws with
  | [x] => match dctW st x with
    | some (kk, _) => match intKs kk with
      | some xs => .ok (.lst ((sortI xs).map .int)) st
      | none => .bad
    | none => .bad
  | _ => .bad
theorem os_sortDI {X : Cx} : OpNS X oSortDI SLd.rSortDI := by
  intro Wx hid μ st σ H Q ws vs k r P
  unfold oSortDI at P
  split at P
  · rename_i x
    obtain ⟨v, rfl, r1⟩ := reps1 (ws := []) r
    split at P
    · rename_i kk us e
      split at P
      · rename_i xs ex
        obtain ⟨a, vs, rfl, h1, h2, h3⟩ := dctW_at k e r1
        refine ⟨a, kk.zip vs, xs, rfl, h2, by rw [zip_fst kk vs h1]; exact intKs_eq ex, fun ys p pm sr hp => ?_⟩
        rw [sortI_of pm sr]
        exact ok_new P k hp fun F l e => rep_lst e (ro_reps _)
      · exact P.elim
    · exact P.elim
  · exact P.elim
end SL

/-! # dict comprehensions whose keys are tuples -/
namespace SLd
open PySem PySem.Spec PyProof.Rows L2
theorem setT_any {X : Cx} {pins : List (Addr × Obj)} {σ : L2.St} {H : Hp} {s : Shared} {E : Value → Shared → Prop} {D b : Addr} {kvs : List (List Key × V)} {k : List Key} {v : V} {r : Value} {Q : Unit → Shared → Prop} (hu : X.A.units < cLine) (I : Inv X pins σ H s) (hD : H D = some (.dT kvs)) (hz : kvs.length < sizeLine)
    (eb : H b = some (.tup (k.map kV))) (rv : RelV v r) (h : ∀ s', Inv X pins σ (upd H D (.dT (putK kvs k v))) s' → Q () s') : wpAny (model X.prog X.w) X.A (dictSet D (.ref b) r) Q E s := by
  obtain ⟨cap, nsys, xs, rel, stands⟩ := dt_of I.hok hD
  have capx : xs.length ≤ sizeLine := by
    rw [← Paired.length rel]; exact cap
  have capn : (putK kvs k v).length ≤ sizeLine := Nat.le_trans (length_putK kvs k v) (Nat.succ_le_of_lt hz)
  refine wpAny_dictSet_heap (hsz := capx) (knd := tupleKind (mixKind X.prog X.w)) hu (key_of I.hok eb) stands ?_
  rintro h' now same
  refine h _ ?_
  obtain ⟨ob, es, ep, there, c1, c2, c3, _, c5⟩ := now
  have kept : ∀ (c : Addr) (ys : List V), H c = some (.tup ys) → (upd H D (.dT (putK kvs k v))) c = some (.tup ys) := fun c ys ec => by
    rw [upd_ne (ne_of ec hD fun z => nomatch z)]; exact ec
  exact d_write I (by rw [hD]; exact True.intro) same ⟨ob, there⟩ ⟨capn, nsys, _, (rel.put k eb rv).keeps kept, ob, es, ep, there, c1, c2, c3, c5⟩
section
variable {X : Cx}
def tDcT (wi : TI) (g : TG) (tt : TT) (tk tv : TE) (vs : List Nat) : TE := fun σ H Q => wi σ H fun J H1 => ∀ D, H1 D = none → ∃ W : Nat → Nat → Hp → Prop, (∃ m, W 0 m (upd H1 D (.dT []))) ∧ ∀ n m G, W n m G →
  (J.stop n G ∧ Q (.ref D) G) ∨ (J.go n G ∧ ∃ Nx : Hp → Prop, (∀ Z, Nx Z → ∃ m', m' < m ∧ W (n + 1) m' Z) ∧ ∀ x Z, J.yld n G x Z → g x (wipe σ vs) Z fun τ Z2 => wipe τ vs = wipe σ vs ∧ tt τ Z2 fun b Z3 =>
    if b = true then tk τ Z3 fun y Z4 => tv τ Z4 fun z Z5 => ∃ kvs k p, y = .ref p ∧ Z5 p = some (.tup (k.map kV)) ∧ Z5 D = some (.dT kvs) ∧ kvs.length < sizeLine ∧ Nx (upd Z5 D (.dT (putK kvs k z))) else Nx Z3)
/-- {k: v for t in it if ..} with tuple keys; use: what is done with the finished dict -/
theorem dcT_core {pins : List (Addr × Obj)} {sh : Shared} {σ : L2.St} {Ha : Hp} {Q : VK} {kx vx tg iter : Expr} {ifs : List Expr} {scope : Scope} {own : List (Str × Nat)} {pos pos' : Pos} {wi : TI} {g : TG} {tt : TT} {tk tv : TE} {use : Option (Value → Sem Unit)} {Qf : Value → Shared → Prop} (inv : Inv X pins σ Ha sh) (hu : X.A.units < cLine) (hc : X.calm = true) (hN : X.N.Nodup) (hi : PI X tg iter wi) (ok : BlkOk X.N X.env.scope scope own)
    (hg : ∀ (q : Shared) (G : Hp) (C : Addr) (cl : List (Str × Addr)) (fp : List Addr), PG (X.blk q G scope (compEnvC scope cl C X.env) fp) tg g) (ht : ∀ (q : Shared) (G : Hp) (C : Addr) (cl : List (Str × Addr)) (fp : List Addr), PTs (X.blk q G scope (compEnvC scope cl C X.env) fp) ifs tt)
    (hk : ∀ (q : Shared) (G : Hp) (C : Addr) (cl : List (Str × Addr)) (fp : List Addr), PE (X.blk q G scope (compEnvC scope cl C X.env) fp) kx tk)
    (hv : ∀ (q : Shared) (G : Hp) (C : Addr) (cl : List (Str × Addr)) (fp : List Addr), PE (X.blk q G scope (compEnvC scope cl C X.env) fp) vx tv) (hs : ∀ x, foldedSetIterable iter X.env x = pure x)
    (want : tDcT wi g tt tk tv (own.map (·.2)) σ Ha Q) (last : ∀ D C sz mm Hz, Inv X pins σ Hz sz → Q (.ref D) Hz → sz.heap.Ns C mm → FpOk X pins Hz C → compPost (model X.prog X.w) X.A X.xe use Qf (.ref D) C (.ok .next) sz) :
    wpAny (model X.prog X.w) X.A (comprehension (.DictComp kx vx [⟨tg, iter, ifs, 0⟩] scope pos) scope X.env pos' newDict false (eval iter X.env) use) Qf X.xe sh := by
  have there : ∀ nm ∈ scope.names, nm.2 = NameKind.free → ∃ c, X.env.cells.lookup nm.1 = some c := by
    intro nm hin hfr
    cases ok.free nm hin hfr with
    | inl z => exact inv.ok.has _ (Or.inl z)
    | inr z => exact inv.ok.has _ (Or.inr z)
  refine wpAny_comprehension_free rfl hs (closure_ok there) ok.kind (fun nm hin hfr => (ok.uniq nm hin).trans (by rw [hfr])) ?_
  refine thn (hi.run pins sh σ Ha _ inv want) ?_
  intro src sa got
  refine thn got ?_
  intro itv sb got2
  obtain ⟨it, fp, tn, J, Hb, eit, invb, turns, stb, fpb, rest⟩ := got2
  subst eit; refine wpAny_newObj_type (newEnv_comp ?_)
  have fresh : Hb sb.heap.objs.size = none := invb.hok.fresh (Nat.le_refl _)
  obtain ⟨W, ⟨m0, w0⟩, steps⟩ := rest _ fresh
  revert w0 steps fresh
  generalize eD : sb.heap.objs.size = D
  intro fresh steps w0
  -- the empty dict is laid
  obtain ⟨sc, esc⟩ : ∃ sc : Shared, sc = { sb with heap := sb.heap.push { cls := .type "dict", data := .dict #[] } } := ⟨_, rfl⟩
  have invc : Inv X pins σ (upd Hb D (.dT [])) sc := by
    have base := invb.laid (a := sb.heap.objs.size) (o := .dT []) (h' := sb.heap.push { cls := .type "dict", data := .dict #[] }) (t' := sb.toks) (fun _ _ z => Heap.get?_push_of_some _ z) (Nat.le_refl _) (dt_empty sb.heap invb.big)
    rw [esc, ← eD]; exact base
  have heapc : sc.heap = sb.heap.push { cls := .type "dict", data := .dict #[] } := by rw [esc]
  have grew : sb.heap.objs.size < sc.heap.objs.size := by rw [heapc, Heap.size_push]; exact Nat.lt_succ_self _
  have small : ∀ b ∈ fp, b < sb.heap.objs.size := fun b hb => by
    obtain ⟨ob, eob, _⟩ := turns.obj _ _ stb b hb
    exact Heap.lt_size eob
  have fpc : ∀ b ∈ fp, FpOk X pins (upd Hb D (.dT [])) b ∧ b < sc.heap.objs.size := fun b hb => by
    have hlt := small b hb
    have ne : b ≠ D := by rw [← eD]; exact Nat.ne_of_lt hlt
    exact ⟨⟨by rw [upd_ne ne]; exact (fpb b hb).1, (fpb b hb).2⟩, Nat.lt_trans hlt grew⟩
  have stc : tn 0 sc.heap := turns.keep _ _ _ stb fun b _ ob z => by rw [heapc]; exact Heap.get?_push_of_some _ z
  have invd := block_start invc ok hN fpc
  have G1 := hg sc (upd Hb D (.dT [])) sc.heap.objs.size (cellsFrom (sc.heap.objs.size + 1) scope.names (cloFrom X.env.cells scope.names [])) fp
  have T1 := ht sc (upd Hb D (.dT [])) sc.heap.objs.size (cellsFrom (sc.heap.objs.size + 1) scope.names (cloFrom X.env.cells scope.names [])) fp
  have K1 := hk sc (upd Hb D (.dT [])) sc.heap.objs.size (cellsFrom (sc.heap.objs.size + 1) scope.names (cloFrom X.env.cells scope.names [])) fp
  have V1 := hv sc (upd Hb D (.dT [])) sc.heap.objs.size (cellsFrom (sc.heap.objs.size + 1) scope.names (cloFrom X.env.cells scope.names [])) fp
  have aim : codeAny (model X.prog X.w) X.A (.compStart (.DictComp kx vx [⟨tg, iter, ifs, 0⟩] scope pos) 0 (.ref it) (.ref D) (compEnvC scope (cellsFrom (sc.heap.objs.size + 1) scope.names (cloFrom X.env.cells scope.names [])) sc.heap.objs.size X.env)) (compPost (model X.prog X.w) X.A X.xe use Qf (.ref D) sc.heap.objs.size) { sc with heap := pushCells (sc.heap.push { cls := .type "dict", data := .dict #[] }) scope.names } := by
    have none_fp : ∀ b ∈ fp, (upd Hb D (.dT [])) b = none := fun b hb => (fpc b hb).1.1
    revert G1 T1 K1 V1 invd
    generalize ece : compEnvC scope (cellsFrom (sc.heap.objs.size + 1) scope.names (cloFrom X.env.cells scope.names [])) sc.heap.objs.size X.env = ce
    have loc : ce.locals = sc.heap.objs.size := by rw [← ece]; rfl
    revert invc w0 none_fp fpc
    generalize upd Hb D (.dT []) = Hc
    intro w0 invc fpc none_fp invd G1 T1 K1 V1
    obtain ⟨sd, esd⟩ : ∃ sd : Shared, sd = { sc with heap := pushCells (sc.heap.push { cls := .type "dict", data := .dict #[] }) scope.names } := ⟨_, rfl⟩
    rw [← esd] at invd ⊢
    have std : tn 0 sd.heap := turns.keep _ _ _ stc fun b _ ob z => by rw [esd]; exact pushCells_keeps _ _ _ _ (Heap.get?_push_of_some _ z)
    -- what stays within the block
    have quiet : ∀ {τ : L2.St} {Hx : Hp} {sx : Shared}, Inv (X.blk sc Hc scope ce fp) [] τ Hx sx → (∀ b ∈ fp, Hx b = none) → ∀ b ∈ fp, FpOk (X.blk sc Hc scope ce fp) [] Hx b := by
      intro τ Hx sx iv nn b hb
      exact ⟨nn b hb, (iv.ok.exf b hb).1, iv.ok.exfs b hb, Or.inl hb, fun x c z => (iv.ok.exf b hb).2 x c z, fun p hp => (List.not_mem_nil (show p ∈ ([] : List (Addr × Obj)) from hp)).elim⟩
    have loop : codeAny (model X.prog X.w) X.A (.compLoop (.DictComp kx vx [⟨tg, iter, ifs, 0⟩] scope pos) 0 (.ref it) (.ref D) ce) (compPost (model X.prog X.w) X.A X.xe use Qf (.ref D) sc.heap.objs.size) sd := by
      refine compLoop_anyD (fun n sx => ∃ i Hx, Inv (X.blk sc Hc scope ce fp) [] (wipe σ (own.map (·.2))) Hx sx ∧ tn i sx.heap ∧ (∀ b ∈ fp, Hx b = none) ∧ W i n Hx) ?_ m0 ⟨0, Hc, invd, std, none_fp, w0⟩
      rintro n se ⟨i, He, ive, ste, ne, we⟩
      cases steps i n He we with
      | inl over =>
        obtain ⟨stop, qq⟩ := over
        refine thnF (turns.done (X.blk sc Hc scope ce fp) rfl rfl rfl hc i [] se _ He (fun _ _ => False) ive (quiet ive ne) ste stop) ?_
        rintro r sf ⟨hr, ivf⟩
        subst hr
        have back : Inv X pins σ He sf := invc.call' (ch := fp) ivf.os ivf.base ivf.hok ivf.bare fun b hb => ⟨(fpc b hb).1.2.2.2.1, (fpc b hb).1.2.1, (fpc b hb).1.2.2.2.2.1, (fpc b hb).1.2.2.2.2.2⟩
        have gone : He sc.heap.objs.size = none := by rw [← loc]; exact ivf.free
        obtain ⟨mm, hmm, _⟩ := ivf.loc
        have hmm' : sf.heap.Ns sc.heap.objs.size mm := by rw [← loc]; exact hmm
        exact last D sc.heap.objs.size sf mm He back qq hmm' (invc.fpOk (Nat.le_refl _) gone)
      | inr more =>
        obtain ⟨go, Nx, nx, step⟩ := more
        refine thnF (turns.item (X.blk sc Hc scope ce fp) rfl rfl rfl hc i [] se _ He (fun _ _ => False) ive (quiet ive ne) ste go) ?_
        rintro r sf ⟨u, hr, hf⟩
        subst hr
        refine thnF hf ?_
        rintro _ sg ⟨x, Hg, ivg, rg, yg, stg, ng⟩
        have ivp := ivg.pinned (quiet ivg ng) (turns.obj _ _ stg)
        refine thnF (G1.run _ sg _ Hg x u _ ivp rg (step x Hg yg)) ?_
        rintro _ si ⟨τ, Hi, ivi, same, qi⟩
        refine thnF (T1.run _ si τ Hi _ ivi qi) ?_
        rintro yes sj ⟨Hj, ivj, qj⟩
        have close : ∀ {sx : Shared} {Hx : Hp}, Inv (X.blk sc Hc scope ce fp) ([] ++ pinsAt fp sg.heap) τ Hx sx → Nx Hx → ∃ m, m < n ∧ ∃ i Hx, Inv (X.blk sc Hc scope ce fp) [] (wipe σ (own.map (·.2))) Hx sx ∧ tn i sx.heap ∧ (∀ b ∈ fp, Hx b = none) ∧ W i m Hx := by
          intro sx Hx ivx nxx
          obtain ⟨m', hm, w'⟩ := nx Hx nxx
          have held : ∀ b ∈ fp, ∀ ob, sg.heap.get? b = some ob → sx.heap.get? b = some ob ∧ Hx b = none := fun b hb ob z => by
            have pn := ivx.pin (b, ob) (List.mem_append_right _ (List.mem_append_right _ (mem_pinsAt hb z)))
            exact ⟨pn.1, pn.2.1⟩
          refine ⟨m', hm, i + 1, Hx, (ivx.unpinned (pins := [])).weak (by rw [← same, wipe_length]) (fun j v z => (wipe_some (by rw [same]; exact z)).1), turns.keep _ _ _ stg fun b hb ob z => (held b hb ob z).1, fun b hb => ?_, w'⟩
          obtain ⟨ob, z, _⟩ := turns.obj _ _ stg b hb
          exact (held b hb ob z).2
        cases yes with
        | false => exact close ivj qj
        | true =>
          refine thnF (K1.run _ sj τ Hj _ ivj qj) ?_
          rintro kv sk ⟨yk, Hk, ivk, rk, qk⟩
          refine thnF (V1.run _ sk τ Hk _ ivk qk) ?_
          rintro vv sl ⟨yv, Hl, ivl, rl, kvs, key, p, ekey, ep, hD, hz, nxl⟩
          subst ekey
          cases (show kv = Value.ref p from rk)
          exact setT_any (X := X.blk sc Hc scope ce fp) hu ivl hD hz ep rl fun sm ivm => close ivm nxl
    exact codeAny_compStart_dict loop (turns.self X.A 0 _ _ _ std loop)
  rw [esc] at aim
  exact aim
/-- as a value -/
theorem pe_dcT {kx vx tg iter : Expr} {ifs : List Expr} {scope : Scope} {own : List (Str × Nat)} {pos : Pos} {wi : TI} {g : TG} {tt : TT} {tk tv : TE} (hu : X.A.units < cLine) (hc : X.calm = true) (hN : X.N.Nodup) (hi : PI X tg iter wi) (ok : BlkOk X.N X.env.scope scope own)
    (hg : ∀ (q : Shared) (G : Hp) (C : Addr) (cl : List (Str × Addr)) (fp : List Addr), PG (X.blk q G scope (compEnvC scope cl C X.env) fp) tg g) (ht : ∀ (q : Shared) (G : Hp) (C : Addr) (cl : List (Str × Addr)) (fp : List Addr), PTs (X.blk q G scope (compEnvC scope cl C X.env) fp) ifs tt)
    (hk : ∀ (q : Shared) (G : Hp) (C : Addr) (cl : List (Str × Addr)) (fp : List Addr), PE (X.blk q G scope (compEnvC scope cl C X.env) fp) kx tk)
    (hv : ∀ (q : Shared) (G : Hp) (C : Addr) (cl : List (Str × Addr)) (fp : List Addr), PE (X.blk q G scope (compEnvC scope cl C X.env) fp) vx tv) (hs : ∀ x, foldedSetIterable iter X.env x = pure x := by intro _; rfl) :
    PE X (.DictComp kx vx [⟨tg, iter, ifs, 0⟩] scope pos) (tDcT wi g tt tk tv (own.map (·.2))) := by
  constructor
  intro pins sh σ Ha Q inv want
  rw [arm_eval_DictComp]
  refine dcT_core inv hu hc hN hi ok hg ht hk hv hs want ?_
  rintro D C sz mm Hz iz qz nz ⟨f0, f1, f2, f3, f4, f5⟩
  exact ⟨mm, nz, fun hq sq => ⟨.ref D, Hz, iz.turned (t' := sz.toks) (fun b ob hb z => (sq.2 b hb).trans z) f0 f1 f3 f4 f5, rfl, qz⟩⟩
theorem sw_trueD {kx vx : Expr} {gs : List Comprehension} {scope : Scope} {pos py : Pos} {y : Str} {l : Nat} {env : Env} (hk : env.scope.kind = .function) (hy : env.scope.names.lookup y = some .local) (hl : (py.line == pos.line) = true)
    (ha : (scope.names.any fun (n, k) => n == y && (k == .local || k == .cell)) = false) : swapsWith (.DictComp kx vx gs scope pos) (some (.Name y py)) l env = pure true := by
  have e1 : env.kindOf y = some .local := hy
  have e2 : env.blockKind = .function := by
    unfold Env.blockKind
    rw [hk]; rfl
  unfold swapsWith
  simp only [e2, e1, ha, hl, Expr.pos]
  rfl
/-- stored at once to a name of the def -/
theorem ps_setDcT {i : Nat} {y : Str} {py : Pos} {kx vx tg iter : Expr} {ifs : List Expr} {scope : Scope} {own : List (Str × Nat)} {pos spos : Pos} {wi : TI} {g : TG} {tt : TT} {tk tv : TE} (hu : X.A.units < cLine) (hc : X.calm = true) (hN : X.N.Nodup) (hy : X.N[i]? = some y) (hyl : X.env.scope.names.lookup y = some .local)
    (hsw : swapsWith (.DictComp kx vx [⟨tg, iter, ifs, 0⟩] scope pos) (some (.Name y py)) spos.line X.env = pure true) (hi : PI X tg iter wi) (ok : BlkOk X.N X.env.scope scope own)
    (hg : ∀ (q : Shared) (G : Hp) (C : Addr) (cl : List (Str × Addr)) (fp : List Addr), PG (X.blk q G scope (compEnvC scope cl C X.env) fp) tg g) (ht : ∀ (q : Shared) (G : Hp) (C : Addr) (cl : List (Str × Addr)) (fp : List Addr), PTs (X.blk q G scope (compEnvC scope cl C X.env) fp) ifs tt)
    (hk : ∀ (q : Shared) (G : Hp) (C : Addr) (cl : List (Str × Addr)) (fp : List Addr), PE (X.blk q G scope (compEnvC scope cl C X.env) fp) kx tk)
    (hv : ∀ (q : Shared) (G : Hp) (C : Addr) (cl : List (Str × Addr)) (fp : List Addr), PE (X.blk q G scope (compEnvC scope cl C X.env) fp) vx tv) (hs : ∀ x, foldedSetIterable iter X.env x = pure x := by intro _; rfl) :
    PS X (.Assign [.Name y py] (.DictComp kx vx [⟨tg, iter, ifs, 0⟩] scope pos) spos) (tAsg (tDcT wi g tt tk tv (own.map (·.2))) (gName i)) := by
  constructor
  intro pins sh σ Ha D inv want
  have want2 : tDcT wi g tt tk tv (own.map (·.2)) σ Ha (fun x H1 => gName i x σ H1 D.nx) := want
  rw [exec_Assign_Name_used (env := X.env) _ _ _ _ hsw]; refine wpAny_bind (wpAny_standAt (wpAny_bind ?_))
  show wpAny _ X.A (do let _ ← comprehension (.DictComp kx vx [⟨tg, iter, ifs, 0⟩] scope pos) scope X.env (firstIterPos [⟨tg, iter, ifs, 0⟩] pos) newDict false (eval iter X.env) (some (assign (.Name y py) X.env))) _ _ sh
  have run := dcT_core (pos := pos) (use := some (assign (.Name y py) X.env)) (pos' := firstIterPos [⟨tg, iter, ifs, 0⟩] pos) (Qf := fun _ sz => SP X pins D .next sz) inv hu hc hN hi ok hg ht hk hv hs want2 (by
    rintro L C sz mm Hz iz qz nz ⟨f0, f1, f2, f3, f4, f5⟩
    show wpAny _ _ (assign (.Name y py) X.env (Value.ref L)) _ _ _
    refine wpAny_assign_Name (store_ok2 (v := V.ref L) iz hN hy (.inl hyl) rfl ?_ (.inr hyl))
    rintro s2 i2 ⟨a, sb, ha⟩
    have apart : C ≠ a := by
      cases ha with
      | inl z => rw [z]; exact f1
      | inr z => exact fun w => f4 y a z w.symm
    exact ⟨mm, nz.sameBut sb apart, fun h3 s3 => ⟨_, Hz, i2.turned (t' := s2.toks) (fun b ob hb z => (s3.2 b hb).trans z) f0 f1 f3 f4 f5, qz⟩⟩)
  exact wpAny_bind (thn run fun _ sz hq => wpAny_pure (wpAny_pure hq))
end
end SLd
namespace SL
open PySem PySem.Spec PyProof.Rows L2
open Classical in
noncomputable def dcRun (x : W) (all : List W) (g : TgF) (t : SemB) (ek ev : Sem) (fr : Fr) : List W → Sto → Out (List (W × W))
  | [], st => if srcOk x all st then .ok [] st else .bad
  | w :: r, st => if srcOk x all st then (match g w fr st with
    | some fr1 => match t fr1 st with
      | .ok true st1 => match ek fr1 st1 with
        | .ok y st2 => match ev fr1 st2 with
          | .ok z st3 => match dcRun x all g t ek ev fr r st3 with
            | .ok ys st4 => .ok ((y, z) :: ys) st4
            | _ => .bad
          | _ => .bad
        | _ => .bad
      | .ok false st1 => dcRun x all g t ek ev fr r st1
      | _ => .bad
    | none => .bad) else .bad
/-- {k: v for .. in ..}: the keys are unlike tuples; the dict is to live -/
noncomputable def eDcT (f : SemI) (g : TgF) (own : List Nat) (t : SemB) (ek ev : Sem) : Sem := fun fr st => (f fr st).bind fun p st1 => match dcRun p.1 p.2 g t ek ev (wipeF fr own) p.2 st1 with
  | .ok ys st2 => (match mapO keyT (ys.map (·.1)) with
    | some kk => if dec kk.Nodup = true then .ok (.cell st2.length) (st2 ++ [.dct (.ty "T" :: ys.map (·.1)) (ys.map (·.2))]) else .bad
    | none => .bad)
  | _ => .bad
/-- a hidden object becomes a cell -/
theorem StOk.cellOfC {K : PySem.W.Frag} {mg : Str → Option Value} {μ : List Addr} {st : Sto} {hid : List Addr} {H : Hp} {p : Addr} {c : Cel} (k : StOk K mg μ st (p :: hid) H) (hn : p ∉ hid) (hl : c.live = true) (hc : CelOk K mg (Fz μ st (p :: hid) H) μ H p c) :
    StOk K mg (μ ++ [p]) (st ++ [c]) hid H ∧ Fz (μ ++ [p]) (st ++ [c]) hid H = Fz μ st (p :: hid) H := by
  have spl : ∀ {m : Nat} {a : Addr} {d : Cel}, (μ ++ [p])[m]? = some a → (st ++ [c])[m]? = some d → (m < st.length ∧ μ[m]? = some a ∧ st[m]? = some d) ∨ (m = st.length ∧ a = p ∧ d = c) := fun {m a d} e1 e2 => by
    by_cases z : m < st.length
    · rw [List.getElem?_append_left (by rw [k.len]; exact z)] at e1
      rw [List.getElem?_append_left z] at e2
      exact .inl ⟨z, e1, e2⟩
    · by_cases y : m = st.length
      · subst y
        rw [List.getElem?_append_right (by rw [k.len]; exact Nat.le_refl _), k.len] at e1
        rw [List.getElem?_append_right (Nat.le_refl _)] at e2
        simp at e1 e2
        exact .inr ⟨rfl, e1.symm, e2.symm⟩
      · rw [List.getElem?_append_right (by omega)] at e2
        rw [List.getElem?_eq_none (by simp; omega)] at e2; cases e2
  have lv : ∀ a, LiveA (μ ++ [p]) (st ++ [c]) hid a ↔ LiveA μ st (p :: hid) a := fun a => by
    constructor
    · rintro (h | ⟨m, d, e1, e2, e3⟩)
      · exact .inl (List.mem_cons_of_mem _ h)
      · rcases spl e1 e2 with ⟨y1, y2, y3⟩ | ⟨y1, y2, y3⟩
        · exact .inr ⟨m, d, y2, y3, e3⟩
        · subst y2; exact .inl List.mem_cons_self
    · rintro (h | ⟨m, d, e1, e2, e3⟩)
      · rcases List.mem_cons.mp h with h | h
        · subst h
          exact .inr ⟨st.length, c, by rw [List.getElem?_append_right (by rw [k.len]; exact Nat.le_refl _), k.len]; simp, by simp, hl⟩
        · exact .inl h
      · have z : m < st.length := by
          rcases Nat.lt_or_ge m st.length with q | q
          · exact q
          · rw [List.getElem?_eq_none q] at e2; cases e2
        exact .inr ⟨m, d, by rw [List.getElem?_append_left (by rw [k.len]; exact z)]; exact e1, by rw [List.getElem?_append_left z]; exact e2, e3⟩
  have e : Fz (μ ++ [p]) (st ++ [c]) hid H = Fz μ st (p :: hid) H := by
    funext a
    by_cases h : LiveA μ st (p :: hid) a
    · unfold Fz; rw [if_pos h, if_pos ((lv a).mpr h)]
    · unfold Fz; rw [if_neg h, if_neg fun y => h ((lv a).mp y)]
  have pre : Pre μ (μ ++ [p]) := ⟨[p], rfl⟩
  have np : ∀ {m : Nat} {a : Addr} {d : Cel}, μ[m]? = some a → st[m]? = some d → d.live = true → a ≠ p := fun {m a d} e1 e2 e3 z => k.hidn m a d e1 e2 e3 (z ▸ List.mem_cons_self)
  refine ⟨⟨by simp [k.len], fun i j a d d' h2 h3 h4 h4' h5 h5' => ?_, fun j a d h2 h3 h4 => ?_, fun a ha => k.hidt a (List.mem_cons_of_mem _ ha), fun j a d h2 h3 => ?_⟩, e⟩
  · rcases spl h2 h4 with ⟨y1, y2, y3⟩ | ⟨y1, y2, y3⟩ <;> rcases spl h3 h4' with ⟨z1, z2, z3⟩ | ⟨z1, z2, z3⟩
    · exact k.inj i j a d d' y2 z2 y3 z3 h5 h5'
    · exact absurd z2 (np y2 y3 h5)
    · exact absurd y2 (np z2 z3 h5')
    · omega
  · rcases spl h2 h3 with ⟨y1, y2, y3⟩ | ⟨y1, y2, y3⟩
    · exact fun z => k.hidn j a d y2 y3 h4 (List.mem_cons_of_mem _ z)
    · subst y2; exact hn
  · rw [e]
    rcases spl h2 h3 with ⟨y1, y2, y3⟩ | ⟨y1, y2, y3⟩
    · exact (k.ok j a d y2 y3).le (.refl _) pre
    · subst y2 y3; exact hc.le (.refl _) pre
structure DcSt (K : PySem.W.Frag) (mg : Str → Option Value) (D : Addr) (hid μ0 : List Addr) (F0 : Hp) (H0 : Hp) (i : Nat) (μ : List Addr) (st : Sto) (H : Hp) (ps : List (W × W)) (kk : List KeyL) (vs : List V) : Prop where
  sto : StOk K mg μ st (D :: hid) H
  le : Le F0 (Fz μ st (D :: hid) H)
  pre : Pre μ0 μ
  hidk : ∀ a ∈ hid, H a = H0 a
  lck : Lk H0 H
  at_ : H D = some (.dT (kk.zip vs))
  keys : mapO keyT (ps.map (·.1)) = some kk
  rep : Reps K mg (Fz μ st (D :: hid) H) μ (ps.map (·.2)) vs
  vlen : kk.length = vs.length
  len : kk.length ≤ i
theorem mapO_app {α β : Type} {f : α → Option β} : ∀ {l m : List α} {r : List β}, mapO f (l ++ m) = some r → ∃ a b, mapO f l = some a ∧ mapO f m = some b ∧ r = a ++ b
  | [], m, r, h => ⟨[], r, rfl, h, rfl⟩
  | x :: l, m, r, h => by
    rw [List.cons_append] at h
    unfold mapO at h
    cases e1 : f x with
    | none => rw [e1] at h; cases h
    | some y =>
      cases e2 : mapO f (l ++ m) with
      | none => rw [e1, e2] at h; cases h
      | some ys =>
        rw [e1, e2] at h; cases h
        obtain ⟨a, b, h1, h2, h3⟩ := mapO_app e2
        exact ⟨y :: a, b, by unfold mapO; rw [e1, h1], h2, by rw [h3]; rfl⟩
theorem putK_new {κ : Type} [DecidableEq κ] {kk : List κ} {vs : List V} {k : κ} {v : V} (hl : kk.length = vs.length) (h : k ∉ kk) : putK (kk.zip vs) k v = (kk ++ [k]).zip (vs ++ [v]) := by
  unfold putK
  have e : ((kk.zip vs).any fun kv => decide (kv.1 = k)) = false := by
    rw [List.any_eq_false]
    intro p hp q
    exact h (by rw [← of_decide_eq_true q]; exact (List.of_mem_zip hp).1)
  rw [e, List.zip_append hl]; rfl
theorem dc_read {X : Cx} {Wx : Wish} {f : SemI} {g : TgF} {sl own : List Nat} {t : SemB} {ek ev : Sem} (hsl : ∀ i ∈ sl, i ∈ own) (hlk : ∀ i ∈ Wx.lock, i ∉ own) : ∀ σ H Q, tE X.K X.mg Wx (eDcT f g own t ek ev) σ H Q →
    SLd.tDcT (tI X.K X.mg Wx f) (tG X.K X.mg Wx.blk g sl) (tB' X.K X.mg Wx.blk t) (tE X.K X.mg Wx.blk ek) (tE X.K X.mg Wx.blk ev) own σ H Q := fun σ H Q ⟨μ, st, hid, fr, S, P⟩ => by
  refine ⟨μ, st, hid, fr, S, ?_⟩
  unfold eDcT at P
  cases h1 : f fr st with
  | bad => rw [h1] at P; exact P
  | err x s => rw [h1] at P; exact P
  | ok p st1 =>
    obtain ⟨x, all⟩ := p
    rw [h1, Out.bind_ok] at P
    intro μ1 H1 J k1 g1 ji D hD
    have P1 := EPost.from g1 P
    have S1 := S.next k1 g1
    simp only at P1
    cases hr : dcRun x all g t ek ev (wipeF fr own) all st1 with
    | bad => rw [hr] at P1; exact P1.elim
    | err z s => rw [hr] at P1; exact P1.elim
    | ok tot stE =>
      rw [hr] at P1
      simp only at P1
      cases hkk : mapO keyT (tot.map (·.1)) with
      | none => rw [hkk] at P1; exact P1.elim
      | some kkT =>
      rw [hkk] at P1
      simp only at P1
      split at P1
      case isFalse => exact P1.elim
      rename_i hnd
      have hnd := dec_of hnd
      have hDn : D ∉ hid := fun z => (k1.hidt D z).1 hD
      obtain ⟨k2, e2⟩ := k1.hideNew (o := .dT []) hD
      refine ⟨fun i m H => m = all.length - i ∧ i ≤ all.length ∧ ∃ μ st ps kk vs rest, DcSt X.K X.mg D hid μ1 (Fz μ1 st1 hid H1) H1 i μ st H ps kk vs ∧ dcRun x all g t ek ev (wipeF fr own) (all.drop i) st = .ok rest stE ∧ ps ++ rest = tot,
        ⟨_, rfl, Nat.zero_le _, μ1, st1, [], [], [], tot, ⟨k2, by rw [e2]; exact .refl _, .refl _, fun a ha => upd_ne fun z => hDn (z ▸ ha), fun a o u h => by rw [upd_ne (ne_of_none h hD)]; exact h, upd_same, rfl, .nil, rfl, Nat.le_refl _⟩, hr, rfl⟩, ?_⟩
      rintro i m H2 ⟨rfl, hi, μ2, st2, ps, kk, vs, rest, L, run, tt⟩
      by_cases hlt : i < all.length
      · rw [List.drop_eq_getElem_cons hlt, dcRun] at run
        split at run
        · rename_i hs
          refine .inr ⟨ji.go _ _ _ _ i L.sto L.le L.pre L.lck hs hlt, fun H => ∃ μ st ps kk vs rest, DcSt X.K X.mg D hid μ1 (Fz μ1 st1 hid H1) H1 (i + 1) μ st H ps kk vs ∧ dcRun x all g t ek ev (wipeF fr own) (all.drop (i + 1)) st = .ok rest stE ∧ ps ++ rest = tot,
            fun H' q => ⟨_, by omega, rfl, hlt, q⟩, fun v H3 hy => ?_⟩
          obtain ⟨k3, g3, w, hw, rw_⟩ := ji.yld _ _ _ _ i v H3 L.sto L.le L.pre L.lck hs hlt hy
          have ew : all[i] = w := by
            rw [List.getElem?_eq_getElem hlt] at hw; exact Option.some.inj hw
          rw [ew] at run
          cases e3 : g w (wipeF fr own) st2 with
          | none => rw [e3] at run; cases run
          | some fr1 =>
            rw [e3] at run
            simp only at run
            have S3 : SI X.K X.mg Wx.blk μ2 st2 (D :: hid) (wipeF fr own) (wipe σ own) H3 := by
              have W := (S1.wipe own hlk).blk
              have l3 : Le (Fz μ1 st1 hid H1) (Fz μ2 st2 (D :: hid) H3) := L.le.trans g3.le
              exact ⟨k3, W.len, fun j u hj => by
                obtain ⟨v, ev, rv⟩ := W.loc j u hj
                exact ⟨v, ev, Rep.mono l3 L.pre _ _ rv⟩, Wx.blk.mono _ _ _ _ _ l3 L.pre W.ex⟩
            refine ⟨μ2, st2, D :: hid, wipeF fr own, w, fr1, S3, rw_, e3, fun σ2 S4 ag => ⟨wipe_ext (by rw [ag.1, wipe_length]) fun j hj => ag.2 j fun z => hj (hsl j z), μ2, st2, D :: hid, fr1, S4, ?_⟩⟩
            cases e4 : t fr1 st2 with
            | bad => rw [e4] at run; cases run
            | err z s => rw [e4] at run; cases run
            | ok b st3 =>
              rw [e4] at run
              intro μ3 H4 k4 g4
              have keep : ∀ {μ' : List Addr} {st' : Sto} {H' : Hp}, Grow (D :: hid) μ2 st2 H3 μ' st' H' → StOk X.K X.mg μ' st' (D :: hid) H' → DcSt X.K X.mg D hid μ1 (Fz μ1 st1 hid H1) H1 i μ' st' H' ps kk vs := fun gg kq =>
                ⟨kq, (L.le.trans g3.le).trans gg.le, L.pre.trans gg.pre, fun a ha => ((gg.hid a (List.mem_cons_of_mem _ ha)).trans (g3.hid a (List.mem_cons_of_mem _ ha))).trans (L.hidk a ha), L.lck.trans (g3.lck.trans gg.lck),
                  ((gg.hid D List.mem_cons_self).trans (g3.hid D List.mem_cons_self)).trans L.at_, L.keys, L.rep.mono (g3.le.trans gg.le) gg.pre, L.vlen, L.len⟩
              cases b with
              | false =>
                refine iteF ?_
                have Q4 := keep g4 k4
                exact ⟨μ3, st3, ps, kk, vs, rest, ⟨Q4.sto, Q4.le, Q4.pre, Q4.hidk, Q4.lck, Q4.at_, Q4.keys, Q4.rep, Q4.vlen, Nat.le_succ_of_le Q4.len⟩, run, tt⟩
              | true =>
                refine iteT ⟨μ3, st3, D :: hid, fr1, S4.next k4 g4, ?_⟩
                simp only at run
                cases e5 : ek fr1 st3 with
                | bad => rw [e5] at run; cases run
                | err z s => rw [e5] at run; cases run
                | ok y st4 =>
                  rw [e5] at run
                  simp only at run
                  intro μ4 H5 vy k5 g5 r5
                  refine ⟨μ4, st4, D :: hid, fr1, (S4.next k4 g4).next k5 g5, ?_⟩
                  cases e6 : ev fr1 st4 with
                  | bad => rw [e6] at run; cases run
                  | err z s => rw [e6] at run; cases run
                  | ok u st5 =>
                    rw [e6] at run
                    simp only at run
                    intro μ5 H6 vu k6 g6 r6
                    have Q6 := keep ((g4.trans g5).trans g6) k6
                    cases e7 : dcRun x all g t ek ev (wipeF fr own) (all.drop (i + 1)) st5 with
                    | bad => rw [e7] at run; cases run
                    | err z s => rw [e7] at run; cases run
                    | ok more stF =>
                      rw [e7] at run
                      simp only at run
                      injection run with ra rb
                      subst ra rb
                      rw [← tt, List.map_append, List.map_cons] at hkk
                      obtain ⟨a1, b1, m1, m2, m3⟩ := mapO_app hkk
                      have ea : a1 = kk := Option.some.inj (m1.symm.trans L.keys)
                      subst ea
                      unfold mapO at m2
                      cases ey : keyT y with
                      | none => simp only [ey] at m2; cases m2
                      | some key =>
                      cases em : mapO keyT (more.map (·.1)) with
                      | none => simp only [ey, em] at m2; cases m2
                      | some rk =>
                      simp only [ey, em] at m2
                      have eb : b1 = key :: rk := (Option.some.inj m2).symm
                      have fresh : key ∉ a1 := fun z => by
                        rw [m3, eb] at hnd
                        exact (List.nodup_append.mp hnd).2.2 key z key List.mem_cons_self rfl
                      obtain ⟨pa, rfl, hpa⟩ := keyT_rep ey (Rep.mono g6.le g6.pre _ _ r5)
                      have lz : (a1.zip vs).length < sizeLine := by
                        rw [List.length_zip]
                        have := Q6.len
                        have := ji.len
                        have := Q6.vlen
                        omega
                      refine ⟨a1.zip vs, key, pa, rfl, (Fz.sub hpa).1, Q6.at_, lz, μ5, st5, ps ++ [(y, u)], a1 ++ [key], vs ++ [vu], more, ⟨Q6.sto.hidUpd List.mem_cons_self, ?_, Q6.pre, fun a ha => ?_, fun a o w h => ?_, ?_, ?_, ?_, ?_, ?_⟩, e7, by rw [← tt]; simp⟩
                      · rw [Fz.hidUpd List.mem_cons_self]; exact Q6.le
                      · rw [upd_ne (fun z : a = D => hDn (z ▸ ha))]; exact Q6.hidk a ha
                      · have q := Q6.lck a o w h
                        rw [upd_ne fun z => by rw [z, Q6.at_] at q; cases q]; exact q
                      · rw [upd_same, putK_new Q6.vlen fresh]
                      · rw [List.map_append]
                        exact mapO_snoc Q6.keys ey
                      · rw [Fz.hidUpd List.mem_cons_self, List.map_append]; exact Q6.rep.append (.cons r6 .nil)
                      · rw [List.length_append, List.length_append, Q6.vlen]; rfl
                      · rw [List.length_append, List.length_singleton]; exact Nat.succ_le_succ Q6.len
        · cases run
      · have hi2 : i = all.length := by omega
        subst hi2
        rw [List.drop_length, dcRun] at run
        split at run
        · rename_i hs
          injection run with ra rb
          subst ra rb
          refine .inl ⟨ji.stop _ _ _ _ _ L.sto L.le L.pre L.lck hs (Nat.le_refl _), ?_⟩
          rw [List.append_nil] at tt
          subst tt
          have ek' : kk = kkT := Option.some.inj (L.keys.symm.trans hkk)
          obtain ⟨k9, e9⟩ := L.sto.cellOfC (c := .dct (.ty "T" :: ps.map (·.1)) (ps.map (·.2))) hDn rfl ⟨vs, ⟨false, .inr kk, kind_T1 L.keys, L.vlen, L.at_⟩, L.rep⟩
          refine P1 _ _ _ k9 ⟨L.pre.trans ⟨[D], rfl⟩, by rw [e9]; exact L.le, L.hidk, L.lck⟩ ?_
          unfold Rep
          exact ⟨D, by rw [← L.sto.len]; simp, rfl⟩
        · cases run
section
variable {X : Cx} {Wx : Wish}
theorem ev_dcT {k : Nat} {kx vx tg iter : Expr} {ifs : List Expr} {scope : Scope} {own : List (Str × Nat)} {pos : Pos} {f : SemI} {g : TgF} {sl : List Nat} {t : SemB} {ek ev : Sem} (C : Ctx X Wx k) (hi : IV X Wx tg iter f) (ok : blkC X.N X.env.scope scope own = true)
    (hsl : ∀ i ∈ sl, i ∈ own.map (·.2)) (hlk : ∀ i ∈ Wx.lock, i ∉ own.map (·.2))
    (hg : ∀ (s : Shared) (H : Hp) (C : Addr) (cl : List (Str × Addr)) (fp : List Addr), GV (X.blk s H scope (compEnvC scope cl C X.env) fp) Wx.blk tg g sl)
    (ht : ∀ (s : Shared) (H : Hp) (C : Addr) (cl : List (Str × Addr)) (fp : List Addr), PTs (X.blk s H scope (compEnvC scope cl C X.env) fp) ifs (tB' X.K X.mg Wx.blk t))
    (hk : ∀ (s : Shared) (H : Hp) (C : Addr) (cl : List (Str × Addr)) (fp : List Addr), EV (X.blk s H scope (compEnvC scope cl C X.env) fp) Wx.blk kx ek)
    (hv : ∀ (s : Shared) (H : Hp) (C : Addr) (cl : List (Str × Addr)) (fp : List Addr), EV (X.blk s H scope (compEnvC scope cl C X.env) fp) Wx.blk vx ev) (hs : ∀ x, foldedSetIterable iter X.env x = pure x := by intro _; rfl) :
    EV X Wx (.DictComp kx vx [⟨tg, iter, ifs, 0⟩] scope pos) (eDcT f g (own.map (·.2)) t ek ev) :=
  PEm (SLd.pe_dcT (by have := C.room.un; omega) C.calm C.nd hi (blkOk_by ok) hg ht hk hv hs) (dc_read hsl hlk)
theorem sv_setDcT {k : Nat} {i : Nat} {y : Str} {py : Pos} {kx vx tg iter : Expr} {ifs : List Expr} {scope : Scope} {own : List (Str × Nat)} {pos spos : Pos} {f : SemI} {g : TgF} {sl : List Nat} {t : SemB} {ek ev : Sem} (C : Ctx X Wx k) (hi : IV X Wx tg iter f) (ok : blkC X.N X.env.scope scope own = true)
    (hsl : ∀ i ∈ sl, i ∈ own.map (·.2)) (hlk : ∀ i ∈ Wx.lock, i ∉ own.map (·.2))
    (hg : ∀ (s : Shared) (H : Hp) (C : Addr) (cl : List (Str × Addr)) (fp : List Addr), GV (X.blk s H scope (compEnvC scope cl C X.env) fp) Wx.blk tg g sl)
    (ht : ∀ (s : Shared) (H : Hp) (C : Addr) (cl : List (Str × Addr)) (fp : List Addr), PTs (X.blk s H scope (compEnvC scope cl C X.env) fp) ifs (tB' X.K X.mg Wx.blk t))
    (hk : ∀ (s : Shared) (H : Hp) (C : Addr) (cl : List (Str × Addr)) (fp : List Addr), EV (X.blk s H scope (compEnvC scope cl C X.env) fp) Wx.blk kx ek)
    (hv : ∀ (s : Shared) (H : Hp) (C : Addr) (cl : List (Str × Addr)) (fp : List Addr), EV (X.blk s H scope (compEnvC scope cl C X.env) fp) Wx.blk vx ev)
    (hsw : swapsWith (.DictComp kx vx [⟨tg, iter, ifs, 0⟩] scope pos) (some (.Name y py)) spos.line X.env = pure true) (hy : X.N[i]? = some y := by rfl) (hyl : X.env.scope.names.lookup y = some .local := by rfl) (hs : ∀ x, foldedSetIterable iter X.env x = pure x := by intro _; rfl) (hkk : i ∉ Wx.lock := by first | exact List.not_mem_nil | decide) :
    SV X Wx (.Assign [.Name y py] (.DictComp kx vx [⟨tg, iter, ifs, 0⟩] scope pos) spos) (sAsg (eDcT f g (own.map (·.2)) t ek ev) (gNm i)) :=
  PSm (SLd.ps_setDcT (by have := C.room.un; omega) C.calm C.nd hy hyl hsw hi (blkOk_by ok) hg ht hk hv hs) fun D σ H ⟨μ, st, hid, fr, S, P⟩ => by
    refine dc_read hsl hlk σ H _ (stm_read (t := id) S P fun w st1 μ1 H1 v S1 g1 r1 P1 => ?_)
    exact P1 μ1 _ H1 (S1.set i hkk r1) .refl
end
/-- told of each item -/
theorem dc_mp {α : Type} {x : W} {all : List W} {g : TgF} {t : SemB} {ek ev : Sem} {fr : Fr} {h kf vf : α → W} {st : Sto} (hs : srcOk x all st) : ∀ l : List α, (∀ a ∈ l, ∃ fr1, g (h a) fr st = some fr1 ∧ t fr1 st = .ok true st ∧ ek fr1 st = .ok (kf a) st ∧ ev fr1 st = .ok (vf a) st) → dcRun x all g t ek ev fr (l.map h) st = .ok (l.map fun a => (kf a, vf a)) st
  | [], _ => by rw [List.map_nil]; unfold dcRun; rw [if_pos hs]; rfl
  | a :: r, q => by
    obtain ⟨fr1, h1, h2, h3, h4⟩ := q a List.mem_cons_self
    have ih := dc_mp hs r fun u hu => q u (List.mem_cons_of_mem _ hu)
    rw [List.map_cons]
    unfold dcRun
    rw [if_pos hs, h1]
    simp only [h2, h3, h4, ih, List.map_cons]
theorem x_dcT {f : SemI} {g : TgF} {own : List Nat} {t : SemB} {ek ev : Sem} {fr : Fr} {st st1 st2 : Sto} {x : W} {all : List W} {ys : List (W × W)} {kk : List KeyL} (h : f fr st = .ok (x, all) st1) (h2 : dcRun x all g t ek ev (wipeF fr own) all st1 = .ok ys st2) (h3 : mapO keyT (ys.map (·.1)) = some kk) (h4 : kk.Nodup) : eDcT f g own t ek ev fr st = .ok (.cell st2.length) (st2 ++ [.dct (.ty "T" :: ys.map (·.1)) (ys.map (·.2))]) := by
  unfold eDcT
  rw [h, Out.bind_ok]
  simp only [h2, h3, dec_mk h4, if_true]
end SL

/-! # comprehensions of two clauses; (*t, ..) -/
namespace SL
open PySem PySem.Spec PyProof.Rows L2
def tStarT (K : PySem.W.Frag) (te : TE) (t : TA) : TA := fun σ H Q => te σ H fun x H1 => ∃ a xs, x = .ref a ∧ SqT K H1 a xs ∧ t σ H1 fun ys H2 => Q (xs ++ ys) H2
theorem vals_app : ∀ {xs ys : List V} {us ws : List Value}, Vals xs us → Vals ys ws → Vals (xs ++ ys) (us ++ ws)
  | _, _, _, _, .nil, h => h
  | _, _, _, _, .cons a r, h => .cons a (vals_app r h)
theorem pa_star {X : Cx} {e : Expr} {es : List Expr} {p : Pos} {te : TE} {t : TA} (he : PE X e te) (hr : PA X es t) (hs : starEach (.Starred e p :: es) X.env = (true, eval e X.env) :: starEach es X.env := by rfl) : PA X (.Starred e p :: es) (tStarT X.K te t) := by
  constructor
  intro pos pins s σ H Q I h
  refine PySem.W.items_star (thn (he.run pins s σ H _ I h) ?_) hs
  rintro v s1 ⟨x, H1, I1, r1, a, xs, rfl, hx, q1⟩
  cases r1
  refine star_tup I1 hx fun us s2 I2 ru => ?_
  refine thn (hr.run pos pins s2 σ H1 _ I2 q1) ?_
  rintro ws s3 ⟨ys, H3, I3, r3, q3⟩
  exact ⟨xs ++ ys, H3, I3, vals_app ru r3, q3⟩
/-- (*f, ..) -/
def aStar (f : Sem) (g : SemL) : SemL := fun fr st => (f fr st).bind fun w st1 => match w with
  | .tup us => (g fr st1).bind fun ws st2 => .ok (us ++ ws) st2
  | _ => .bad
theorem av_star {X : Cx} {Wx : Wish} {e : Expr} {es : List Expr} {p : Pos} {f : Sem} {g : SemL} (he : EV X Wx e f) (hr : AV X Wx es g) (hs : starEach (.Starred e p :: es) X.env = (true, eval e X.env) :: starEach es X.env := by rfl) : AV X Wx (.Starred e p :: es) (aStar f g) := PAm (pa_star he hr hs) fun σ H Q ⟨μ, st, hid, fr, S, P⟩ => by
  refine ⟨μ, st, hid, fr, S, ?_⟩
  unfold aStar at P
  cases h : f fr st with
  | bad => rw [h] at P; exact P
  | err x s => rw [h] at P; exact P
  | ok w st1 =>
    rw [h, Out.bind_ok] at P
    intro μ1 H1 v k1 g1 r1
    have P1 := LPost.from g1 P
    cases w with
    | tup us =>
      obtain ⟨a, vs, rfl, ht, hv⟩ := rep_tup_inv r1
      refine ⟨a, vs, rfl, SqT.le Fz.le ht.sq, μ1, st1, hid, fr, S.next k1 g1, ?_⟩
      simp only at P1
      cases h2 : g fr st1 with
      | bad => rw [h2] at P1; exact P1
      | err x s => rw [h2] at P1; exact P1
      | ok ws st2 =>
        rw [h2, Out.bind_ok] at P1
        intro μ2 H2 vs2 k2 g2 r2
        exact P1 μ2 H2 (vs ++ vs2) k2 g2 ((hv.mono g2.le g2.pre).append r2)
    | _ => exact P1.elim
/-! ## two clauses -/
open Classical in
noncomputable def lc2Run (x : W) (all : List W) (g : TgF) (t : SemB) (f1 : SemI) (g1 : TgF) (own1 : List Nat) (t1 : SemB) (e : Sem) (fr : Fr) : List W → Sto → Out (List W)
  | [], st => if srcOk x all st then .ok [] st else .bad
  | w :: r, st => if srcOk x all st then (match g w fr st with
    | some fr1 => match t fr1 st with
      | .ok true st1 => match f1 fr1 st1 with
        | .ok p st2 => match lcRun p.1 p.2 g1 t1 e (wipeF fr1 own1) p.2 st2 with
          | .ok ys st3 => match lc2Run x all g t f1 g1 own1 t1 e fr r st3 with
            | .ok zs st4 => .ok (ys ++ zs) st4
            | _ => .bad
          | _ => .bad
        | _ => .bad
      | .ok false st1 => lc2Run x all g t f1 g1 own1 t1 e fr r st1
      | _ => .bad
    | none => .bad) else .bad
noncomputable def eLc2 (f : SemI) (g : TgF) (own : List Nat) (t : SemB) (f1 : SemI) (g1 : TgF) (own1 : List Nat) (t1 : SemB) (e : Sem) : Sem := fun fr st => (f fr st).bind fun p st1 => match lc2Run p.1 p.2 g t f1 g1 own1 t1 e (wipeF fr own) p.2 st1 with
  | .ok ys st2 => if dec (ys.length ≤ LINE) = true then .ok (.lst ys) st2 else .bad
  | _ => .bad
structure LsSt (K : PySem.W.Frag) (mg : Str → Option Value) (D : Addr) (hid μ0 : List Addr) (F0 : Hp) (H0 : Hp) (μ : List Addr) (st : Sto) (H : Hp) (ys : List W) (acc : List V) : Prop where
  sto : StOk K mg μ st (D :: hid) H
  le : Le F0 (Fz μ st (D :: hid) H)
  pre : Pre μ0 μ
  hidk : ∀ a ∈ hid, H a = H0 a
  lck : Lk H0 H
  at_ : H D = some (.lst acc)
  rep : Reps K mg (Fz μ st (D :: hid) H) μ ys acc
theorem LsSt.grow {K : PySem.W.Frag} {mg : Str → Option Value} {D : Addr} {hid μ0 μ μ' : List Addr} {F0 H0 H H' : Hp} {st st' : Sto} {ys : List W} {acc : List V} (L : LsSt K mg D hid μ0 F0 H0 μ st H ys acc) (gg : Grow (D :: hid) μ st H μ' st' H') (kk : StOk K mg μ' st' (D :: hid) H') : LsSt K mg D hid μ0 F0 H0 μ' st' H' ys acc :=
  ⟨kk, L.le.trans gg.le, L.pre.trans gg.pre, fun a ha => (gg.hid a (List.mem_cons_of_mem _ ha)).trans (L.hidk a ha), L.lck.trans gg.lck, (gg.hid D List.mem_cons_self).trans L.at_, L.rep.mono gg.le gg.pre⟩
theorem LsSt.push {K : PySem.W.Frag} {mg : Str → Option Value} {D : Addr} {hid μ0 μ : List Addr} {F0 H0 H : Hp} {st : Sto} {ys : List W} {acc : List V} {y : W} {v : V} (L : LsSt K mg D hid μ0 F0 H0 μ st H ys acc) (hDn : D ∉ hid) (r : Rep K mg (Fz μ st (D :: hid) H) μ y v) : LsSt K mg D hid μ0 F0 H0 μ st (upd H D (.lst (acc ++ [v]))) (ys ++ [y]) (acc ++ [v]) := by
  have e : Fz μ st (D :: hid) (upd H D (.lst (acc ++ [v]))) = Fz μ st (D :: hid) H := Fz.hidUpd List.mem_cons_self
  refine ⟨L.sto.hidUpd List.mem_cons_self, by rw [e]; exact L.le, L.pre, fun a ha => ?_, fun a o u h => ?_, upd_same, by rw [e]; exact L.rep.append (.cons r .nil)⟩
  · rw [upd_ne (fun z : a = D => hDn (z ▸ ha))]; exact L.hidk a ha
  · have q := L.lck a o u h
    rw [upd_ne fun z => by rw [z, L.at_] at q; cases q]; exact q
theorem lc2_read {X : Cx} {Wx : Wish} {f f1 : SemI} {g g1 : TgF} {sl sl1 own own1 : List Nat} {t t1 : SemB} {e : Sem} (hsl : ∀ i ∈ sl, i ∈ own) (hsl1 : ∀ i ∈ sl1, i ∈ own1) (hlk : ∀ i ∈ Wx.lock, i ∉ own) (hlk1 : ∀ i ∈ Wx.lock, i ∉ own1) : ∀ σ H Q, tE X.K X.mg Wx (eLc2 f g own t f1 g1 own1 t1 e) σ H Q →
    tLc2 (tI X.K X.mg Wx f) (tG X.K X.mg Wx.blk g sl) (tB' X.K X.mg Wx.blk t) (tI X.K X.mg Wx.blk f1) (tG X.K X.mg Wx.blk g1 sl1) (tB' X.K X.mg Wx.blk t1) (tE X.K X.mg Wx.blk e) own own1 σ H Q := fun σ H Q ⟨μ, st, hid, fr, S, P⟩ => by
  refine ⟨μ, st, hid, fr, S, ?_⟩
  unfold eLc2 at P
  cases h1 : f fr st with
  | bad => rw [h1] at P; exact P
  | err x s => rw [h1] at P; exact P
  | ok p st1 =>
    obtain ⟨x, all⟩ := p
    rw [h1, Out.bind_ok] at P
    intro μ1 H1 J k1 gr1 ji D hD
    have P1 := EPost.from gr1 P
    have S1 := S.next k1 gr1
    simp only at P1
    cases hr : lc2Run x all g t f1 g1 own1 t1 e (wipeF fr own) all st1 with
    | bad => rw [hr] at P1; exact P1.elim
    | err z s => rw [hr] at P1; exact P1.elim
    | ok tot stE =>
      rw [hr] at P1
      simp only at P1
      split at P1
      case isFalse => exact P1.elim
      rename_i hsz
      have hsz := dec_of hsz
      have hDn : D ∉ hid := fun z => (k1.hidt D z).1 hD
      obtain ⟨k2, e2⟩ := k1.hideNew (o := .lst []) hD
      refine ⟨fun i m H => m = all.length - i ∧ i ≤ all.length ∧ ∃ μ st ys acc rest, LsSt X.K X.mg D hid μ1 (Fz μ1 st1 hid H1) H1 μ st H ys acc ∧ lc2Run x all g t f1 g1 own1 t1 e (wipeF fr own) (all.drop i) st = .ok rest stE ∧ ys ++ rest = tot,
        ⟨_, rfl, Nat.zero_le _, μ1, st1, [], [], tot, ⟨k2, by rw [e2]; exact .refl _, .refl _, fun a ha => upd_ne fun z => hDn (z ▸ ha), fun a o u h => by rw [upd_ne (ne_of_none h hD)]; exact h, upd_same, .nil⟩, hr, rfl⟩, ?_⟩
      rintro i m H2 ⟨rfl, hi, μ2, st2, ys, acc, rest, L, run, tt⟩
      by_cases hlt : i < all.length
      · rw [List.drop_eq_getElem_cons hlt, lc2Run] at run
        split at run
        · rename_i hs
          refine .inr ⟨ji.go _ _ _ _ i L.sto L.le L.pre L.lck hs hlt, fun H => ∃ μ st ys acc rest, LsSt X.K X.mg D hid μ1 (Fz μ1 st1 hid H1) H1 μ st H ys acc ∧ lc2Run x all g t f1 g1 own1 t1 e (wipeF fr own) (all.drop (i + 1)) st = .ok rest stE ∧ ys ++ rest = tot,
            fun H' q => ⟨_, by omega, rfl, hlt, q⟩, fun v H3 hy => ?_⟩
          obtain ⟨k3, g3, w, hw, rw_⟩ := ji.yld _ _ _ _ i v H3 L.sto L.le L.pre L.lck hs hlt hy
          have ew : all[i] = w := by
            rw [List.getElem?_eq_getElem hlt] at hw; exact Option.some.inj hw
          rw [ew] at run
          cases e3 : g w (wipeF fr own) st2 with
          | none => rw [e3] at run; cases run
          | some fr1 =>
            rw [e3] at run
            simp only at run
            have S3 : SI X.K X.mg Wx.blk μ2 st2 (D :: hid) (wipeF fr own) (wipe σ own) H3 := by
              have W := (S1.wipe own hlk).blk
              have l3 : Le (Fz μ1 st1 hid H1) (Fz μ2 st2 (D :: hid) H3) := L.le.trans g3.le
              exact ⟨k3, W.len, fun j u hj => by
                obtain ⟨v, ev, rv⟩ := W.loc j u hj
                exact ⟨v, ev, Rep.mono l3 L.pre _ _ rv⟩, Wx.blk.mono _ _ _ _ _ l3 L.pre W.ex⟩
            have L3 := L.grow g3 k3
            refine ⟨μ2, st2, D :: hid, wipeF fr own, w, fr1, S3, rw_, e3, fun σ2 S4 ag => ⟨wipe_ext (by rw [ag.1, wipe_length]) fun j hj => ag.2 j fun z => hj (hsl j z), μ2, st2, D :: hid, fr1, S4, ?_⟩⟩
            cases e4 : t fr1 st2 with
            | bad => rw [e4] at run; cases run
            | err z s => rw [e4] at run; cases run
            | ok b st3 =>
              rw [e4] at run
              intro μ3 H4 k4 g4
              have L4 := L3.grow g4 k4
              cases b with
              | false =>
                refine iteF ?_
                exact ⟨μ3, st3, ys, acc, rest, L4, run, tt⟩
              | true =>
                refine iteT ⟨μ3, st3, D :: hid, fr1, S4.next k4 g4, ?_⟩
                simp only at run
                cases e5 : f1 fr1 st3 with
                | bad => rw [e5] at run; cases run
                | err z s => rw [e5] at run; cases run
                | ok p1 st4 =>
                  obtain ⟨x1, all1⟩ := p1
                  rw [e5] at run
                  simp only at run
                  intro μ4 H5 J1 k5 g5 jj
                  have S5 := (S4.next k4 g4).next k5 g5
                  have L5 := L4.grow g5 k5
                  cases e6 : lcRun x1 all1 g1 t1 e (wipeF fr1 own1) all1 st4 with
                  | bad => rw [e6] at run; cases run
                  | err z s => rw [e6] at run; cases run
                  | ok ins st5 =>
                    rw [e6] at run
                    simp only at run
                    cases e7 : lc2Run x all g t f1 g1 own1 t1 e (wipeF fr own) (all.drop (i + 1)) st5 with
                    | bad => rw [e7] at run; cases run
                    | err z s => rw [e7] at run; cases run
                    | ok more stF =>
                      rw [e7] at run
                      simp only at run
                      injection run with ra rb
                      subst ra rb
                      refine ⟨fun j k H => k = all1.length - j ∧ j ≤ all1.length ∧ ∃ μ st zs acc rs, LsSt X.K X.mg D hid μ1 (Fz μ1 st1 hid H1) H1 μ st H zs acc ∧ Le (Fz μ4 st4 (D :: hid) H5) (Fz μ st (D :: hid) H) ∧ Pre μ4 μ ∧ Lk H5 H ∧ lcRun x1 all1 g1 t1 e (wipeF fr1 own1) (all1.drop j) st = .ok rs st5 ∧ zs ++ (rs ++ more) = tot,
                        ⟨_, rfl, Nat.zero_le _, μ4, st4, ys, acc, ins, L5, .refl _, .refl _, Lk.refl _, e6, tt⟩, ?_⟩
                      rintro j k H6 ⟨rfl, hj, μ5, st6, zs, acc2, rs, L6, le6, pre6, lk6, run6, tt6⟩
                      by_cases hlt1 : j < all1.length
                      · rw [List.drop_eq_getElem_cons hlt1, lcRun] at run6
                        split at run6
                        · rename_i hs1
                          refine .inr ⟨jj.go _ _ _ _ j L6.sto le6 pre6 lk6 hs1 hlt1, fun H => ∃ μ st zs acc rs, LsSt X.K X.mg D hid μ1 (Fz μ1 st1 hid H1) H1 μ st H zs acc ∧ Le (Fz μ4 st4 (D :: hid) H5) (Fz μ st (D :: hid) H) ∧ Pre μ4 μ ∧ Lk H5 H ∧ lcRun x1 all1 g1 t1 e (wipeF fr1 own1) (all1.drop (j + 1)) st = .ok rs st5 ∧ zs ++ (rs ++ more) = tot,
                            fun H' q => ⟨_, by omega, rfl, hlt1, q⟩, fun v1 H7 hy1 => ?_⟩
                          obtain ⟨k7, g7, w1, hw1, rw1⟩ := jj.yld _ _ _ _ j v1 H7 L6.sto le6 pre6 lk6 hs1 hlt1 hy1
                          have ew1 : all1[j] = w1 := by
                            rw [List.getElem?_eq_getElem hlt1] at hw1; exact Option.some.inj hw1
                          rw [ew1] at run6
                          cases e8 : g1 w1 (wipeF fr1 own1) st6 with
                          | none => rw [e8] at run6; cases run6
                          | some fr2 =>
                            rw [e8] at run6
                            simp only at run6
                            have L7 := L6.grow g7 k7
                            have S7 : SI X.K X.mg Wx.blk μ5 st6 (D :: hid) (wipeF fr1 own1) (wipe σ2 own1) H7 := by
                              have W := S5.wipe own1 hlk1
                              have l7 := le6.trans g7.le
                              exact ⟨k7, W.len, fun j u hj => by
                                obtain ⟨v, ev, rv⟩ := W.loc j u hj
                                exact ⟨v, ev, Rep.mono l7 pre6 _ _ rv⟩, Wx.blk.mono _ _ _ _ _ l7 pre6 W.ex⟩
                            refine ⟨μ5, st6, D :: hid, wipeF fr1 own1, w1, fr2, S7, rw1, e8, fun σ3 S8 ag1 => ⟨wipe_ext (by rw [ag1.1, wipe_length]) fun j hj => ag1.2 j fun z => hj (hsl1 j z), μ5, st6, D :: hid, fr2, S8, ?_⟩⟩
                            cases e9 : t1 fr2 st6 with
                            | bad => rw [e9] at run6; cases run6
                            | err z s => rw [e9] at run6; cases run6
                            | ok b1 st7 =>
                              rw [e9] at run6
                              intro μ6 H8 k8 g8
                              have L8 := L7.grow g8 k8
                              have le8 := (le6.trans g7.le).trans g8.le
                              have pre8 := pre6.trans (g7.pre.trans g8.pre)
                              have lk8 := lk6.trans (g7.lck.trans g8.lck)
                              cases b1 with
                              | false =>
                                refine iteF ?_
                                exact ⟨μ6, st7, zs, acc2, rs, L8, le8, pre8, lk8, run6, tt6⟩
                              | true =>
                                refine iteT ⟨μ6, st7, D :: hid, fr2, S8.next k8 g8, ?_⟩
                                simp only at run6
                                cases e10 : e fr2 st7 with
                                | bad => rw [e10] at run6; cases run6
                                | err z s => rw [e10] at run6; cases run6
                                | ok y st8 =>
                                  rw [e10] at run6
                                  simp only at run6
                                  intro μ7 H9 vy k9 g9 r9
                                  have L9 := L8.grow g9 k9
                                  cases e11 : lcRun x1 all1 g1 t1 e (wipeF fr1 own1) (all1.drop (j + 1)) st8 with
                                  | bad => rw [e11] at run6; cases run6
                                  | err z s => rw [e11] at run6; cases run6
                                  | ok rs2 stG =>
                                    rw [e11] at run6
                                    simp only at run6
                                    injection run6 with rc rd
                                    subst rc rd
                                    have lz : acc2.length < sizeLine := by
                                      have h1 := L9.rep.length
                                      have h2 := congrArg List.length tt6
                                      rw [List.length_append, List.length_append, List.length_cons] at h2
                                      have h3 : LINE ≤ sizeLine := by rw [sizeLine_eq]; unfold LINE; omega
                                      omega
                                    have LA := L9.push hDn r9
                                    have ef : Fz μ7 st8 (D :: hid) (upd H9 D (.lst (acc2 ++ [vy]))) = Fz μ7 st8 (D :: hid) H9 := Fz.hidUpd List.mem_cons_self
                                    refine ⟨acc2, L9.at_, lz, μ7, st8, zs ++ [y], acc2 ++ [vy], rs2, LA, by rw [ef]; exact le8.trans g9.le, pre8.trans g9.pre, fun a o u h => ?_, e11, by rw [← tt6]; simp⟩
                                    have q := (lk8.trans g9.lck) a o u h
                                    rw [upd_ne fun z => by rw [z, L9.at_] at q; cases q]; exact q
                        · cases run6
                      · have hj2 : j = all1.length := by omega
                        subst hj2
                        rw [List.drop_length, lcRun] at run6
                        split at run6
                        · rename_i hs1
                          injection run6 with rc rd
                          subst rc rd
                          exact .inl ⟨jj.stop _ _ _ _ _ L6.sto le6 pre6 lk6 hs1 (Nat.le_refl _), μ5, st6, zs, acc2, more, L6, e7, by rw [← tt6]; rfl⟩
                        · cases run6
        · cases run
      · have hi2 : i = all.length := by omega
        subst hi2
        rw [List.drop_length, lc2Run] at run
        split at run
        · rename_i hs
          injection run with ra rb
          subst ra rb
          refine .inl ⟨ji.stop _ _ _ _ _ L.sto L.le L.pre L.lck hs (Nat.le_refl _), ?_⟩
          rw [List.append_nil] at tt
          subst tt
          exact fin_lst (K := X.K) (mg := X.mg) _ _ _ _ _ _ _ _ _ _ _ _ _ L.sto hDn L.at_ L.rep L.pre L.le L.hidk L.lck P1
        · cases run
section
variable {X : Cx} {Wx : Wish}
theorem ev_lc2 {k : Nat} {elt tg iter tg1 iter1 : Expr} {ifs ifs1 : List Expr} {scope : Scope} {own : List (Str × Nat)} {own1 : List Nat} {pos : Pos} {f f1 : SemI} {g g1 : TgF} {sl sl1 : List Nat} {t t1 : SemB} {e : Sem} (C : Ctx X Wx k) (hi : IV X Wx tg iter f) (ok : blkC X.N X.env.scope scope own = true)
    (hsl : ∀ i ∈ sl, i ∈ own.map (·.2)) (hsl1 : ∀ i ∈ sl1, i ∈ own1) (hv : ∀ i ∈ own1, i ∈ own.map (·.2)) (hlk : ∀ i ∈ Wx.lock, i ∉ own.map (·.2))
    (hg : ∀ (s : Shared) (H : Hp) (C : Addr) (cl : List (Str × Addr)) (fp : List Addr), GV (X.blk s H scope (compEnvC scope cl C X.env) fp) Wx.blk tg g sl)
    (ht : ∀ (s : Shared) (H : Hp) (C : Addr) (cl : List (Str × Addr)) (fp : List Addr), PTs (X.blk s H scope (compEnvC scope cl C X.env) fp) ifs (tB' X.K X.mg Wx.blk t))
    (hi1 : ∀ (s : Shared) (H : Hp) (C : Addr) (cl : List (Str × Addr)) (fp : List Addr), IV (X.blk s H scope (compEnvC scope cl C X.env) fp) Wx.blk tg1 iter1 f1)
    (hg1 : ∀ (s : Shared) (H : Hp) (C : Addr) (cl : List (Str × Addr)) (fp : List Addr), GV (X.blk s H scope (compEnvC scope cl C X.env) fp) Wx.blk tg1 g1 sl1)
    (ht1 : ∀ (s : Shared) (H : Hp) (C : Addr) (cl : List (Str × Addr)) (fp : List Addr), PTs (X.blk s H scope (compEnvC scope cl C X.env) fp) ifs1 (tB' X.K X.mg Wx.blk t1))
    (he : ∀ (s : Shared) (H : Hp) (C : Addr) (cl : List (Str × Addr)) (fp : List Addr), EV (X.blk s H scope (compEnvC scope cl C X.env) fp) Wx.blk elt e) (hs : ∀ x, foldedSetIterable iter X.env x = pure x := by intro _; rfl) (hs1 : ∀ env x, foldedSetIterable iter1 env x = pure x := by intro _ _; rfl) :
    EV X Wx (.ListComp elt [⟨tg, iter, ifs, 0⟩, ⟨tg1, iter1, ifs1, 0⟩] scope pos) (eLc2 f g (own.map (·.2)) t f1 g1 own1 t1 e) :=
  PEm (pe_lc2 C.calm C.nd hi (blkOk_by ok) hv hg ht hi1 hg1 ht1 he hs hs1) (lc2_read hsl hsl1 hlk fun i hi z => hlk i hi (hv i z))
/-- stored in one line to a name of the def -/
theorem sv_setLc2 {k : Nat} {i : Nat} {y : Str} {py : Pos} {elt tg iter tg1 iter1 : Expr} {ifs ifs1 : List Expr} {scope : Scope} {own : List (Str × Nat)} {own1 : List Nat} {pos spos : Pos} {f f1 : SemI} {g g1 : TgF} {sl sl1 : List Nat} {t t1 : SemB} {e : Sem} (C : Ctx X Wx k) (hy : X.N[i]? = some y) (hyl : X.env.scope.names.lookup y = some .local)
    (hsw : swapsWith (.ListComp elt [⟨tg, iter, ifs, 0⟩, ⟨tg1, iter1, ifs1, 0⟩] scope pos) (some (.Name y py)) spos.line X.env = pure true) (hi : IV X Wx tg iter f) (ok : blkC X.N X.env.scope scope own = true)
    (hsl : ∀ i ∈ sl, i ∈ own.map (·.2)) (hsl1 : ∀ i ∈ sl1, i ∈ own1) (hv : ∀ i ∈ own1, i ∈ own.map (·.2)) (hlk : ∀ i ∈ Wx.lock, i ∉ own.map (·.2)) (hk : i ∉ Wx.lock)
    (hg : ∀ (s : Shared) (H : Hp) (C : Addr) (cl : List (Str × Addr)) (fp : List Addr), GV (X.blk s H scope (compEnvC scope cl C X.env) fp) Wx.blk tg g sl)
    (ht : ∀ (s : Shared) (H : Hp) (C : Addr) (cl : List (Str × Addr)) (fp : List Addr), PTs (X.blk s H scope (compEnvC scope cl C X.env) fp) ifs (tB' X.K X.mg Wx.blk t))
    (hi1 : ∀ (s : Shared) (H : Hp) (C : Addr) (cl : List (Str × Addr)) (fp : List Addr), IV (X.blk s H scope (compEnvC scope cl C X.env) fp) Wx.blk tg1 iter1 f1)
    (hg1 : ∀ (s : Shared) (H : Hp) (C : Addr) (cl : List (Str × Addr)) (fp : List Addr), GV (X.blk s H scope (compEnvC scope cl C X.env) fp) Wx.blk tg1 g1 sl1)
    (ht1 : ∀ (s : Shared) (H : Hp) (C : Addr) (cl : List (Str × Addr)) (fp : List Addr), PTs (X.blk s H scope (compEnvC scope cl C X.env) fp) ifs1 (tB' X.K X.mg Wx.blk t1))
    (he : ∀ (s : Shared) (H : Hp) (C : Addr) (cl : List (Str × Addr)) (fp : List Addr), EV (X.blk s H scope (compEnvC scope cl C X.env) fp) Wx.blk elt e) (hs : ∀ x, foldedSetIterable iter X.env x = pure x := by intro _; rfl) (hs1 : ∀ env x, foldedSetIterable iter1 env x = pure x := by intro _ _; rfl) :
    SV X Wx (.Assign [.Name y py] (.ListComp elt [⟨tg, iter, ifs, 0⟩, ⟨tg1, iter1, ifs1, 0⟩] scope pos) spos) (sAsg (eLc2 f g (own.map (·.2)) t f1 g1 own1 t1 e) (gNm i)) :=
  PSm (ps_setLc2 C.calm C.nd hy hyl hsw hi (blkOk_by ok) hv hg ht hi1 hg1 ht1 he hs hs1) fun D σ H ⟨μ, st, hid, fr, S, P⟩ => by
    refine lc2_read hsl hsl1 hlk (fun i hi z => hlk i hi (hv i z)) σ H _ (stm_read (t := id) S P fun w st1 μ1 H1 v S1 g1 r1 P1 => ?_)
    exact P1 μ1 _ H1 (S1.set i hk r1) .refl
end
end SL

/-! # pairs of ints: min of a list, >; x in a tuple of data; list(range(n)) that lives -/
namespace SL
open PySem PySem.Spec PyProof.Rows L2
def prW (p : Int × Int) : W := tupOf [p.1, p.2]
def prsI : List (List Int) → Option (List (Int × Int))
  | [] => some []
  | [i, j] :: r => (prsI r).map ((i, j) :: ·)
  | _ => none
theorem prsI_eq : ∀ {L : List (List Int)} {ps : List (Int × Int)}, prsI L = some ps → L = ps.map fun p => [p.1, p.2]
  | [], ps, h => by cases h; rfl
  | [i, j] :: r, ps, h => by
    unfold prsI at h
    cases e : prsI r with
    | none => rw [e] at h; cases h
    | some q => rw [e] at h; cases h; rw [prsI_eq e]; rfl
  | [] :: _, _, h => by cases h
  | [_] :: _, _, h => by cases h
  | (_ :: _ :: _ :: _) :: _, _, h => by cases h
def ltPr (p q : Int × Int) : Bool := if p.1 = q.1 then decide (p.2 < q.2) else decide (p.1 < q.1)
def minPr (x : Int × Int) (xs : List (Int × Int)) : Int × Int := xs.foldl (fun a y => if ltPr y a = true then y else a) x
def oMinP : OpN := fun ws st => match ws with
  | [x] => match ((lstW st x).bind tupsI).bind prsI with
    | some (p :: ps) => .ok (prW (minPr p ps)) st
    | _ => .bad
  | _ => .bad
def rMinP (K : PySem.W.Frag) : List V → Hp → VK → Prop := fun vs H Q => ∃ (a : Addr) (ks : List (Addr × List Int)) (p : Int × Int) (ps : List (Int × Int)), vs = [V.ref a] ∧ SqL K H a (ks.map fun k => V.ref k.1) ∧ (∀ k ∈ ks, SqT K H k.1 (k.2.map V.int)) ∧ ks.map (·.2) = (p :: ps).map (fun q => [q.1, q.2]) ∧
  ∀ (i : Nat) (b : Addr), ks[i]? = some (b, [(minPr p ps).1, (minPr p ps).2]) → Q (.ref b) H
section
variable {X : Cx}
theorem dp_ints {K : PySem.W.Frag} {H : Hp} : ∀ ns : List Int, DpAll K H (ns.map V.int) (ns.map PyData.int)
  | [] => .nil
  | n :: ns => .cons (.int n) (dp_ints ns)
theorem dp_keys {K : PySem.W.Frag} {H : Hp} : ∀ ks : List (Addr × List Int), (∀ k ∈ ks, SqT K H k.1 (k.2.map V.int)) → DpAll K H (ks.map fun k => V.ref k.1) (ks.map fun k => PyData.tuple (k.2.map PyData.int))
  | [], _ => .nil
  | k :: ks, h => .cons (.tup (h k List.mem_cons_self) (dp_ints k.2)) (dp_keys ks fun q hq => h q (List.mem_cons_of_mem _ hq))
theorem prDepth : PySem.W.Datum.depth (Int × Int) ≤ 8 := by decide
theorem cr_minP (hc : X.calm = true) (hu : X.A.units + 64 < cLine) : CallR X (.builtin "min") (rMinP X.K) := by
  intro pins s σ H vs us Q I r h
  obtain ⟨a, ks, p, ps, rfl, hs, hk, hp, q⟩ := h
  obtain ⟨its, rv, hl, hz⟩ := I.list hs
  rw [Vals.ref1 r]
  obtain ⟨as, rs⟩ := Dp.readsAll I _ _ its (dp_keys ks hk) rv
  have ed : (ks.map fun k => PyData.tuple (k.2.map PyData.int)) = (p :: ps).map (PySem.W.Datum.toD (α := Int × Int)) := by
    have : (ks.map fun k => PyData.tuple (k.2.map PyData.int)) = (ks.map (·.2)).map fun l => PyData.tuple (l.map PyData.int) := by rw [List.map_map]; rfl
    rw [this, hp, List.map_map]; rfl
  rw [ed] at rs
  refine PySem.W.min_list_datum (α := Int × Int) (x := p) (xs := ps) (I.ok.hd hc) hl.isList ⟨as, by simpa using rs⟩ (by have hd := prDepth; omega) fun i v h' tk hi hv kk => ?_
  have hi' : its[i]? = some v := by simpa using hi
  have hil : i < its.length := (List.getElem?_eq_some_iff.mp hi').1
  have hlen : ks.length = its.length := by have := rv.length; rwa [List.length_map] at this
  obtain ⟨⟨b, l⟩, hb⟩ : ∃ k, ks[i]? = some k := ⟨_, List.getElem?_eq_getElem (by omega)⟩
  have hbk := List.mem_of_getElem? hb
  obtain ⟨u, hu1, hu2⟩ : ∃ u, its[i]? = some u ∧ RelV (V.ref b) u := by
    exact rv.get (i := i) (by rw [List.getElem?_map, hb]; rfl)
  rw [hi'] at hu1
  cases hu1
  cases hu2
  obtain ⟨as2, r2⟩ := Dp.reads I _ _ _ (Dp.tup (hk _ hbk) (dp_ints l)) (show RelV (V.ref b) (Value.ref b) from rfl)
  obtain ⟨as3, r3⟩ := hv
  obtain ⟨pr, epr⟩ : ∃ pr : Int × Int, l = [pr.1, pr.2] := by
    have hm : l ∈ (p :: ps).map (fun q => [q.1, q.2]) := by rw [← hp]; exact List.mem_map.mpr ⟨_, hbk, rfl⟩
    obtain ⟨pr, _, e⟩ := List.mem_map.mp hm
    exact ⟨pr, e.symm⟩
  have e := PySem.W.alike_unique _ _ _ _ _ (PySem.W.DatumOrd.alike (α := Int × Int) pr (PySem.W.minOf p ps)) (PySem.W.reads_keeps kk (by rw [epr] at r2; exact r2)) r3
  have e2 : pr = minPr p ps := by
    have e : PyData.tuple [.int pr.1, .int pr.2] = PyData.tuple [.int (minPr p ps).1, .int (minPr p ps).2] := e
    injection e with e
    injection e with e3 e
    injection e with e4 _
    injection e3 with e3
    injection e4 with e4
    exact Prod.ext e3 e4
  refine ⟨.ref b, H, I.kept (t' := tk) kk, rfl, q i b ?_⟩
  rw [hb, epr, e2]
theorem os_minP : OpNS X oMinP (rMinP X.K) := by
  intro Wx hid μ st σ H Q ws vs k r P
  unfold oMinP at P
  split at P
  · rename_i x
    obtain ⟨v, rfl, r1⟩ := reps1 (ws := []) r
    split at P
    · rename_i p ps e
      cases e0 : lstW st x with
      | none => rw [e0] at e; cases e
      | some us =>
        rw [e0] at e
        cases e1 : tupsI us with
        | none => simp only [Option.bind_some, e1] at e; cases e
        | some L =>
          simp only [Option.bind_some, e1] at e
          obtain ⟨a, xs, rfl, h1, h2⟩ := lstW_at k e0 r1
          rw [tupsI_eq e1] at h2
          obtain ⟨ks, rfl, rfl, h4⟩ := tups_refs h2
          refine ⟨a, ks, p, ps, rfl, h1, h4, prsI_eq e, fun i b hb => ?_⟩
          obtain ⟨v, g1, g2⟩ := h2.get (i := i) (w := tupOf [(minPr p ps).1, (minPr p ps).2]) (by rw [List.getElem?_map, List.getElem?_map, hb]; rfl)
          rw [List.getElem?_map, hb] at g1
          cases g1
          exact P μ H _ k .refl g2
    · exact P.elim
  · exact P.elim
/-! ## t > u of pairs -/
def rGtP (K : PySem.W.Frag) : R2 := fun x y H Q => ∃ a b p q, x = .ref a ∧ y = .ref b ∧ SqT K H a ([p.1, p.2].map V.int) ∧ SqT K H b ([q.1, q.2].map V.int) ∧ Q (.bl (ltPr q p)) H
theorem op_gtP (hu : X.A.units + 64 < cLine) : OpR X (compareOp .Gt) (rGtP X.K) := by
  intro pins s σ H x y v u Q I rx ry h
  obtain ⟨a, b, p, q, rfl, rfl, ha, hb, hq⟩ := h
  obtain ⟨as, r1⟩ := Dp.reads I _ _ v (Dp.tup ha (dp_ints _)) rx
  obtain ⟨bs, r2⟩ := Dp.reads I _ _ u (Dp.tup hb (dp_ints _)) ry
  exact PySem.W.gt_datum (α := Int × Int) (x := p) (y := q) ⟨as, r1⟩ ⟨bs, r2⟩ (by have hd := prDepth; omega) ⟨.bl _, H, I, rfl, hq⟩
def prI : W → Option (Int × Int)
  | .tup [.int i, .int j] => some (i, j)
  | _ => none
theorem prI_eq {w : W} {p : Int × Int} (h : prI w = some p) : w = tupOf [p.1, p.2] := by
  unfold prI at h
  split at h
  · cases h; rfl
  · cases h
def oGtP : Op2 := fun x y st => match prI x, prI y with
  | some p, some q => .ok (.bl (ltPr q p)) st
  | _, _ => .bad
theorem os_gtP : Op2S X oGtP (rGtP X.K) := by
  intro Wx hid μ st σ H Q w u x y k rx ry P
  unfold oGtP at P
  split at P
  · rename_i p q e1 e2
    rw [prI_eq e1] at rx
    rw [prI_eq e2] at ry
    obtain ⟨a, rfl, h1⟩ := tup_I rx
    obtain ⟨b, rfl, h2⟩ := tup_I ry
    refine ⟨a, b, p, q, rfl, rfl, h1, h2, ?_⟩
    exact P μ H _ k .refl (by unfold Rep; rfl)
  · exact P.elim
/-! ## x in a tuple of data -/
def rInT (K : PySem.W.Frag) : R2 := fun x y H Q => ∃ d ds, Dp K H x d ∧ Dp K H y (.tuple ds) ∧ SeqAt.shaped d = true ∧ SeqAt.shaped (.tuple ds) = true ∧ Q (.bl (ds.any fun z => PyData.eqv z d)) H
theorem op_inT (hu : X.A.units + 65 < cLine) : OpR X (compareOp .In) (rInT X.K) := by
  intro pins s σ H x y v u Q I rx ry h
  obtain ⟨d, ds, hd, he, sd, se, q⟩ := h
  obtain ⟨as, r1⟩ := Dp.reads I d x v hd rx
  obtain ⟨bs, r2⟩ := Dp.reads I (.tuple ds) y u he ry
  exact SeqAt.in_tuple_reads r2 r1 (SeqAt.canLay_of_shaped se) (SeqAt.canLay_of_shaped sd) (room_in_shaped sd hu) ⟨.bl _, H, I, rfl, q⟩
def oInQ : Op2 := fun x y st => match pdT st x, pdT st y with
  | some d, some (.list ds) => if SeqAt.shaped d && SeqAt.shaped (.list ds) then .ok (.bl (ds.any fun z => PyData.eqv z d)) st else .bad
  | some d, some (.tuple ds) => if SeqAt.shaped d && SeqAt.shaped (.tuple ds) then .ok (.bl (ds.any fun z => PyData.eqv z d)) st else .bad
  | _, _ => .bad
theorem op_inQ (hu : X.A.units + 65 < cLine) : OpR X (compareOp .In) (fun x y H Q => rInD X.K x y H Q ∨ rInT X.K x y H Q) := (op_inD hu).or (op_inT hu)
theorem os_inQ : Op2S X oInQ (fun x y H Q => rInD X.K x y H Q ∨ rInT X.K x y H Q) := by
  intro Wx hid μ st σ H Q w u x y k rx ry P
  unfold oInQ at P
  split at P
  · rename_i d ds e1 e2
    split at P
    · rename_i hs
      rw [Bool.and_eq_true] at hs
      exact .inl ⟨d, ds, pdT_at k e1 rx, pdT_at k e2 ry, hs.1, hs.2, P μ H _ k .refl (by unfold Rep; rfl)⟩
    · exact P.elim
  · rename_i d ds e1 e2
    split at P
    · rename_i hs
      rw [Bool.and_eq_true] at hs
      exact .inr ⟨d, ds, pdT_at k e1 rx, pdT_at k e2 ry, hs.1, hs.2, P μ H _ k .refl (by unfold Rep; rfl)⟩
    · exact P.elim
  · exact P.elim
end
/-! ## list(range(n)), to live -/
noncomputable def eLstRgC (f : Sem) : Sem := fun fr st => (f fr st).bind fun w st1 => match w with
  | .int b => if rgOk 0 b = true then .ok (.cell st1.length) (st1 ++ [.lst ((rgI 0 b).map W.int)]) else .bad
  | _ => .bad
section
variable {X : Cx} {Wx : Wish}
theorem ev_lstRgC {a : Expr} {f : Sem} {p pos p2 pos2 : Pos} (hc : X.calm = true) (hm : X.mg "list" = none) (hmr : X.mg "range" = none) (ha : EV X Wx a f) (hg : Gl X "list" := by rfl) (hgr : Gl X "range" := by rfl) (na : starEach [a] X.env = (false, eval a X.env) :: starEach [] X.env := by rfl)
    (ne : starEach [.Call (.Name "range" p2) [a] [] pos2] X.env = (false, eval (.Call (.Name "range" p2) [a] [] pos2) X.env) :: starEach [] X.env := by rfl) : EV X Wx (.Call (.Name "list" p) [.Call (.Name "range" p2) [a] [] pos2] [] pos) (eLstRgC f) :=
  PEm (pe_listRg hc hg hm (prg_1 hgr hmr ha na) ne) fun σ H Q ⟨μ, st, hid, fr, S, P⟩ => by
    unfold tLstRg tRg1
    refine ⟨μ, st, hid, fr, S, ?_⟩
    unfold eLstRgC at P
    cases h : f fr st with
    | bad => rw [h] at P; exact P
    | err x s => rw [h] at P; exact P
    | ok w st1 =>
      rw [h, Out.bind_ok] at P
      intro μ1 H1 v k1 g1 r1
      cases w with
      | int b =>
        have P1 := EPost.from g1 P
        simp only at P1
        split at P1
        · rename_i hb
          refine ⟨b, rep_int_inv r1, dec_of hb, fun q hq => ?_⟩
          obtain ⟨k2, g2⟩ := k1.newCell (c := .lst ((rgI 0 b).map W.int)) (o := .lst (rgV 0 b)) hq rfl ⟨_, upd_same, by rw [rgV_rgI]; exact ro_reps _⟩
          refine P1 _ _ _ k2 g2 ?_
          unfold Rep
          exact ⟨q, by rw [← k1.len]; simp, rfl⟩
        · exact P1.elim
      | _ => exact P.elim
/-- a block's iterator -/
theorem iv_blk {k : Nat} {s : Shared} {H : Hp} {scope : Scope} {cenv : Env} {fp : List Addr} {tg it : Expr} {f : SemI} (C : Ctx X Wx k) (h : Ctx (X.blk s H scope cenv fp) Wx.blk k → IV (X.blk s H scope cenv fp) Wx.blk tg it f) : IV (X.blk s H scope cenv fp) Wx.blk tg it f := h (C.blk ..)
end
end SL

/-! # d.get(k) of dicts with tuple keys; a dict that is not to change any more -/
namespace SLd
open PySem PySem.Spec PyProof.Rows L2
/-- what e gives is a dict; from here on it stays as it is -/
def tStay (te : TE) : TE := fun σ H Q => te σ H fun x H1 => ∃ (d : Addr) (u : HO), x = .ref d ∧ H1 d = some u ∧ Mut (some u) ∧ ∀ od, Q (.ref d) (upd H1 d (.frz od u))
theorem pe_stay {X : Cx} {e : Expr} {te : TE} (h : PE X e te) : PE X e (tStay te) := by
  refine ⟨fun pn s σ H Q J hw => thn (h.run pn s σ H _ J hw) fun v s1 ⟨x, H1, J1, r, d, u, ex, hd, mu, q⟩ => ?_⟩
  subst ex
  obtain ⟨od, J2⟩ := J1.lock hd mu
  exact ⟨.ref d, _, J2, r, q od⟩
end SLd
namespace SL
open PySem PySem.Spec PyProof.Rows L2
def eTGet1 (f g : Sem) : Sem := fun fr st => (f fr st).bind fun x st1 => if (dctT st1 x).isSome = true then (g fr st1).bind fun y st2 => (match dctT st2 x, keyT y with
  | some (kk, ws), some k => .ok ((valT (kk.zip ws) k).getD .non) st2
  | _, _ => .bad) else .bad
/-- a new dict with int or text keys, from here on unchanged -/
def eStayK (f : Sem) : Sem := fun fr st => (f fr st).bind fun x st1 => match x with
  | .cell n => (match st1[n]? with
    | some (.dct ks ws) => (match mapO keyW ks with
      | some _ => .ok (.cell n) (st1.set n (.dct (lkL ks) ws))
      | none => .bad)
    | _ => .bad)
  | _ => .bad
section
variable {X : Cx} {Wx : Wish}
theorem ev_tget1 {k : Nat} {o e : Expr} {f g : Sem} {apos cpos : Pos} (C : Ctx X Wx k) (ho : EV X Wx o f) (he : EV X Wx e g) (m : M1 X o "get" apos e cpos := by exact ⟨rfl, rfl, rfl, rfl⟩) : EV X Wx (.Call (.Attribute o "get" apos) [e] [] cpos) (eTGet1 f g) :=
  PEm (pe_dget1 (by have := C.room.un; omega) ho he m) fun σ H Q ⟨μ, st, hid, fr, S, P⟩ => by
    refine ⟨μ, st, hid, fr, S, ?_⟩
    unfold eTGet1 at P
    cases h1 : f fr st with
    | bad => rw [h1] at P; exact P
    | err x s => rw [h1] at P; exact P
    | ok x st1 =>
      rw [h1, Out.bind_ok] at P
      intro μ1 H1 xv k1 g1 r1
      have P1 := EPost.from g1 P
      split at P1
      · rename_i hx
        obtain ⟨a, rfl, hd⟩ := dctT_isD k1 hx r1
        refine ⟨a, rfl, hd, μ1, st1, hid, fr, S.next k1 g1, ?_⟩
        cases h2 : g fr st1 with
        | bad => rw [h2] at P1; exact P1
        | err x s => rw [h2] at P1; exact P1
        | ok y st2 =>
          rw [h2, Out.bind_ok] at P1
          intro μ2 H2 yv k2 g2 r2
          have P2 := EPost.from g2 P1
          split at P2
          · rename_i kk ws j hx2 hy
            obtain ⟨b, e1, way⟩ := tget_of k2 hx2 hy (Rep.mono g2.le g2.pre _ _ r1) r2
            cases e1
            rcases way with ⟨w, v, e2, e3, e4⟩ | ⟨e2, e3⟩
            · rw [e2] at P2
              exact ⟨some v, e3, P2 μ2 H2 _ k2 .refl e4⟩
            · rw [e2] at P2
              exact ⟨none, e3, P2 μ2 H2 _ k2 .refl rep_non⟩
          · exact P2.elim
      · exact P1.elim
theorem ev_stayK {e : Expr} {f : Sem} (h : EV X Wx e f) : EV X Wx e (eStayK f) := PEm (SLd.pe_stay h) fun σ H Q ⟨μ, st, hid, fr, S, P⟩ => by
  refine ⟨μ, st, hid, fr, S, ?_⟩
  unfold eStayK at P
  cases h1 : f fr st with
  | bad => rw [h1] at P; exact P
  | err x s => rw [h1] at P; exact P
  | ok x st1 =>
    rw [h1, Out.bind_ok] at P
    intro μ1 H1 v k1 g1 r1
    have P1 := EPost.from g1 P
    split at P1
    · rename_i n
      split at P1
      · rename_i ks ws hn
        split at P1
        · rename_i kk hk
          obtain ⟨d, vs, a1, a2, a3, a4, a5⟩ := (S.next k1 g1).lockN hn hk
          have r0 := r1
          unfold Rep at r1
          obtain ⟨p, hp, rfl⟩ := r1
          obtain rfl : p = d := Option.some.inj (hp.symm.trans a1)
          refine ⟨p, _, rfl, a4, trivial, fun od => ?_⟩
          obtain ⟨S2, e2⟩ := a5 od
          refine P1 μ1 _ (.ref p) S2.sto ⟨.refl _, by rw [e2]; exact .refl _, fun b hb => upd_ne fun e => a2 (e ▸ hb), fun b o u hb => ?_⟩ ?_
          · by_cases e : b = p
            · subst e; rw [a4] at hb; cases hb
            · rw [upd_ne e]; exact hb
          · rw [e2]; exact r0
        · exact P1.elim
      · exact P1.elim
    · exact P1.elim
end
/-- a def by another name of the text -/
theorem fn_isA {lv : Nat → W → Sto → Out W} {P : Program} {w : World} {K : PySem.W.Frag} {mg : Str → Option Value} {base : Heap} {x y qual : Str} {st : Stmt} {f : Addr} {fd : FuncData} {N ps : List Str} {k m n : Nat} {b : SSem} (hlv : LvOk K mg lv) (F : Fun K y qual st f fd) (hx : mg x = some (.ref f)) (hB : Binds K fd ps []) (S : FnScope N ps (defScope st))
    (hb : ∀ (cdv : Value) (A : Around) (outer : List Env) (s : Shared) (H : Hp) (E : XK), Ctx (cxOf (L2.CX P w) P w K mg base N qual (defScope st) f cdv A outer s H E) (Wish.of fun c d _ H => E c d H) k → BV (cxOf (L2.CX P w) P w K mg base N qual (defScope st) f cdv A outer s H E) (Wish.of fun c d _ H => E c d H) (defBody st) b)
    (hm : N.length = m := by rfl) (hn : ps.length = n := by rfl) : FnIs P w K mg base x (k + 1) n (mkFnG lv m b) :=
  ⟨f, fd, ps, fn_okG hlv F S hm hn hb, hx, F.kp, hB⟩
end SL

namespace SL
open PySem PySem.Spec PyProof.Rows L2
/-! # plain reckoning: what the meanings come to -/
/-! frames, place by place -/
section
variable {α : Type} {a0 a1 a2 a3 a4 a5 a6 a7 a8 a9 a10 a11 a12 a13 a14 a15 a16 a17 a18 a19 a20 a21 a22 a23 a24 a25 a26 a27 a28 a29 a30 a31 a32 b : α} {l : List α}
@[simp high] theorem fg0 : (a0 :: l)[0]? = some a0 := rfl
@[simp high] theorem fs0 : (a0 :: l).set 0 b = b :: l := rfl
@[simp high] theorem fg1 : (a0 :: a1 :: l)[1]? = some a1 := rfl
@[simp high] theorem fs1 : (a0 :: a1 :: l).set 1 b = a0 :: b :: l := rfl
@[simp high] theorem fg2 : (a0 :: a1 :: a2 :: l)[2]? = some a2 := rfl
@[simp high] theorem fs2 : (a0 :: a1 :: a2 :: l).set 2 b = a0 :: a1 :: b :: l := rfl
@[simp high] theorem fg3 : (a0 :: a1 :: a2 :: a3 :: l)[3]? = some a3 := rfl
@[simp high] theorem fs3 : (a0 :: a1 :: a2 :: a3 :: l).set 3 b = a0 :: a1 :: a2 :: b :: l := rfl
@[simp high] theorem fg4 : (a0 :: a1 :: a2 :: a3 :: a4 :: l)[4]? = some a4 := rfl
@[simp high] theorem fs4 : (a0 :: a1 :: a2 :: a3 :: a4 :: l).set 4 b = a0 :: a1 :: a2 :: a3 :: b :: l := rfl
@[simp high] theorem fg5 : (a0 :: a1 :: a2 :: a3 :: a4 :: a5 :: l)[5]? = some a5 := rfl
@[simp high] theorem fs5 : (a0 :: a1 :: a2 :: a3 :: a4 :: a5 :: l).set 5 b = a0 :: a1 :: a2 :: a3 :: a4 :: b :: l := rfl
@[simp high] theorem fg6 : (a0 :: a1 :: a2 :: a3 :: a4 :: a5 :: a6 :: l)[6]? = some a6 := rfl
@[simp high] theorem fs6 : (a0 :: a1 :: a2 :: a3 :: a4 :: a5 :: a6 :: l).set 6 b = a0 :: a1 :: a2 :: a3 :: a4 :: a5 :: b :: l := rfl
@[simp high] theorem fg7 : (a0 :: a1 :: a2 :: a3 :: a4 :: a5 :: a6 :: a7 :: l)[7]? = some a7 := rfl
@[simp high] theorem fs7 : (a0 :: a1 :: a2 :: a3 :: a4 :: a5 :: a6 :: a7 :: l).set 7 b = a0 :: a1 :: a2 :: a3 :: a4 :: a5 :: a6 :: b :: l := rfl
@[simp high] theorem fg8 : (a0 :: a1 :: a2 :: a3 :: a4 :: a5 :: a6 :: a7 :: a8 :: l)[8]? = some a8 := rfl
@[simp high] theorem fs8 : (a0 :: a1 :: a2 :: a3 :: a4 :: a5 :: a6 :: a7 :: a8 :: l).set 8 b = a0 :: a1 :: a2 :: a3 :: a4 :: a5 :: a6 :: a7 :: b :: l := rfl
@[simp high] theorem fg9 : (a0 :: a1 :: a2 :: a3 :: a4 :: a5 :: a6 :: a7 :: a8 :: a9 :: l)[9]? = some a9 := rfl
@[simp high] theorem fs9 : (a0 :: a1 :: a2 :: a3 :: a4 :: a5 :: a6 :: a7 :: a8 :: a9 :: l).set 9 b = a0 :: a1 :: a2 :: a3 :: a4 :: a5 :: a6 :: a7 :: a8 :: b :: l := rfl
@[simp high] theorem fg10 : (a0 :: a1 :: a2 :: a3 :: a4 :: a5 :: a6 :: a7 :: a8 :: a9 :: a10 :: l)[10]? = some a10 := rfl
@[simp high] theorem fs10 : (a0 :: a1 :: a2 :: a3 :: a4 :: a5 :: a6 :: a7 :: a8 :: a9 :: a10 :: l).set 10 b = a0 :: a1 :: a2 :: a3 :: a4 :: a5 :: a6 :: a7 :: a8 :: a9 :: b :: l := rfl
@[simp high] theorem fg11 : (a0 :: a1 :: a2 :: a3 :: a4 :: a5 :: a6 :: a7 :: a8 :: a9 :: a10 :: a11 :: l)[11]? = some a11 := rfl
@[simp high] theorem fs11 : (a0 :: a1 :: a2 :: a3 :: a4 :: a5 :: a6 :: a7 :: a8 :: a9 :: a10 :: a11 :: l).set 11 b = a0 :: a1 :: a2 :: a3 :: a4 :: a5 :: a6 :: a7 :: a8 :: a9 :: a10 :: b :: l := rfl
@[simp high] theorem fg12 : (a0 :: a1 :: a2 :: a3 :: a4 :: a5 :: a6 :: a7 :: a8 :: a9 :: a10 :: a11 :: a12 :: l)[12]? = some a12 := rfl
@[simp high] theorem fs12 : (a0 :: a1 :: a2 :: a3 :: a4 :: a5 :: a6 :: a7 :: a8 :: a9 :: a10 :: a11 :: a12 :: l).set 12 b = a0 :: a1 :: a2 :: a3 :: a4 :: a5 :: a6 :: a7 :: a8 :: a9 :: a10 :: a11 :: b :: l := rfl
@[simp high] theorem fg13 : (a0 :: a1 :: a2 :: a3 :: a4 :: a5 :: a6 :: a7 :: a8 :: a9 :: a10 :: a11 :: a12 :: a13 :: l)[13]? = some a13 := rfl
@[simp high] theorem fs13 : (a0 :: a1 :: a2 :: a3 :: a4 :: a5 :: a6 :: a7 :: a8 :: a9 :: a10 :: a11 :: a12 :: a13 :: l).set 13 b = a0 :: a1 :: a2 :: a3 :: a4 :: a5 :: a6 :: a7 :: a8 :: a9 :: a10 :: a11 :: a12 :: b :: l := rfl
@[simp high] theorem fg14 : (a0 :: a1 :: a2 :: a3 :: a4 :: a5 :: a6 :: a7 :: a8 :: a9 :: a10 :: a11 :: a12 :: a13 :: a14 :: l)[14]? = some a14 := rfl
@[simp high] theorem fs14 : (a0 :: a1 :: a2 :: a3 :: a4 :: a5 :: a6 :: a7 :: a8 :: a9 :: a10 :: a11 :: a12 :: a13 :: a14 :: l).set 14 b = a0 :: a1 :: a2 :: a3 :: a4 :: a5 :: a6 :: a7 :: a8 :: a9 :: a10 :: a11 :: a12 :: a13 :: b :: l := rfl
@[simp high] theorem fg15 : (a0 :: a1 :: a2 :: a3 :: a4 :: a5 :: a6 :: a7 :: a8 :: a9 :: a10 :: a11 :: a12 :: a13 :: a14 :: a15 :: l)[15]? = some a15 := rfl
@[simp high] theorem fs15 : (a0 :: a1 :: a2 :: a3 :: a4 :: a5 :: a6 :: a7 :: a8 :: a9 :: a10 :: a11 :: a12 :: a13 :: a14 :: a15 :: l).set 15 b = a0 :: a1 :: a2 :: a3 :: a4 :: a5 :: a6 :: a7 :: a8 :: a9 :: a10 :: a11 :: a12 :: a13 :: a14 :: b :: l := rfl
@[simp high] theorem fg16 : (a0 :: a1 :: a2 :: a3 :: a4 :: a5 :: a6 :: a7 :: a8 :: a9 :: a10 :: a11 :: a12 :: a13 :: a14 :: a15 :: a16 :: l)[16]? = some a16 := rfl
@[simp high] theorem fs16 : (a0 :: a1 :: a2 :: a3 :: a4 :: a5 :: a6 :: a7 :: a8 :: a9 :: a10 :: a11 :: a12 :: a13 :: a14 :: a15 :: a16 :: l).set 16 b = a0 :: a1 :: a2 :: a3 :: a4 :: a5 :: a6 :: a7 :: a8 :: a9 :: a10 :: a11 :: a12 :: a13 :: a14 :: a15 :: b :: l := rfl
@[simp high] theorem fg17 : (a0 :: a1 :: a2 :: a3 :: a4 :: a5 :: a6 :: a7 :: a8 :: a9 :: a10 :: a11 :: a12 :: a13 :: a14 :: a15 :: a16 :: a17 :: l)[17]? = some a17 := rfl
@[simp high] theorem fs17 : (a0 :: a1 :: a2 :: a3 :: a4 :: a5 :: a6 :: a7 :: a8 :: a9 :: a10 :: a11 :: a12 :: a13 :: a14 :: a15 :: a16 :: a17 :: l).set 17 b = a0 :: a1 :: a2 :: a3 :: a4 :: a5 :: a6 :: a7 :: a8 :: a9 :: a10 :: a11 :: a12 :: a13 :: a14 :: a15 :: a16 :: b :: l := rfl
@[simp high] theorem fg18 : (a0 :: a1 :: a2 :: a3 :: a4 :: a5 :: a6 :: a7 :: a8 :: a9 :: a10 :: a11 :: a12 :: a13 :: a14 :: a15 :: a16 :: a17 :: a18 :: l)[18]? = some a18 := rfl
@[simp high] theorem fs18 : (a0 :: a1 :: a2 :: a3 :: a4 :: a5 :: a6 :: a7 :: a8 :: a9 :: a10 :: a11 :: a12 :: a13 :: a14 :: a15 :: a16 :: a17 :: a18 :: l).set 18 b = a0 :: a1 :: a2 :: a3 :: a4 :: a5 :: a6 :: a7 :: a8 :: a9 :: a10 :: a11 :: a12 :: a13 :: a14 :: a15 :: a16 :: a17 :: b :: l := rfl
@[simp high] theorem fg19 : (a0 :: a1 :: a2 :: a3 :: a4 :: a5 :: a6 :: a7 :: a8 :: a9 :: a10 :: a11 :: a12 :: a13 :: a14 :: a15 :: a16 :: a17 :: a18 :: a19 :: l)[19]? = some a19 := rfl
@[simp high] theorem fs19 : (a0 :: a1 :: a2 :: a3 :: a4 :: a5 :: a6 :: a7 :: a8 :: a9 :: a10 :: a11 :: a12 :: a13 :: a14 :: a15 :: a16 :: a17 :: a18 :: a19 :: l).set 19 b = a0 :: a1 :: a2 :: a3 :: a4 :: a5 :: a6 :: a7 :: a8 :: a9 :: a10 :: a11 :: a12 :: a13 :: a14 :: a15 :: a16 :: a17 :: a18 :: b :: l := rfl
@[simp high] theorem fg20 : (a0 :: a1 :: a2 :: a3 :: a4 :: a5 :: a6 :: a7 :: a8 :: a9 :: a10 :: a11 :: a12 :: a13 :: a14 :: a15 :: a16 :: a17 :: a18 :: a19 :: a20 :: l)[20]? = some a20 := rfl
@[simp high] theorem fs20 : (a0 :: a1 :: a2 :: a3 :: a4 :: a5 :: a6 :: a7 :: a8 :: a9 :: a10 :: a11 :: a12 :: a13 :: a14 :: a15 :: a16 :: a17 :: a18 :: a19 :: a20 :: l).set 20 b = a0 :: a1 :: a2 :: a3 :: a4 :: a5 :: a6 :: a7 :: a8 :: a9 :: a10 :: a11 :: a12 :: a13 :: a14 :: a15 :: a16 :: a17 :: a18 :: a19 :: b :: l := rfl
@[simp high] theorem fg21 : (a0 :: a1 :: a2 :: a3 :: a4 :: a5 :: a6 :: a7 :: a8 :: a9 :: a10 :: a11 :: a12 :: a13 :: a14 :: a15 :: a16 :: a17 :: a18 :: a19 :: a20 :: a21 :: l)[21]? = some a21 := rfl
@[simp high] theorem fs21 : (a0 :: a1 :: a2 :: a3 :: a4 :: a5 :: a6 :: a7 :: a8 :: a9 :: a10 :: a11 :: a12 :: a13 :: a14 :: a15 :: a16 :: a17 :: a18 :: a19 :: a20 :: a21 :: l).set 21 b = a0 :: a1 :: a2 :: a3 :: a4 :: a5 :: a6 :: a7 :: a8 :: a9 :: a10 :: a11 :: a12 :: a13 :: a14 :: a15 :: a16 :: a17 :: a18 :: a19 :: a20 :: b :: l := rfl
@[simp high] theorem fg22 : (a0 :: a1 :: a2 :: a3 :: a4 :: a5 :: a6 :: a7 :: a8 :: a9 :: a10 :: a11 :: a12 :: a13 :: a14 :: a15 :: a16 :: a17 :: a18 :: a19 :: a20 :: a21 :: a22 :: l)[22]? = some a22 := rfl
@[simp high] theorem fs22 : (a0 :: a1 :: a2 :: a3 :: a4 :: a5 :: a6 :: a7 :: a8 :: a9 :: a10 :: a11 :: a12 :: a13 :: a14 :: a15 :: a16 :: a17 :: a18 :: a19 :: a20 :: a21 :: a22 :: l).set 22 b = a0 :: a1 :: a2 :: a3 :: a4 :: a5 :: a6 :: a7 :: a8 :: a9 :: a10 :: a11 :: a12 :: a13 :: a14 :: a15 :: a16 :: a17 :: a18 :: a19 :: a20 :: a21 :: b :: l := rfl
@[simp high] theorem fg23 : (a0 :: a1 :: a2 :: a3 :: a4 :: a5 :: a6 :: a7 :: a8 :: a9 :: a10 :: a11 :: a12 :: a13 :: a14 :: a15 :: a16 :: a17 :: a18 :: a19 :: a20 :: a21 :: a22 :: a23 :: l)[23]? = some a23 := rfl
@[simp high] theorem fs23 : (a0 :: a1 :: a2 :: a3 :: a4 :: a5 :: a6 :: a7 :: a8 :: a9 :: a10 :: a11 :: a12 :: a13 :: a14 :: a15 :: a16 :: a17 :: a18 :: a19 :: a20 :: a21 :: a22 :: a23 :: l).set 23 b = a0 :: a1 :: a2 :: a3 :: a4 :: a5 :: a6 :: a7 :: a8 :: a9 :: a10 :: a11 :: a12 :: a13 :: a14 :: a15 :: a16 :: a17 :: a18 :: a19 :: a20 :: a21 :: a22 :: b :: l := rfl
@[simp high] theorem fg24 : (a0 :: a1 :: a2 :: a3 :: a4 :: a5 :: a6 :: a7 :: a8 :: a9 :: a10 :: a11 :: a12 :: a13 :: a14 :: a15 :: a16 :: a17 :: a18 :: a19 :: a20 :: a21 :: a22 :: a23 :: a24 :: l)[24]? = some a24 := rfl
@[simp high] theorem fs24 : (a0 :: a1 :: a2 :: a3 :: a4 :: a5 :: a6 :: a7 :: a8 :: a9 :: a10 :: a11 :: a12 :: a13 :: a14 :: a15 :: a16 :: a17 :: a18 :: a19 :: a20 :: a21 :: a22 :: a23 :: a24 :: l).set 24 b = a0 :: a1 :: a2 :: a3 :: a4 :: a5 :: a6 :: a7 :: a8 :: a9 :: a10 :: a11 :: a12 :: a13 :: a14 :: a15 :: a16 :: a17 :: a18 :: a19 :: a20 :: a21 :: a22 :: a23 :: b :: l := rfl
@[simp high] theorem fg25 : (a0 :: a1 :: a2 :: a3 :: a4 :: a5 :: a6 :: a7 :: a8 :: a9 :: a10 :: a11 :: a12 :: a13 :: a14 :: a15 :: a16 :: a17 :: a18 :: a19 :: a20 :: a21 :: a22 :: a23 :: a24 :: a25 :: l)[25]? = some a25 := rfl
@[simp high] theorem fs25 : (a0 :: a1 :: a2 :: a3 :: a4 :: a5 :: a6 :: a7 :: a8 :: a9 :: a10 :: a11 :: a12 :: a13 :: a14 :: a15 :: a16 :: a17 :: a18 :: a19 :: a20 :: a21 :: a22 :: a23 :: a24 :: a25 :: l).set 25 b = a0 :: a1 :: a2 :: a3 :: a4 :: a5 :: a6 :: a7 :: a8 :: a9 :: a10 :: a11 :: a12 :: a13 :: a14 :: a15 :: a16 :: a17 :: a18 :: a19 :: a20 :: a21 :: a22 :: a23 :: a24 :: b :: l := rfl
@[simp high] theorem fg26 : (a0 :: a1 :: a2 :: a3 :: a4 :: a5 :: a6 :: a7 :: a8 :: a9 :: a10 :: a11 :: a12 :: a13 :: a14 :: a15 :: a16 :: a17 :: a18 :: a19 :: a20 :: a21 :: a22 :: a23 :: a24 :: a25 :: a26 :: l)[26]? = some a26 := rfl
@[simp high] theorem fs26 : (a0 :: a1 :: a2 :: a3 :: a4 :: a5 :: a6 :: a7 :: a8 :: a9 :: a10 :: a11 :: a12 :: a13 :: a14 :: a15 :: a16 :: a17 :: a18 :: a19 :: a20 :: a21 :: a22 :: a23 :: a24 :: a25 :: a26 :: l).set 26 b = a0 :: a1 :: a2 :: a3 :: a4 :: a5 :: a6 :: a7 :: a8 :: a9 :: a10 :: a11 :: a12 :: a13 :: a14 :: a15 :: a16 :: a17 :: a18 :: a19 :: a20 :: a21 :: a22 :: a23 :: a24 :: a25 :: b :: l := rfl
@[simp high] theorem fg27 : (a0 :: a1 :: a2 :: a3 :: a4 :: a5 :: a6 :: a7 :: a8 :: a9 :: a10 :: a11 :: a12 :: a13 :: a14 :: a15 :: a16 :: a17 :: a18 :: a19 :: a20 :: a21 :: a22 :: a23 :: a24 :: a25 :: a26 :: a27 :: l)[27]? = some a27 := rfl
@[simp high] theorem fs27 : (a0 :: a1 :: a2 :: a3 :: a4 :: a5 :: a6 :: a7 :: a8 :: a9 :: a10 :: a11 :: a12 :: a13 :: a14 :: a15 :: a16 :: a17 :: a18 :: a19 :: a20 :: a21 :: a22 :: a23 :: a24 :: a25 :: a26 :: a27 :: l).set 27 b = a0 :: a1 :: a2 :: a3 :: a4 :: a5 :: a6 :: a7 :: a8 :: a9 :: a10 :: a11 :: a12 :: a13 :: a14 :: a15 :: a16 :: a17 :: a18 :: a19 :: a20 :: a21 :: a22 :: a23 :: a24 :: a25 :: a26 :: b :: l := rfl
@[simp high] theorem fg28 : (a0 :: a1 :: a2 :: a3 :: a4 :: a5 :: a6 :: a7 :: a8 :: a9 :: a10 :: a11 :: a12 :: a13 :: a14 :: a15 :: a16 :: a17 :: a18 :: a19 :: a20 :: a21 :: a22 :: a23 :: a24 :: a25 :: a26 :: a27 :: a28 :: l)[28]? = some a28 := rfl
@[simp high] theorem fs28 : (a0 :: a1 :: a2 :: a3 :: a4 :: a5 :: a6 :: a7 :: a8 :: a9 :: a10 :: a11 :: a12 :: a13 :: a14 :: a15 :: a16 :: a17 :: a18 :: a19 :: a20 :: a21 :: a22 :: a23 :: a24 :: a25 :: a26 :: a27 :: a28 :: l).set 28 b = a0 :: a1 :: a2 :: a3 :: a4 :: a5 :: a6 :: a7 :: a8 :: a9 :: a10 :: a11 :: a12 :: a13 :: a14 :: a15 :: a16 :: a17 :: a18 :: a19 :: a20 :: a21 :: a22 :: a23 :: a24 :: a25 :: a26 :: a27 :: b :: l := rfl
@[simp high] theorem fg29 : (a0 :: a1 :: a2 :: a3 :: a4 :: a5 :: a6 :: a7 :: a8 :: a9 :: a10 :: a11 :: a12 :: a13 :: a14 :: a15 :: a16 :: a17 :: a18 :: a19 :: a20 :: a21 :: a22 :: a23 :: a24 :: a25 :: a26 :: a27 :: a28 :: a29 :: l)[29]? = some a29 := rfl
@[simp high] theorem fs29 : (a0 :: a1 :: a2 :: a3 :: a4 :: a5 :: a6 :: a7 :: a8 :: a9 :: a10 :: a11 :: a12 :: a13 :: a14 :: a15 :: a16 :: a17 :: a18 :: a19 :: a20 :: a21 :: a22 :: a23 :: a24 :: a25 :: a26 :: a27 :: a28 :: a29 :: l).set 29 b = a0 :: a1 :: a2 :: a3 :: a4 :: a5 :: a6 :: a7 :: a8 :: a9 :: a10 :: a11 :: a12 :: a13 :: a14 :: a15 :: a16 :: a17 :: a18 :: a19 :: a20 :: a21 :: a22 :: a23 :: a24 :: a25 :: a26 :: a27 :: a28 :: b :: l := rfl
@[simp high] theorem fg30 : (a0 :: a1 :: a2 :: a3 :: a4 :: a5 :: a6 :: a7 :: a8 :: a9 :: a10 :: a11 :: a12 :: a13 :: a14 :: a15 :: a16 :: a17 :: a18 :: a19 :: a20 :: a21 :: a22 :: a23 :: a24 :: a25 :: a26 :: a27 :: a28 :: a29 :: a30 :: l)[30]? = some a30 := rfl
@[simp high] theorem fs30 : (a0 :: a1 :: a2 :: a3 :: a4 :: a5 :: a6 :: a7 :: a8 :: a9 :: a10 :: a11 :: a12 :: a13 :: a14 :: a15 :: a16 :: a17 :: a18 :: a19 :: a20 :: a21 :: a22 :: a23 :: a24 :: a25 :: a26 :: a27 :: a28 :: a29 :: a30 :: l).set 30 b = a0 :: a1 :: a2 :: a3 :: a4 :: a5 :: a6 :: a7 :: a8 :: a9 :: a10 :: a11 :: a12 :: a13 :: a14 :: a15 :: a16 :: a17 :: a18 :: a19 :: a20 :: a21 :: a22 :: a23 :: a24 :: a25 :: a26 :: a27 :: a28 :: a29 :: b :: l := rfl
@[simp high] theorem fg31 : (a0 :: a1 :: a2 :: a3 :: a4 :: a5 :: a6 :: a7 :: a8 :: a9 :: a10 :: a11 :: a12 :: a13 :: a14 :: a15 :: a16 :: a17 :: a18 :: a19 :: a20 :: a21 :: a22 :: a23 :: a24 :: a25 :: a26 :: a27 :: a28 :: a29 :: a30 :: a31 :: l)[31]? = some a31 := rfl
@[simp high] theorem fs31 : (a0 :: a1 :: a2 :: a3 :: a4 :: a5 :: a6 :: a7 :: a8 :: a9 :: a10 :: a11 :: a12 :: a13 :: a14 :: a15 :: a16 :: a17 :: a18 :: a19 :: a20 :: a21 :: a22 :: a23 :: a24 :: a25 :: a26 :: a27 :: a28 :: a29 :: a30 :: a31 :: l).set 31 b = a0 :: a1 :: a2 :: a3 :: a4 :: a5 :: a6 :: a7 :: a8 :: a9 :: a10 :: a11 :: a12 :: a13 :: a14 :: a15 :: a16 :: a17 :: a18 :: a19 :: a20 :: a21 :: a22 :: a23 :: a24 :: a25 :: a26 :: a27 :: a28 :: a29 :: a30 :: b :: l := rfl
@[simp high] theorem fg32 : (a0 :: a1 :: a2 :: a3 :: a4 :: a5 :: a6 :: a7 :: a8 :: a9 :: a10 :: a11 :: a12 :: a13 :: a14 :: a15 :: a16 :: a17 :: a18 :: a19 :: a20 :: a21 :: a22 :: a23 :: a24 :: a25 :: a26 :: a27 :: a28 :: a29 :: a30 :: a31 :: a32 :: l)[32]? = some a32 := rfl
@[simp high] theorem fs32 : (a0 :: a1 :: a2 :: a3 :: a4 :: a5 :: a6 :: a7 :: a8 :: a9 :: a10 :: a11 :: a12 :: a13 :: a14 :: a15 :: a16 :: a17 :: a18 :: a19 :: a20 :: a21 :: a22 :: a23 :: a24 :: a25 :: a26 :: a27 :: a28 :: a29 :: a30 :: a31 :: a32 :: l).set 32 b = a0 :: a1 :: a2 :: a3 :: a4 :: a5 :: a6 :: a7 :: a8 :: a9 :: a10 :: a11 :: a12 :: a13 :: a14 :: a15 :: a16 :: a17 :: a18 :: a19 :: a20 :: a21 :: a22 :: a23 :: a24 :: a25 :: a26 :: a27 :: a28 :: a29 :: a30 :: a31 :: b :: l := rfl
end
section
variable {fr : Fr} {st : Sto} {f g h : Sem} {b c : SemB} {s t : SSem} {i j : Int} {n k : Nat} {l : SemL} {w u : W}
@[simp] theorem x_seq : sSeq s t fr st = (match s fr st with | .nx fr1 st1 => t fr1 st1 | o => o) := rfl
@[simp] theorem x_nil : sNil fr st = .nx fr st := rfl
@[simp] theorem x_exp : sExp f fr st = (f fr st).stm fr fun _ st1 => .nx fr st1 := rfl
@[simp] theorem x_ret : sRet f fr st = (f fr st).stm fr fun w st1 => .rt w st1 := rfl
@[simp] theorem x_retN : sRetN fr st = .rt .non st := rfl
@[simp] theorem x_bk : sBk fr st = .bk fr st := rfl
@[simp] theorem x_ct : sCt fr st = .ct fr st := rfl
@[simp] theorem x_if : sIf b s t fr st = (b fr st).stm fr fun b st1 => if b = true then s fr st1 else t fr st1 := rfl
@[simp] theorem x_asgN : sAsg f (gNm n) fr st = (f fr st).stm fr fun w st1 => .nx (fr.set n (some w)) st1 := rfl
@[simp] theorem x_subL {o i : Sem} : sSub uLst f o i fr st = (f fr st).stm fr fun w st1 => (o fr st1).stm fr fun o st2 => (i fr st2).stm fr fun i st3 => match uLst o i w st3 with
  | some st4 => .nx fr st4
  | none => .bad := rfl
theorem x_uLst : uLst (.cell k) (.int j) w st = (match st[k]? with
    | some (.lst ws) => (ixN ws.length j).map fun n => st.set k (.lst (ws.set n w))
    | _ => none) := rfl
@[simp] theorem x_var : eVar n fr st = (match fr[n]? with
  | some (some w) => .ok w st
  | _ => .bad) := rfl
@[simp] theorem x_c : eC w fr st = .ok w st := rfl
@[simp] theorem x_2 {op : Op2} : e2 op f g fr st = (f fr st).bind fun w st1 => (g fr st1).bind fun u st2 => op w u st2 := rfl
@[simp] theorem x_1 {op : Op1} : e1 op f fr st = (f fr st).bind fun w st1 => op w st1 := rfl
@[simp] theorem x_N {op : OpN} : eN op l fr st = (l fr st).bind fun w st1 => op w st1 := rfl
@[simp] theorem x_call {F : Fn} : eCall F l fr st = (l fr st).bind fun w st1 => F w st1 := rfl
@[simp] theorem x_aNil : aNil fr st = .ok [] st := rfl
@[simp] theorem x_aCons : aCons f l fr st = (f fr st).bind fun w st1 => (l fr st1).bind fun ws st2 => .ok (w :: ws) st2 := rfl
@[simp] theorem x_bOf : bOf f fr st = (f fr st).bind fun w st1 => match w with
  | .bl b => .ok b st1
  | _ => .bad := rfl
@[simp] theorem x_bNot : bNot b fr st = (b fr st).bind fun b st1 => .ok (!b) st1 := rfl
@[simp] theorem x_bAnd : bAnd b c fr st = (b fr st).bind fun b st1 => if b = true then c fr st1 else .ok false st1 := rfl
@[simp] theorem x_bOr : bOr b c fr st = (b fr st).bind fun b st1 => if b = true then .ok true st1 else c fr st1 := rfl
@[simp] theorem x_and : eAnd f g fr st = (f fr st).bind fun w st1 => match w with
  | .bl b => if b = true then g fr st1 else .ok (.bl false) st1
  | _ => .bad := rfl
@[simp] theorem x_or : eOr f g fr st = (f fr st).bind fun w st1 => match w with
  | .bl b => if b = true then .ok (.bl true) st1 else g fr st1
  | _ => .bad := rfl
@[simp] theorem x_not : eNot f fr st = (f fr st).bind fun w st1 => match w with
  | .bl b => .ok (.bl (!b)) st1
  | _ => .bad := rfl
@[simp] theorem x_ife : eIf b f g fr st = (b fr st).bind fun b st1 => if b = true then f fr st1 else g fr st1 := rfl
@[simp] theorem x_chain {op op' : Op2} : eChain op op' f g h fr st = (f fr st).bind fun x st1 => (g fr st1).bind fun y st2 => (op x y st2).bind fun z st3 => match z with
  | .bl b => if b = true then (h fr st3).bind fun w st4 => op' y w st4 else .ok (.bl false) st3
  | _ => .bad := rfl
@[simp] theorem x_add : oAdd (.int i) (.int j) st = .ok (.int (i + j)) st := rfl
@[simp] theorem x_sub : oSub (.int i) (.int j) st = .ok (.int (i - j)) st := rfl
@[simp] theorem x_neg : oNeg (.int i) st = .ok (.int (-i)) st := rfl
theorem x_mul (h : mulOk i j = true) : oMul (.int i) (.int j) st = .ok (.int (i * j)) st := if_pos h
theorem mul_small (h : -(2 ^ 64) < j ∧ j < 2 ^ 64) : mulOk i j = true := by
  unfold mulOk
  rw [Bool.or_eq_true]
  exact .inl (dec_mk (.inr h))
theorem mul_smallL (h : -(2 ^ 64) < i ∧ i < 2 ^ 64) : mulOk i j = true := by
  unfold mulOk
  rw [Bool.or_eq_true]
  exact .inl (dec_mk (.inl h))
@[simp] theorem x_mulR (h : -(2 ^ 64) < j ∧ j < 2 ^ 64) : oMul (.int i) (.int j) st = .ok (.int (i * j)) st := x_mul (mul_small h)
@[simp] theorem x_mulL (h : -(2 ^ 64) < i ∧ i < 2 ^ 64) : oMul (.int i) (.int j) st = .ok (.int (i * j)) st := x_mul (mul_smallL h)
@[simp] theorem x_div (h : 0 < j) (h2 : j.natAbs.log2 < 9000) : oDiv (.int i) (.int j) st = .ok (.int (i / j)) st := if_pos (dec_mk ⟨h, h2⟩)
theorem log_small {j : Int} (h : 0 < j) (h2 : j < 2 ^ 64) : j.natAbs.log2 < 9000 := by
  have : j.natAbs < 2 ^ 64 := by omega
  have := (Nat.log2_lt (n := j.natAbs) (k := 64) (by omega)).mpr this
  omega
@[simp] theorem x_divS (h : 0 < j) (h2 : j < 2 ^ 64) : oDiv (.int i) (.int j) st = .ok (.int (i / j)) st := x_div h (log_small h h2)
@[simp] theorem x_mod (h : 0 < j) : oMod (.int i) (.int j) st = .ok (.int (i % j)) st := if_pos h
@[simp] theorem x_pow (h : 0 ≤ j ∧ j ≤ 1000000 ∧ i.natAbs < 2 ^ 64) : oPow (.int i) (.int j) st = .ok (.int (i ^ j.toNat)) st := if_pos (dec_mk h)
@[simp] theorem x_le : oLe (.int i) (.int j) st = .ok (.bl (decide (i ≤ j))) st := rfl
@[simp] theorem x_lt : oLt (.int i) (.int j) st = .ok (.bl (decide (i < j))) st := rfl
@[simp] theorem x_gt : oGt (.int i) (.int j) st = .ok (.bl (decide (j < i))) st := rfl
@[simp] theorem x_ge : oGe (.int i) (.int j) st = .ok (.bl (decide (j ≤ i))) st := rfl
@[simp] theorem x_int : oInt [.int i] st = .ok (.int i) st := rfl
@[simp] theorem x_intB {b : Bool} : oInt [.bl b] st = .ok (.int (if b then 1 else 0)) st := rfl
@[simp] theorem x_eqI : oEq (.int i) (.int j) st = .ok (.bl (decide (i = j))) st := by
  show (match eqW st (.int i) (.int j) with | some b => Out.ok (W.bl b) st | none => .bad) = _
  have : eqW st (.int i) (.int j) = some (decide (i = j)) := by
    show (if SeqAt.shaped (.int i) && SeqAt.shaped (.int j) then some (PyData.eqv (.int i) (.int j)) else none) = _
    have z : ∀ i : Int, SeqAt.shaped (.int i) = true := fun i => by rfl
    rw [z, z]
    show some (i == j) = _
    congr 1
  rw [this]
@[simp] theorem x_neI : oNe (.int i) (.int j) st = .ok (.bl (!decide (i = j))) st := by
  show (match eqW st (.int i) (.int j) with | some b => Out.ok (W.bl (!b)) st | none => .bad) = _
  have : eqW st (.int i) (.int j) = some (decide (i = j)) := by
    show (if SeqAt.shaped (.int i) && SeqAt.shaped (.int j) then some (PyData.eqv (.int i) (.int j)) else none) = _
    have z : ∀ i : Int, SeqAt.shaped (.int i) = true := fun i => by rfl
    rw [z, z]
    show some (i == j) = _
    congr 1
  rw [this]
@[simp] theorem x_isN : oIs w .non st = .ok (.bl (isNon w)) st := rfl
@[simp] theorem x_isNN : oIsN w .non st = .ok (.bl (!isNon w)) st := rfl
theorem x_tup {ws : List W} (h : ws.length ≤ 1000) : oTup ws st = .ok (.tup ws) st := if_pos (decide_eq_true h)
theorem x_lst {ws : List W} (h : ws.length ≤ 1000) : oLst ws st = .ok (.lst ws) st := if_pos (decide_eq_true h)
theorem x_cell {ws : List W} (h : ws.length ≤ 1000) : oCell ws st = .ok (.cell st.length) (st ++ [.lst ws]) := if_pos (decide_eq_true h)
@[simp] theorem x_pNo : pNo fr st = .ok none st := rfl
@[simp] theorem x_pYes : pYes f fr st = (f fr st).bind fun w st1 => match w with
  | .int i => .ok (some i) st1
  | _ => .bad := rfl
@[simp] theorem x_sl {l h : SemO} : eSl f l h fr st = (f fr st).bind fun x st1 => (l fr st1).bind fun lo st2 => (h fr st2).bind fun hi st3 => oSl x lo hi st3 := rfl
@[simp] theorem x_iSeq : iSeq f fr st = (f fr st).bind fun x st1 => match itW st1 x with
  | some ws => .ok (x, ws) st1
  | none => .bad := rfl
@[simp] theorem x_eM {ty : Sto → W → Bool} {op : OpM} : eM ty op f l fr st = (f fr st).bind fun w st1 => if ty st1 w = true then (l fr st1).bind fun ws st2 => op w ws st2 else .bad := rfl
@[simp] theorem x_lst_lst {ws : List W} : lstW st (.lst ws) = some ws := rfl
@[simp] theorem x_lst_ro {ws : List W} : lstW st (.ro ws) = some ws := rfl
@[simp] theorem x_lst_tup {ws : List W} : lstW st (.tup ws) = none := rfl
@[simp] theorem x_tup_tup {ws : List W} : tupW st (.tup ws) = some ws := rfl
@[simp] theorem x_seq_lst {ws : List W} : seqW st (.lst ws) = some ws := rfl
@[simp] theorem x_seq_ro {ws : List W} : seqW st (.ro ws) = some ws := rfl
@[simp] theorem x_seq_tup {ws : List W} : seqW st (.tup ws) = some ws := rfl
@[simp] theorem x_it_lst {ws : List W} : itW st (.lst ws) = some ws := rfl
@[simp] theorem x_it_ro {ws : List W} : itW st (.ro ws) = some ws := rfl
@[simp] theorem x_it_tup {ws : List W} : itW st (.tup ws) = some ws := rfl
theorem x_len {ws : List W} (h : seqW st w = some ws) (hn : ∀ x, w ≠ .str x) : oLen [w] st = .ok (.int ws.length) st := by
  cases w <;> first | exact absurd rfl (hn _) | simp [oLen, h]
@[simp] theorem x_len_tup {ws : List W} : oLen [.tup ws] st = .ok (.int ws.length) st := rfl
@[simp] theorem x_len_lst {ws : List W} : oLen [.lst ws] st = .ok (.int ws.length) st := rfl
@[simp] theorem x_len_ro {ws : List W} : oLen [.ro ws] st = .ok (.int ws.length) st := rfl
@[simp] theorem x_list_tup {ws : List W} : oList [.tup ws] st = .ok (.lst ws) st := rfl
@[simp] theorem x_list_lst {ws : List W} : oList [.lst ws] st = .ok (.lst ws) st := rfl
@[simp] theorem x_tuple_lst {ws : List W} : oTuple [.lst ws] st = .ok (.tup ws) st := rfl
@[simp] theorem x_tuple_tup {ws : List W} : oTuple [.tup ws] st = .ok (.tup ws) st := rfl
@[simp] theorem x_rev_lst {ws : List W} : oTupRev (.lst ws) st = .ok (.tup ws.reverse) st := rfl
theorem x_ix {ws : List W} (h : seqW st w = some ws) (hn : ∀ x, w ≠ .str x) {m : Nat} (hm : ixN ws.length i = some m) (hu : ws[m]? = some u) : oIx w (.int i) st = .ok u st := by
  have e : (seqW st w).bind (fun ws => atI ws i) = some u := by
    rw [h]; show (ixN ws.length i).bind (fun j => ws[j]?) = _; rw [hm]; exact hu
  cases w <;> first | exact absurd rfl (hn _) | simp only [oIx, e]
theorem ixN_ok {n : Nat} {i : Int} (h : 0 ≤ i) (h2 : i < n) : ixN n i = some i.toNat := by
  unfold ixN; rw [if_pos h, if_pos h2]
theorem ixN_nat {n k : Nat} (h : k < n) : ixN n (k : Int) = some k := by
  rw [ixN_ok (by omega) (by omega)]; simp
theorem x_ixT {ws : List W} (h : 0 ≤ i) (hu : ws[i.toNat]? = some u) : oIx (.tup ws) (.int i) st = .ok u st := by
  have hl : i.toNat < ws.length := by
    rcases Nat.lt_or_ge i.toNat ws.length with q | q
    · exact q
    · rw [List.getElem?_eq_none q] at hu; cases hu
  exact x_ix rfl (fun _ z => by cases z) (ixN_ok h (by omega)) hu
theorem x_ixL {ws : List W} (h : 0 ≤ i) (hu : ws[i.toNat]? = some u) : oIx (.lst ws) (.int i) st = .ok u st := by
  have hl : i.toNat < ws.length := by
    rcases Nat.lt_or_ge i.toNat ws.length with q | q
    · exact q
    · rw [List.getElem?_eq_none q] at hu; cases hu
  exact x_ix rfl (fun _ z => by cases z) (ixN_ok h (by omega)) hu
theorem x_ixC {ws : List W} (hc : st[k]? = some (.lst ws)) (h : 0 ≤ i) (hu : ws[i.toNat]? = some u) : oIx (.cell k) (.int i) st = .ok u st := by
  have hl : i.toNat < ws.length := by
    rcases Nat.lt_or_ge i.toNat ws.length with q | q
    · exact q
    · rw [List.getElem?_eq_none q] at hu; cases hu
  exact x_ix (by simp [seqW, lstW, hc]) (fun _ z => by cases z) (ixN_ok h (by omega)) hu
end
theorem leave_same {n : Nat} {w : W} {st : Sto} (h : st.length = n) : leave n w st = .ok w st := if_pos h
theorem leaveX_same {n : Nat} {x : Exc} {st : Sto} (h : st.length = n) : leaveX n x st = .err x st := if_pos h
theorem mk_rt {m : Nat} {b : SSem} {ws : List W} {st st1 : Sto} {w : W} (h : b (ws.map some ++ List.replicate (m - ws.length) none) st = .rt w st1) (hl : st1.length = st.length) : mkFn m b ws st = .ok w st1 := by
  unfold mkFn mkFnG; rw [h]; exact leave_same hl
theorem mkA_rt {m : Nat} {b : SSem} {ws : List W} {st st1 : Sto} {w : W} (h : b (ws.map some ++ List.replicate (m - ws.length) none) st = .rt w st1) : mkFnA m b ws st = .ok w st1 := by
  unfold mkFnA mkFnG; rw [h]; rfl
theorem mk_nx {m : Nat} {b : SSem} {ws : List W} {st st1 : Sto} {fr : Fr} (h : b (ws.map some ++ List.replicate (m - ws.length) none) st = .nx fr st1) (hl : st1.length = st.length) : mkFn m b ws st = .ok .non st1 := by
  unfold mkFn mkFnG; rw [h]; exact leave_same hl
theorem mk_er {m : Nat} {b : SSem} {ws : List W} {st st1 : Sto} {fr : Fr} {x : Exc} (h : b (ws.map some ++ List.replicate (m - ws.length) none) st = .er x fr st1) (hl : st1.length = st.length) : mkFn m b ws st = .err x st1 := by
  unfold mkFn mkFnG; rw [h]; exact leaveX_same hl
/-- new cells that nothing handed back speaks of -/
theorem mk_rt2 {m : Nat} {b : SSem} {ws : List W} {st ex : Sto} {w : W} (h : b (ws.map some ++ List.replicate (m - ws.length) none) st = .rt w (st ++ ex)) (hw : ∀ n f, fz0 n f w = some w) (ho : st.all (oldW st.length) = true) : mkFn m b ws st = .ok w st := by
  unfold mkFn mkFnG; rw [h]
  show leave st.length w (st ++ ex) = _
  unfold leave
  split
  · rename_i e
    have : ex = [] := by
      rw [List.length_append] at e
      exact List.eq_nil_of_length_eq_zero (by omega)
    rw [this, List.append_nil]
  · rw [hw]
    simp only [List.take_left, ho, if_true]
/-! ## comprehensions, loops -/
inductive Both {α β : Type} (R : α → β → Prop) : List α → List β → Prop
  | nil : Both R [] []
  | cons {a : α} {b : β} {l : List α} {m : List β} (h : R a b) (r : Both R l m) : Both R (a :: l) (b :: m)
theorem src_free {x : W} {all : List W} {st : Sto} (h : ∀ k, x ≠ .cell k) (h2 : ∀ i, x ≠ .int i := by intro i e; cases e) : srcOk x all st := by
  cases x <;> first | trivial | exact absurd rfl (h _) | exact absurd rfl (h2 _)
theorem lc_map {x : W} {all : List W} {g : TgF} {t : SemB} {e : Sem} {fr : Fr} {f : W → W} {st : Sto} (hs : srcOk x all st) : ∀ ws : List W, (∀ w ∈ ws, ∃ fr1, g w fr st = some fr1 ∧ t fr1 st = .ok true st ∧ e fr1 st = .ok (f w) st) → lcRun x all g t e fr ws st = .ok (ws.map f) st
  | [], _ => by unfold lcRun; rw [if_pos hs]; rfl
  | w :: r, h => by
    obtain ⟨fr1, h1, h2, h3⟩ := h w List.mem_cons_self
    have ih := lc_map hs r fun u hu => h u (List.mem_cons_of_mem _ hu)
    unfold lcRun
    rw [if_pos hs, h1]
    simp only [h2, h3, ih, List.map_cons]
theorem lc_filter {x : W} {all : List W} {g : TgF} {t : SemB} {e : Sem} {fr : Fr} {p : W → Bool} {f : W → W} {st : Sto} (hs : srcOk x all st) : ∀ ws : List W, (∀ w ∈ ws, ∃ fr1, g w fr st = some fr1 ∧ t fr1 st = .ok (p w) st ∧ (p w = true → e fr1 st = .ok (f w) st)) → lcRun x all g t e fr ws st = .ok ((ws.filter p).map f) st
  | [], _ => by unfold lcRun; rw [if_pos hs]; rfl
  | w :: r, h => by
    obtain ⟨fr1, h1, h2, h3⟩ := h w List.mem_cons_self
    have ih := lc_filter hs r fun u hu => h u (List.mem_cons_of_mem _ hu)
    unfold lcRun
    rw [if_pos hs, h1]
    cases e : p w with
    | true => simp only [h2, e, h3 e, ih, List.filter_cons, if_true, List.map_cons]
    | false => simp only [h2, e, ih, List.filter_cons]; rfl
/-- the store goes on, by an invariant; what comes out is told of each item -/
theorem lc_inv {x : W} {all : List W} {g : TgF} {t : SemB} {e : Sem} {fr : Fr} (I : Sto → Prop) (R : W → W → Prop) (hs : ∀ st, I st → srcOk x all st) : ∀ (ws : List W) (st : Sto), I st → (∀ w ∈ ws, ∀ st, I st → ∃ fr1 y st2, g w fr st = some fr1 ∧ t fr1 st = .ok true st ∧ e fr1 st = .ok y st2 ∧ I st2 ∧ R w y) →
    ∃ ys st', lcRun x all g t e fr ws st = .ok ys st' ∧ I st' ∧ Both R ws ys
  | [], st, hi, _ => ⟨[], st, by unfold lcRun; rw [if_pos (hs st hi)], hi, .nil⟩
  | w :: r, st, hi, h => by
    obtain ⟨fr1, y, st2, h1, h2, h3, h4, h5⟩ := h w List.mem_cons_self st hi
    obtain ⟨ys, st3, e1, e2, e3⟩ := lc_inv I R hs r st2 h4 fun u hu => h u (List.mem_cons_of_mem _ hu)
    refine ⟨y :: ys, st3, ?_, e2, .cons h5 e3⟩
    unfold lcRun
    rw [if_pos (hs st hi), h1]
    simp only [h2, h3, e1]
theorem x_lc {f : SemI} {g : TgF} {own : List Nat} {t : SemB} {e : Sem} {fr : Fr} {st st1 st2 : Sto} {x : W} {all ys : List W} (h : f fr st = .ok (x, all) st1) (h2 : lcRun x all g t e (wipeF fr own) all st1 = .ok ys st2) : eLc f g own t e fr st = .ok (.lst ys) st2 := by
  unfold eLc eLcG; rw [h, Out.bind_ok]; simp only [h2, finL]
theorem x_lcC {f : SemI} {g : TgF} {own : List Nat} {t : SemB} {e : Sem} {fr : Fr} {st st1 st2 : Sto} {x : W} {all ys : List W} (h : f fr st = .ok (x, all) st1) (h2 : lcRun x all g t e (wipeF fr own) all st1 = .ok ys st2) : eLcC f g own t e fr st = .ok (.cell st2.length) (st2 ++ [.lst ys]) := by
  unfold eLcC eLcG; rw [h, Out.bind_ok]; simp only [h2, finC]
/-- a loop by an invariant over the turns -/
theorem for_inv {x : W} {all : List W} {g : TgF} {b : SSem} (P : Nat → Fr → Sto → Prop) (hs : ∀ k fr st, P k fr st → srcOk x all st) (step : ∀ k fr st w, P k fr st → all[k]? = some w → ∃ fr1 fr2 st2, g w fr st = some fr1 ∧ (b fr1 st = .nx fr2 st2 ∨ b fr1 st = .ct fr2 st2) ∧ P (k + 1) fr2 st2) :
    ∀ (m k : Nat) (fr : Fr) (st : Sto), all.length = k + m → P k fr st → ∃ fr' st', forRun x all g b (all.drop k) fr st = .nx fr' st' ∧ P all.length fr' st'
  | 0, k, fr, st, hm, h => ⟨fr, st, by rw [List.drop_eq_nil_of_le (by omega)]; unfold forRun; rw [if_pos (hs k fr st h)], by rw [hm]; exact h⟩
  | m + 1, k, fr, st, hm, h => by
    have hk : k < all.length := by omega
    obtain ⟨fr1, fr2, st2, h1, h2, h3⟩ := step k fr st all[k] h (by simp)
    obtain ⟨fr', st', e1, e2⟩ := for_inv P hs step m (k + 1) fr2 st2 (by omega) h3
    refine ⟨fr', st', ?_, e2⟩
    rw [List.drop_eq_getElem_cons hk]
    unfold forRun
    rw [if_pos (hs k fr st h), h1]
    rcases h2 with h2 | h2 <;> simp only [h2, e1]
theorem x_for {f : SemI} {g : TgF} {b : SSem} {fr : Fr} {st st1 : Sto} {x : W} {all : List W} (h : f fr st = .ok (x, all) st1) (P : Nat → Fr → Sto → Prop) (h0 : P 0 fr st1) (hs : ∀ k fr st, P k fr st → srcOk x all st) (step : ∀ k fr st w, P k fr st → all[k]? = some w → ∃ fr1 fr2 st2, g w fr st = some fr1 ∧ (b fr1 st = .nx fr2 st2 ∨ b fr1 st = .ct fr2 st2) ∧ P (k + 1) fr2 st2) :
    ∃ fr' st', sFor f g b fr st = .nx fr' st' ∧ P all.length fr' st' := by
  obtain ⟨fr', st', e1, e2⟩ := for_inv P hs step all.length 0 fr st1 (by omega) h0
  refine ⟨fr', st', ?_, e2⟩
  unfold sFor; rw [h, Out.stm_ok]
  exact e1
theorem rngW_at {lo c : Int} {n k : Nat} {w : W} (h : (rngW lo c n)[k]? = some w) : k < n ∧ w = .int (lo + (k : Int) * c) := by
  unfold rngW at h
  rw [List.getElem?_map] at h
  by_cases q : k < n
  · rw [List.getElem?_range q] at h
    exact ⟨q, (Option.some.inj h).symm⟩
  · rw [List.getElem?_eq_none (by simpa using q)] at h; cases h
theorem rng_mem {lo c : Int} {n : Nat} {w : W} (h : w ∈ rngW lo c n) : ∃ k, k < n ∧ w = .int (lo + (k : Int) * c) := by
  unfold rngW at h
  obtain ⟨k, h1, h2⟩ := List.mem_map.mp h
  exact ⟨k, by simpa using h1, h2.symm⟩
theorem x_rng1 {l : SemL} {fr : Fr} {st st1 : Sto} {j : Int} (h : l fr st = .ok [.int j] st1) (h2 : j ≤ 1000000) (h3 : -1000000 ≤ j) : iRng rg1 l fr st = .ok (.non, rngW 0 1 j.toNat) st1 := by
  unfold iRng rg1
  rw [h, Out.bind_ok]
  have hb : big j = true := dec_mk (by omega)
  have hl : j.toNat ≤ LINE := by unfold LINE; omega
  simp only [hb, if_true, if_pos hl]
/-! ## a row of statements -/
theorem seq_to {s t : SSem} {fr fr1 : Fr} {st st1 : Sto} {o : SOut} (h : s fr st = .nx fr1 st1) (h2 : t fr1 st1 = o) : sSeq s t fr st = o := by
  unfold sSeq; rw [h]; exact h2
theorem asg_to {f : Sem} {i : Nat} {t : SSem} {fr : Fr} {st st1 : Sto} {w : W} {o : SOut} (h : f fr st = .ok w st1) (h2 : t (fr.set i (some w)) st1 = o) : sSeq (sAsg f (gNm i)) t fr st = o := by
  unfold sSeq sAsg; rw [h]; exact h2
/-- if not ..: is passed by -/
theorem if_no {b : SemB} {s u t : SSem} {fr fr1 : Fr} {st st1 st2 : Sto} {o : SOut} (h : b fr st = .ok false st1) (h3 : u fr st1 = .nx fr1 st2) (h2 : t fr1 st2 = o) : sSeq (sIf b s u) t fr st = o := by
  unfold sSeq sIf; rw [h]; simp [h3]; exact h2
theorem exp_to {f : Sem} {t : SSem} {fr : Fr} {st st1 : Sto} {w : W} {o : SOut} (h : f fr st = .ok w st1) (h2 : t fr st1 = o) : sSeq (sExp f) t fr st = o := by
  unfold sSeq sExp; rw [h]; exact h2
@[simp] theorem ty_non_ {st : Sto} : tyW st .non = some "NoneType" := rfl
@[simp] theorem isi_non {st : Sto} {n : String} : oIsi [.non, .ty n] st = if tyN "NoneType" && tyN n then .ok (.bl (subT "NoneType" n)) st else .bad := rfl
@[simp] theorem isi2_non {st : Sto} {n m : String} : oIsi [.non, .tup [.ty n, .ty m]] st = if tyN "NoneType" && (tyN n && tyN m) then .ok (.bl (subT "NoneType" n || subT "NoneType" m)) st else .bad := by
  show (if tyN "NoneType" && [n, m].all tyN then Out.ok (W.bl ([n, m].any (subT "NoneType"))) st else .bad) = _
  simp
@[simp] theorem ty_bl_ {st : Sto} {b : Bool} : tyW st (.bl b) = some "bool" := rfl
@[simp] theorem isi_bl {st : Sto} {b : Bool} {n : String} : oIsi [(.bl b), .ty n] st = if tyN "bool" && tyN n then .ok (.bl (subT "bool" n)) st else .bad := rfl
@[simp] theorem isi2_bl {st : Sto} {b : Bool} {n m : String} : oIsi [(.bl b), .tup [.ty n, .ty m]] st = if tyN "bool" && (tyN n && tyN m) then .ok (.bl (subT "bool" n || subT "bool" m)) st else .bad := by
  show (if tyN "bool" && [n, m].all tyN then Out.ok (W.bl ([n, m].any (subT "bool"))) st else .bad) = _
  simp
@[simp] theorem ty_int_ {st : Sto} {i : Int} : tyW st (.int i) = some "int" := rfl
@[simp] theorem isi_int {st : Sto} {i : Int} {n : String} : oIsi [(.int i), .ty n] st = if tyN "int" && tyN n then .ok (.bl (subT "int" n)) st else .bad := rfl
@[simp] theorem isi2_int {st : Sto} {i : Int} {n m : String} : oIsi [(.int i), .tup [.ty n, .ty m]] st = if tyN "int" && (tyN n && tyN m) then .ok (.bl (subT "int" n || subT "int" m)) st else .bad := by
  show (if tyN "int" && [n, m].all tyN then Out.ok (W.bl ([n, m].any (subT "int"))) st else .bad) = _
  simp
@[simp] theorem ty_str_ {st : Sto} {z : Str} : tyW st (.str z) = some "str" := rfl
@[simp] theorem isi_str {st : Sto} {z : Str} {n : String} : oIsi [(.str z), .ty n] st = if tyN "str" && tyN n then .ok (.bl (subT "str" n)) st else .bad := rfl
@[simp] theorem isi2_str {st : Sto} {z : Str} {n m : String} : oIsi [(.str z), .tup [.ty n, .ty m]] st = if tyN "str" && (tyN n && tyN m) then .ok (.bl (subT "str" n || subT "str" m)) st else .bad := by
  show (if tyN "str" && [n, m].all tyN then Out.ok (W.bl ([n, m].any (subT "str"))) st else .bad) = _
  simp
@[simp] theorem ty_tup_ {st : Sto} {ws : List W} : tyW st (.tup ws) = some "tuple" := rfl
@[simp] theorem isi_tup {st : Sto} {ws : List W} {n : String} : oIsi [(.tup ws), .ty n] st = if tyN "tuple" && tyN n then .ok (.bl (subT "tuple" n)) st else .bad := rfl
@[simp] theorem isi2_tup {st : Sto} {ws : List W} {n m : String} : oIsi [(.tup ws), .tup [.ty n, .ty m]] st = if tyN "tuple" && (tyN n && tyN m) then .ok (.bl (subT "tuple" n || subT "tuple" m)) st else .bad := by
  show (if tyN "tuple" && [n, m].all tyN then Out.ok (W.bl ([n, m].any (subT "tuple"))) st else .bad) = _
  simp
@[simp] theorem ty_lst_ {st : Sto} {ws : List W} : tyW st (.lst ws) = some "list" := rfl
@[simp] theorem isi_lst {st : Sto} {ws : List W} {n : String} : oIsi [(.lst ws), .ty n] st = if tyN "list" && tyN n then .ok (.bl (subT "list" n)) st else .bad := rfl
@[simp] theorem isi2_lst {st : Sto} {ws : List W} {n m : String} : oIsi [(.lst ws), .tup [.ty n, .ty m]] st = if tyN "list" && (tyN n && tyN m) then .ok (.bl (subT "list" n || subT "list" m)) st else .bad := by
  show (if tyN "list" && [n, m].all tyN then Out.ok (W.bl ([n, m].any (subT "list"))) st else .bad) = _
  simp
@[simp] theorem ty_dct_ {st : Sto} {ws : List W} : tyW st (.dct [] ws) = some "dict" := rfl
@[simp] theorem ty_dct_S {st : Sto} {x : Str} {ks ws : List W} : tyW st (.dct (.str x :: ks) ws) = some "dict" := rfl
@[simp] theorem isi_dct {st : Sto} {ws : List W} {n : String} : oIsi [(.dct [] ws), .ty n] st = if tyN "dict" && tyN n then .ok (.bl (subT "dict" n)) st else .bad := rfl
@[simp] theorem isi_dctS {st : Sto} {x : Str} {ks ws : List W} {n : String} : oIsi [(.dct (.str x :: ks) ws), .ty n] st = if tyN "dict" && tyN n then .ok (.bl (subT "dict" n)) st else .bad := rfl
@[simp] theorem isi2_dct {st : Sto} {ws : List W} {n m : String} : oIsi [(.dct [] ws), .tup [.ty n, .ty m]] st = if tyN "dict" && (tyN n && tyN m) then .ok (.bl (subT "dict" n || subT "dict" m)) st else .bad := by
  show (if tyN "dict" && [n, m].all tyN then Out.ok (W.bl ([n, m].any (subT "dict"))) st else .bad) = _
  simp
@[simp] theorem isi2_dctS {st : Sto} {x : Str} {ks ws : List W} {n m : String} : oIsi [(.dct (.str x :: ks) ws), .tup [.ty n, .ty m]] st = if tyN "dict" && (tyN n && tyN m) then .ok (.bl (subT "dict" n || subT "dict" m)) st else .bad := by
  show (if tyN "dict" && [n, m].all tyN then Out.ok (W.bl ([n, m].any (subT "dict"))) st else .bad) = _
  simp
@[simp] theorem tyN_NoneType : tyN "NoneType" = true := by decide +kernel
@[simp] theorem subT_NoneType_bool : subT "NoneType" "bool" = false := by decide +kernel
@[simp] theorem subT_NoneType_int : subT "NoneType" "int" = false := by decide +kernel
@[simp] theorem subT_NoneType_str : subT "NoneType" "str" = false := by decide +kernel
@[simp] theorem subT_NoneType_tuple : subT "NoneType" "tuple" = false := by decide +kernel
@[simp] theorem subT_NoneType_list : subT "NoneType" "list" = false := by decide +kernel
@[simp] theorem subT_NoneType_dict : subT "NoneType" "dict" = false := by decide +kernel
@[simp] theorem tyN_bool : tyN "bool" = true := by decide +kernel
@[simp] theorem subT_bool_bool : subT "bool" "bool" = true := by decide +kernel
@[simp] theorem subT_bool_int : subT "bool" "int" = true := by decide +kernel
@[simp] theorem subT_bool_str : subT "bool" "str" = false := by decide +kernel
@[simp] theorem subT_bool_tuple : subT "bool" "tuple" = false := by decide +kernel
@[simp] theorem subT_bool_list : subT "bool" "list" = false := by decide +kernel
@[simp] theorem subT_bool_dict : subT "bool" "dict" = false := by decide +kernel
@[simp] theorem tyN_int : tyN "int" = true := by decide +kernel
@[simp] theorem subT_int_bool : subT "int" "bool" = false := by decide +kernel
@[simp] theorem subT_int_int : subT "int" "int" = true := by decide +kernel
@[simp] theorem subT_int_str : subT "int" "str" = false := by decide +kernel
@[simp] theorem subT_int_tuple : subT "int" "tuple" = false := by decide +kernel
@[simp] theorem subT_int_list : subT "int" "list" = false := by decide +kernel
@[simp] theorem subT_int_dict : subT "int" "dict" = false := by decide +kernel
@[simp] theorem tyN_str : tyN "str" = true := by decide +kernel
@[simp] theorem subT_str_bool : subT "str" "bool" = false := by decide +kernel
@[simp] theorem subT_str_int : subT "str" "int" = false := by decide +kernel
@[simp] theorem subT_str_str : subT "str" "str" = true := by decide +kernel
@[simp] theorem subT_str_tuple : subT "str" "tuple" = false := by decide +kernel
@[simp] theorem subT_str_list : subT "str" "list" = false := by decide +kernel
@[simp] theorem subT_str_dict : subT "str" "dict" = false := by decide +kernel
@[simp] theorem tyN_tuple : tyN "tuple" = true := by decide +kernel
@[simp] theorem subT_tuple_bool : subT "tuple" "bool" = false := by decide +kernel
@[simp] theorem subT_tuple_int : subT "tuple" "int" = false := by decide +kernel
@[simp] theorem subT_tuple_str : subT "tuple" "str" = false := by decide +kernel
@[simp] theorem subT_tuple_tuple : subT "tuple" "tuple" = true := by decide +kernel
@[simp] theorem subT_tuple_list : subT "tuple" "list" = false := by decide +kernel
@[simp] theorem subT_tuple_dict : subT "tuple" "dict" = false := by decide +kernel
@[simp] theorem tyN_list : tyN "list" = true := by decide +kernel
@[simp] theorem subT_list_bool : subT "list" "bool" = false := by decide +kernel
@[simp] theorem subT_list_int : subT "list" "int" = false := by decide +kernel
@[simp] theorem subT_list_str : subT "list" "str" = false := by decide +kernel
@[simp] theorem subT_list_tuple : subT "list" "tuple" = false := by decide +kernel
@[simp] theorem subT_list_list : subT "list" "list" = true := by decide +kernel
@[simp] theorem subT_list_dict : subT "list" "dict" = false := by decide +kernel
@[simp] theorem tyN_dict : tyN "dict" = true := by decide +kernel
@[simp] theorem subT_dict_bool : subT "dict" "bool" = false := by decide +kernel
@[simp] theorem subT_dict_int : subT "dict" "int" = false := by decide +kernel
@[simp] theorem subT_dict_str : subT "dict" "str" = false := by decide +kernel
@[simp] theorem subT_dict_tuple : subT "dict" "tuple" = false := by decide +kernel
@[simp] theorem subT_dict_list : subT "dict" "list" = false := by decide +kernel
@[simp] theorem subT_dict_dict : subT "dict" "dict" = true := by decide +kernel

@[simp] theorem eq_bl {a b : Bool} {st : Sto} : oEq (.bl a) (.bl b) st = .ok (.bl (decide (a = b))) st := by cases a <;> cases b <;> rfl
@[simp] theorem ne_bl {a b : Bool} {st : Sto} : oNe (.bl a) (.bl b) st = .ok (.bl (!decide (a = b))) st := by cases a <;> cases b <;> rfl
theorem eq_refl_ {st : Sto} {w : W} {d : PyData} (h : pdT st w = some d) (hs : SeqAt.shaped d = true) (he : PyData.eqv d d = true) : oEq w w st = .ok (.bl true) st := by
  unfold oEq eqW; rw [h]; simp [hs, he]
theorem eq_str {z : Str} {st : Sto} (h : PyData.strOk z = true) : oEq (.str z) (.str z) st = .ok (.bl true) st := by
  refine eq_refl_ (d := .str z) rfl ?_ (by show (z == z) = true; simp)
  unfold SeqAt.shaped
  have : PyData.canLay0 (.str z) = PyData.strOk z := by simp only [PyData.canLay0]
  rw [this, h]; rfl
theorem oIsi_eq {x : W} {n t : String} {st : Sto} (h : tyW st x = some t) (h1 : tyN t = true) (h2 : tyN n = true) : oIsi [x, .ty n] st = .ok (.bl (subT t n)) st := by
  show (match tyW st x with
    | some t => if tyN t && tyN n then Out.ok (W.bl (subT t n)) st else .bad
    | none => .bad) = _
  rw [h]; simp [h1, h2]
end SL

/-! # dicts with tuples as keys: ==, != -/
namespace SLf
open PySem PySem.Spec PyProof.Rows L2
section
variable {prog : Program} {w : World} {K : Type} [DecidableEq K] {knd : HeapKind prog w K} {A : Around} {E : Value → Shared → Prop} {s : Shared}
/-- each entry's key stands in the other dict, with a value that is equal or not -/
inductive HitsH (prog : Program) (w : World) (A : Around) (s : Shared) (kb : List (K × Addr × Value)) : List (K × Addr × Value) → Bool → Prop
  | nil : HitsH prog w A s kb [] true
  | miss {x : K × Addr × Value} {l : List (K × Addr × Value)} (h : atKey kb x.1 = none) : HitsH prog w A s kb (x :: l) false
  | hit {x : K × Addr × Value} {p : Addr × Value} {l : List (K × Addr × Value)} {e c : Bool} (h : atKey kb x.1 = some p) (h2 : SeqAt.EqP prog w A s x.2.2 p.2 e) (h3 : HitsH prog w A s kb l c) : HitsH prog w A s kb (x :: l) (e && c)
theorem HitsH.split {kb l : List (K × Addr × Value)} {x : K × Addr × Value} {b : Bool} (h : HitsH prog w A s kb (x :: l) b) :
    (atKey kb x.1 = none ∧ b = false) ∨ ∃ p e c, atKey kb x.1 = some p ∧ SeqAt.EqP prog w A s x.2.2 p.2 e ∧ HitsH prog w A s kb l c ∧ b = (e && c) := by
  cases h with
  | miss h => exact .inl ⟨h, rfl⟩
  | hit h h2 h3 => exact .inr ⟨_, _, _, h, h2, h3, rfl⟩
theorem ifNo {α : Type} {t u : Sem α} {Q : α → Shared → Prop} (q : wpAny (model prog w) A t Q E s) : wpAny (model prog w) A (if (!false) = true then t else u) Q E s := by simpa using q
theorem ifYes {α : Type} {t u : Sem α} {Q : α → Shared → Prop} (q : wpAny (model prog w) A u Q E s) : wpAny (model prog w) A (if (!true) = true then t else u) Q E s := by simpa using q
theorem slotTwo {α : Type} {nm : String} {a b : Addr} {k : Value × Value → Sem α} {Q : α → Shared → Prop} (ta : s.TypeIs (.ref a) "dict") (q : wpAny (model prog w) A (k (.ref a, .ref b)) Q E s) : wpAny (model prog w) A (Builtin.Dict.dictSlotArgs nm ⟨[.ref a, .ref b], []⟩ >>= k) Q E s :=
  wpAny_bind (by simp only [Builtin.Dict.dictSlotArgs]; exact wpAny_bind (wpAny_notOrdered_dict ta (wpAny_pure q)))
theorem same_H {nm : String} {a b : Addr} {xa xb : List (K × Addr × Value)} {r : Bool} {Q : Bool → Shared → Prop} (na : (a == sysModules) = false) (nb : (b == sysModules) = false) (hu : knd.room A)
    (da : s.heap.DictOfH knd a xa) (db : s.heap.DictOfH knd b xb) (hits : xa.length = xb.length → HitsH prog w A s xb xa r) (q : Q (xa.length == xb.length && r) s) : wpAny (model prog w) A (Builtin.Dict.samePairs nm a b) Q E s := by
  obtain ⟨oa, ea, pa, ga, _, ka, la, ia, ua⟩ := id da
  obtain ⟨ob, eb, pb, gb, _, kb, lb, ib, ub⟩ := id db
  have sa := size_of_entries la
  have sb := size_of_entries lb
  rw [← sa, ← sb] at q
  simp only [Builtin.Dict.samePairs, Builtin.Dict.showsAll, na, nb, Bool.false_eq_true, if_false]
  refine wpAny_bind (wpAny_pure (wpAny_bind (wpAny_pure (wpAny_bind (wpAny_dictEntries ga ka (wpAny_bind (wpAny_dictEntries gb kb ?_)))))))
  by_cases ez : ea.size = eb.size
  case neg =>
    have e0 : (ea.size == eb.size) = false := by simpa using ez
    rw [if_pos (by simpa using ez)]
    rw [e0, Bool.false_and] at q
    exact wpAny_bind (wpAny_rule (wpAny_pure q))
  case pos =>
    have q1 : Q r s := by simpa [ez] using q
    have hh := hits (by omega)
    rw [if_neg (by rw [ez]; simp)]
    refine wpAny_bind (wpAny_dictEpoch ga ka (wpAny_bind ?_))
    simp only [Std.Legacy.Range.forIn_eq_forIn_range', Std.Legacy.Range.size, Nat.sub_zero, Nat.add_sub_cancel, Nat.div_one]
    refine wpAny_forIn_list _ (fun rs z t => t = s ∧ z = (none, ()) ∧ ∃ i, rs = List.range' i (ea.size - i) ∧ i ≤ ea.size ∧ HitsH prog w A s xb (xa.drop i) r) _ ?_ ?_ _ _ ⟨rfl, rfl, 0, by simp, Nat.zero_le _, hh⟩
    · rintro x rs z t ⟨rfl, rfl, i, er, li, hp⟩
      have lt : i < ea.size := by
        rcases Nat.lt_or_ge i ea.size with y | y
        · exact y
        · rw [Nat.sub_eq_zero_of_le y] at er; simp at er
      rw [show ea.size - i = (ea.size - (i + 1)) + 1 by omega, List.range'_succ] at er
      injection er with e1 e2
      subst e1
      have lx : x < xa.length := by omega
      have ex : ea[x]? = some (entryOfKey knd xa[x]) := by rw [entry_at la x, List.getElem?_eq_getElem lx]; rfl
      rw [List.drop_eq_getElem_cons lx] at hp
      have isx := ia xa[x] (List.getElem_mem lx)
      refine wpAny_bind (wpAny_dictEntries ga ka ?_)
      rw [ex]
      show wpAny _ _ (holding [Value.ref xa[x].2.1, xa[x].2.2] _ >>= _) _ _ _
      refine wpAny_bind (wpAny_holding (wpAny_bind (wpAny_dictFind_heap (k := xa[x].1) hu isx gb kb lb ib ub (fun no => ?_) fun j p hj => ?_)))
      · have e0 := atKey_none_of_get no
        rcases hp.split with ⟨_, er⟩ | ⟨p, e, c, h1, _⟩
        · subst er
          refine wpAny_pure ?_
          exact ifNo (wpAny_pure (wpAny_pure q1))
        · rw [e0] at h1; cases h1
      · have e0 := atKey_of_get ub hj
        refine wpAny_bind (wpAny_dictEntries gb kb ?_)
        rw [entry_at lb j, hj]
        rcases hp.split with ⟨h1, _⟩ | ⟨p', e, c, h1, h2, h3, er⟩
        · rw [e0] at h1; cases h1
        · rw [e0] at h1
          cases h1
          refine wpAny_holding (h2 _ _ ?_)
          cases e with
          | false =>
            rw [er, Bool.false_and] at q1
            exact ifNo (wpAny_pure (wpAny_pure q1))
          | true =>
            rw [Bool.true_and] at er
            rw [← er] at h3
            refine ifYes (wpAny_bind (wpAny_dictEpoch ga ka ?_))
            rw [if_neg (by simp)]
            exact wpAny_pure ⟨rfl, rfl, x + 1, e2, lt, h3⟩
    · rintro z t ⟨rfl, rfl, i, er, li, hp⟩
      have ei : i = ea.size := by
        rcases Nat.lt_or_ge i ea.size with y | y
        · rw [show ea.size - i = (ea.size - (i + 1)) + 1 by omega, List.range'_succ] at er
          cases er
        · omega
      refine wpAny_pure ?_
      rw [ei, sa, List.drop_length] at hp
      cases hp
      exact q1
theorem eqH {a b : Addr} {xa xb : List (K × Addr × Value)} {r : Bool} (na : (a == sysModules) = false) (nb : (b == sysModules) = false) (hr : knd.room A.in1) (da : s.heap.DictOfH knd a xa) (db : s.heap.DictOfH knd b xb) (hu : A.units < cLine)
    (hits : xa.length = xb.length → HitsH prog w A.in1 s xb xa r) (E Q : Value → Shared → Prop) (q : Q (.bool (xa.length == xb.length && r)) s) : wpAny (model prog w) A (richCompare .Eq (.ref a) (.ref b)) Q E s := by
  refine wpAny_richCompare_same_room (op := .Eq) da.typeIs db.typeIs PySem.F.slot_dict_eq (PySem.wpAny_call_entry PySem.F.slot_dict_eq da.typeIs PySem.F.entry_dict_eq ?_ (PySem.F.args_dict_eq_2 _ _)) hu
  refine slotTwo (nm := "__eq__") da.typeIs (wpAny_bind (wpAny_isInstance (T := "dict") db.typeIs PySem.F.sub_dict_dict ?_))
  rw [show (!true) = false from rfl, if_neg Bool.false_ne_true]
  refine wpAny_bind (wpAny_pure (wpAny_bind (wpAny_pure (wpAny_bind (same_H na nb hr da db hits (wpAny_pure ⟨_, rfl, (fun x => nomatch x), ?_⟩))))))
  simpa using q
theorem neH {a b : Addr} {xa xb : List (K × Addr × Value)} {r : Bool} (na : (a == sysModules) = false) (nb : (b == sysModules) = false) (hr : knd.room A.in1) (da : s.heap.DictOfH knd a xa) (db : s.heap.DictOfH knd b xb) (hu : A.units < cLine)
    (hits : xa.length = xb.length → HitsH prog w A.in1 s xb xa r) (E Q : Value → Shared → Prop) (q : Q (.bool (!(xa.length == xb.length && r))) s) : wpAny (model prog w) A (richCompare .NotEq (.ref a) (.ref b)) Q E s := by
  refine wpAny_richCompare_same_room (op := .NotEq) da.typeIs db.typeIs PySem.F.slot_dict_ne (PySem.wpAny_call_entry PySem.F.slot_dict_ne da.typeIs PySem.F.entry_dict_ne ?_ (PySem.F.args_dict_ne_2 _ _)) hu
  refine slotTwo (nm := "__ne__") da.typeIs (wpAny_bind (wpAny_isInstance (T := "dict") db.typeIs PySem.F.sub_dict_dict ?_))
  rw [show (!true) = false from rfl, if_neg Bool.false_ne_true]
  refine wpAny_bind (wpAny_pure (wpAny_bind (wpAny_pure (wpAny_bind (same_H na nb hr da db hits (wpAny_pure ⟨_, rfl, (fun x => nomatch x), ?_⟩))))))
  simpa using q
end
end SLf

namespace SL
open PySem PySem.Spec PyProof.Rows L2
/-! # dicts with tuples as keys and texts as values: ==, !=, also within lists -/
def tvp (p : KeyL × Str) : KeyL × V := (p.1, .str p.2)
def sameT (ks ls : List (KeyL × Str)) : Bool := ks.length == ls.length && ks.all fun p => decide (valT ls p.1 = some p.2)
theorem valV_tvp (k : KeyL) : ∀ ls : List (KeyL × Str), valV (ls.map tvp) k = (valT ls k).map V.str
  | [] => rfl
  | p :: ls => by
    have ih := valV_tvp k ls
    rw [List.map_cons]
    by_cases e : p.1 = k
    · rw [valV_pos (p := tvp p) e]
      simp [valT, List.find?_cons, e, tvp]
    · rw [valV_neg (p := tvp p) e, ih]
      simp [valT, List.find?_cons, e]
theorem tvp_inj : ∀ {ks ls : List (KeyL × Str)}, ks.map tvp = ls.map tvp → ks = ls
  | [], [], _ => rfl
  | p :: ks, q :: ls, h => by
    rw [List.map_cons, List.map_cons] at h
    injection h with h1 h2
    obtain ⟨a, b⟩ := p
    obtain ⟨c, d⟩ := q
    unfold tvp at h1
    simp only [Prod.mk.injEq, V.str.injEq] at h1
    rw [tvp_inj h2, h1.1, h1.2]
  | [], _ :: _, h => by cases h
  | _ :: _, [], h => by cases h
theorem rd_one {H : Hp} {a : Addr} {ks ls : List (KeyL × V)} (h1 : Rd H a (.dT ks)) (h2 : Rd H a (.dT ls)) : ks = ls := by
  rcases h1 with h1 | ⟨o, h1⟩ <;> rcases h2 with h2 | ⟨o2, h2⟩ <;> rw [h1] at h2 <;> cases h2 <;> rfl
theorem valT_self : ∀ {ks : List (KeyL × Str)}, (ks.map (·.1)).Nodup → ∀ p ∈ ks, valT ks p.1 = some p.2
  | [], _, p, h => by cases h
  | q :: ks, hn, p, h => by
    rw [List.map_cons, List.nodup_cons] at hn
    rcases List.mem_cons.mp h with rfl | h
    · simp [valT, List.find?_cons]
    · have ne : ¬ q.1 = p.1 := fun e => hn.1 (e ▸ List.mem_map.mpr ⟨p, h, rfl⟩)
      have := valT_self hn.2 p h
      simpa [valT, List.find?_cons, ne] using this
theorem sameT_self {ks : List (KeyL × Str)} (h : (ks.map (·.1)).Nodup) : sameT ks ks = true := by
  unfold sameT
  rw [beq_self_eq_true, Bool.true_and, List.all_eq_true]
  exact fun p hp => decide_eq_true (valT_self h p hp)
theorem hits_T {P : Program} {w : World} {A : Around} {s : Shared} {H : Hp} {ls : List (KeyL × Str)} {xb : List (KeyL × Addr × Value)} (rb : KT H (ls.map tvp) xb) : ∀ {ks : List (KeyL × Str)} {xa : List (KeyL × Addr × Value)}, KT H (ks.map tvp) xa →
    SLf.HitsH P w A s xb xa (ks.all fun p => decide (valT ls p.1 = some p.2))
  | [], xa, r => by cases r; exact .nil
  | p :: ks, xa, r => by
    rw [List.map_cons] at r
    cases r with
    | @cons _ x _ xs h t =>
      obtain ⟨h1, _, h2⟩ := h
      have h1 : p.1 = x.1 := h1
      obtain ⟨tk, h2⟩ := (show ∃ t, x.2.2 = Value.str p.2 t from h2)
      have rr := rb.val x.1
      rw [valV_tvp] at rr
      rw [List.all_cons, h1]
      cases e : valT ls x.1 with
      | none =>
        rw [e] at rr
        have e2 : atKey xb x.1 = none := by
          cases e3 : atKey xb x.1 with
          | none => rfl
          | some q => rw [e3] at rr; exact (show False from rr).elim
        rw [show decide ((none : Option Str) = some p.2) = false from rfl, Bool.false_and]
        exact .miss e2
      | some y =>
        rw [e] at rr
        cases e3 : atKey xb x.1 with
        | none => rw [e3] at rr; exact (show False from rr).elim
        | some q =>
          rw [e3] at rr
          obtain ⟨t2, h4⟩ := (show ∃ t, q.2 = Value.str y t from rr)
          refine .hit e3 ?_ (hits_T rb t)
          rw [h2, h4]
          have z := (SeqAt.EqAt.str_str (A := A) (s := s) p.2 tk y t2).eqP (prog := P) (w := w)
          have ez : (p.2 == y) = decide (some y = some p.2) := by
            by_cases g : p.2 = y
            · subst g; simp
            · have g2 : ¬ y = p.2 := fun q => g q.symm
              simp [g, g2]
          rw [ez] at z
          exact z
/-- a dict with tuples as keys that holds texts -/
def HasT (H : Hp) (x : V) (ks : List (KeyL × Str)) : Prop := ∃ a, x = .ref a ∧ Rd H a (.dT (ks.map tvp))
theorem HasT.nodup {X : Cx} {pins : List (Addr × Obj)} {σ : L2.St} {H : Hp} {s : Shared} (I : Inv X pins σ H s) {x : V} {ks : List (KeyL × Str)} (h : HasT H x ks) : (ks.map (·.1)).Nodup := by
  obtain ⟨a, rfl, h⟩ := h
  obtain ⟨_, _, xs, r, d⟩ := dt_rd I.hok h
  obtain ⟨_, _, _, _, _, _, _, _, hn⟩ := d
  have e : ∀ {l : List (KeyL × Str)} {m : List (KeyL × Addr × Value)}, KT H (l.map tvp) m → l.map (·.1) = m.map (·.1) := by
    intro l
    induction l with
    | nil => intro m q; cases q; rfl
    | cons p l ih =>
      intro m q
      rw [List.map_cons] at q
      cases q with
      | @cons _ x _ xs h t =>
        rw [List.map_cons, List.map_cons, ih t, ← (show p.1 = x.1 from h.1)]
  rw [e r]
  exact hn
section
variable {X : Cx}
theorem eqT_run {pins : List (Addr × Obj)} {σ : L2.St} {H : Hp} {s : Shared} (I : Inv X pins σ H s) {A : Around} (hu : A.units + 66 < cLine) {a b : Addr} {ks ls : List (KeyL × Str)} (h1 : Rd H a (.dT (ks.map tvp))) (h2 : Rd H b (.dT (ls.map tvp))) (E Q : Value → Shared → Prop) (q : Q (.bool (sameT ks ls)) s) :
    wpAny (model X.prog X.w) A (richCompare .Eq (.ref a) (.ref b)) Q E s := by
  obtain ⟨_, na, xa, ra, da⟩ := dt_rd I.hok h1
  obtain ⟨_, nb, xb, rb, db⟩ := dt_rd I.hok h2
  have la : (ks.map tvp).length = xa.length := Paired.length ra
  have lb : (ls.map tvp).length = xb.length := Paired.length rb
  rw [List.length_map] at la lb
  refine SLf.eqH na nb (tupleKind_room_in1 (by omega)) da db (by omega) (fun _ => hits_T rb ra) E Q ?_
  rw [← la, ← lb]
  exact q
theorem neT_run {pins : List (Addr × Obj)} {σ : L2.St} {H : Hp} {s : Shared} (I : Inv X pins σ H s) {A : Around} (hu : A.units + 66 < cLine) {a b : Addr} {ks ls : List (KeyL × Str)} (h1 : Rd H a (.dT (ks.map tvp))) (h2 : Rd H b (.dT (ls.map tvp))) (E Q : Value → Shared → Prop) (q : Q (.bool (!sameT ks ls)) s) :
    wpAny (model X.prog X.w) A (richCompare .NotEq (.ref a) (.ref b)) Q E s := by
  obtain ⟨_, na, xa, ra, da⟩ := dt_rd I.hok h1
  obtain ⟨_, nb, xb, rb, db⟩ := dt_rd I.hok h2
  have la : (ks.map tvp).length = xa.length := Paired.length ra
  have lb : (ls.map tvp).length = xb.length := Paired.length rb
  rw [List.length_map] at la lb
  refine SLf.neH na nb (tupleKind_room_in1 (by omega)) da db (by omega) (fun _ => hits_T rb ra) E Q ?_
  rw [← la, ← lb]
  exact q
def rEqT (f : Bool → Bool) : R2 := fun x y H Q => ∃ ks ls, HasT H x ks ∧ HasT H y ls ∧ Q (.bl (f (sameT ks ls))) H
theorem op_eqT (hu : X.A.units + 70 < cLine) : OpR X (compareOp .Eq) (rEqT fun b => b) := by
  intro pins s σ H x y v u Q I rx ry h
  obtain ⟨ks, ls, ⟨a, rfl, ha⟩, ⟨b, rfl, hb⟩, q⟩ := h
  cases (show v = Value.ref a from rx)
  cases (show u = Value.ref b from ry)
  exact eqT_run I (by omega) ha hb _ _ ⟨.bl _, H, I, rfl, q⟩
theorem op_neT (hu : X.A.units + 70 < cLine) : OpR X (compareOp .NotEq) (rEqT not) := by
  intro pins s σ H x y v u Q I rx ry h
  obtain ⟨ks, ls, ⟨a, rfl, ha⟩, ⟨b, rfl, hb⟩, q⟩ := h
  cases (show v = Value.ref a from rx)
  cases (show u = Value.ref b from ry)
  exact neT_run I (by omega) ha hb _ _ ⟨.bl _, H, I, rfl, q⟩
/-- an item of a list: data, or such a dict -/
inductive EqJt (K : PySem.W.Frag) (H : Hp) : V → V → Bool → Prop
  | it {x y : V} {b : Bool} (h : EqIt K H x y b) : EqJt K H x y b
  | dT {x y : V} {ks ls : List (KeyL × Str)} (h1 : HasT H x ks) (h2 : HasT H y ls) : EqJt K H x y (sameT ks ls)
theorem eqJt_run {pins : List (Addr × Obj)} {σ : L2.St} {H : Hp} {s : Shared} (I : Inv X pins σ H s) {A : Around} (hu : A.units + 66 < cLine) {x y : V} {v u : Value} {b : Bool} (h : EqJt X.K H x y b) (rx : RelV x v) (ry : RelV y u) : SeqAt.EqP X.prog X.w A s v u b := by
  cases h with
  | it h => exact eqIt_run I hu h rx ry
  | @dT ks ls h1 h2 =>
    have hn := h1.nodup I
    obtain ⟨a, rfl, ha⟩ := h1
    obtain ⟨b, rfl, hb⟩ := h2
    cases (show v = Value.ref a from rx)
    cases (show u = Value.ref b from ry)
    by_cases e : a = b
    · subst e
      rw [tvp_inj (rd_one ha hb)] at hn ⊢
      rw [sameT_self hn]
      exact (SeqAt.EqAt.same _).eqP
    · exact SeqAt.eqP_refs e fun E Q q => eqT_run I hu ha hb E Q q
def rEqLj (K : PySem.W.Frag) : R2 := fun x y H Q => ∃ (a b : Addr) (xs ys : List V) (bs : List Bool), x = .ref a ∧ y = .ref b ∧ SqL K H a xs ∧ SqL K H b ys ∧ xs.length = ys.length ∧ bs.length = xs.length ∧ (∀ (j : Nat) (x y : V) (b : Bool), xs[j]? = some x → ys[j]? = some y → bs[j]? = some b → EqJt K H x y b) ∧ Q (.bl (bs.all fun b => b)) H
theorem op_eqLj (hu : X.A.units + 70 < cLine) : OpR X (compareOp .Eq) (rEqLj X.K) := by
  intro pins s σ H x y v u Q I rx ry h
  obtain ⟨a, b, xs, ys, bs, rfl, rfl, ha, hb, hl, hbl, hp, q⟩ := h
  cases (show v = Value.ref a from rx)
  cases (show u = Value.ref b from ry)
  obtain ⟨us, r1, p1, _⟩ := I.list ha
  obtain ⟨ws, r2, p2, _⟩ := I.list hb
  have l1 := r1.length
  have l2 := r2.length
  refine SeqAt.rcP_lists (e := fun j => bs.getD j true) p1.isList p2.isList (by rw [List.size_toArray, List.size_toArray]; omega) (by omega) (fun j h1 h2 => ?_) _ _ ?_
  · have h1' : j < us.length := by simpa using h1
    have h2' : j < ws.length := by simpa using h2
    have hx : j < xs.length := by omega
    have hy : j < ys.length := by omega
    have hj : j < bs.length := by omega
    obtain ⟨u1, g1, q1⟩ := Vals.get r1 (List.getElem?_eq_getElem hx)
    obtain ⟨u2, g2, q2⟩ := Vals.get r2 (List.getElem?_eq_getElem hy)
    have k := eqJt_run I (A := X.A.in1) (by show X.A.units + 1 + 66 < cLine; omega) (hp j _ _ _ (List.getElem?_eq_getElem hx) (List.getElem?_eq_getElem hy) (List.getElem?_eq_getElem hj)) q1 q2
    rw [List.getElem?_eq_getElem h1'] at g1
    rw [List.getElem?_eq_getElem h2'] at g2
    cases g1
    cases g2
    simpa [List.getD_eq_getElem?_getD, List.getElem?_eq_getElem hj] using k
  · have e : (List.range us.toArray.size).all (fun j => bs.getD j true) = bs.all fun b => b := by
      rw [List.size_toArray, show us.length = bs.length by omega]
      clear hp q
      induction bs generalizing xs ys us ws with
      | nil => rfl
      | cons c bs _ =>
        rw [Bool.eq_iff_iff, List.all_eq_true, List.all_eq_true]
        constructor
        · intro h z hz
          obtain ⟨i, hi, rfl⟩ := List.mem_iff_getElem.mp hz
          have := h i (List.mem_range.mpr hi)
          simpa [List.getD_eq_getElem?_getD, List.getElem?_eq_getElem hi] using this
        · intro h i hi
          have hi := List.mem_range.mp hi
          have := h _ (List.getElem_mem hi)
          simpa [List.getD_eq_getElem?_getD, List.getElem?_eq_getElem hi] using this
    rw [e]
    exact ⟨.bl _, H, I, rfl, q⟩
end
/-! ## as values -/
def txtsW : List W → Option (List Str)
  | [] => some []
  | .str x :: r => (txtsW r).map (x :: ·)
  | _ => none
theorem txtsW_eq : ∀ {ws : List W} {xs : List Str}, txtsW ws = some xs → ws = xs.map W.str
  | [], xs, h => by unfold txtsW at h; cases h; rfl
  | w :: r, xs, h => by
    unfold txtsW at h
    split at h
    · rename_i e; cases e
    · rename_i x r' e
      cases e
      cases e2 : txtsW r with
      | none => rw [e2] at h; cases h
      | some ys => rw [e2] at h; cases h; rw [List.map_cons, ← txtsW_eq e2]
    · cases h
theorem txtsW_map : ∀ xs : List Str, txtsW (xs.map W.str) = some xs
  | [] => rfl
  | x :: xs => by rw [List.map_cons, txtsW, txtsW_map xs]; rfl
def tdW (st : Sto) (w : W) : Option (List (KeyL × Str)) := match dctT st w with
  | some (kk, ws) => (txtsW ws).map (kk.zip ·)
  | none => none
def oEqT : Op2 := fun x y st => match tdW st x, tdW st y with
  | some ks, some ls => .ok (.bl (sameT ks ls)) st
  | _, _ => .bad
def oNeT : Op2 := fun x y st => match tdW st x, tdW st y with
  | some ks, some ls => .ok (.bl (!sameT ks ls)) st
  | _, _ => .bad
def eqJ (st : Sto) (w u : W) : Option Bool := match tdW st w, tdW st u with
  | some ks, some ls => some (sameT ks ls)
  | _, _ => eqW st w u
def eqJs (st : Sto) : List W → List W → Option (List Bool)
  | [], [] => some []
  | w :: ws, u :: us => match eqJ st w u, eqJs st ws us with
    | some b, some bs => some (b :: bs)
    | _, _ => none
  | _, _ => none
def oEqLj : Op2 := fun x y st => match lstW st x, lstW st y with
  | some ws, some us => (match eqJs st ws us with
    | some bs => .ok (.bl (bs.all fun b => b)) st
    | none => .bad)
  | _, _ => .bad
section
variable {X : Cx} {Wx : Wish}
theorem reps_txt {K : PySem.W.Frag} {mg : Str → Option Value} {F : Hp} {μ : List Addr} : ∀ {xs : List Str} {vs : List V}, Reps K mg F μ (xs.map W.str) vs → vs = xs.map V.str
  | [], vs, r => by rw [List.map_nil, Reps.nil_iff] at r; exact r
  | x :: xs, vs, r => by
    obtain ⟨v, t, rfl, h1, h2⟩ := r.cons_inv
    rw [reps_txt h2, List.map_cons]
    unfold Rep at h1
    rw [h1]
theorem zip_tvp : ∀ (kk : List KeyL) (xs : List Str), kk.zip (xs.map V.str) = (kk.zip xs).map tvp
  | [], _ => rfl
  | _ :: _, [] => rfl
  | k :: kk, x :: xs => by rw [List.map_cons, List.zip_cons_cons, zip_tvp kk xs]; rfl
theorem tdW_at {K : PySem.W.Frag} {mg : Str → Option Value} {hid μ : List Addr} {st : Sto} {H : Hp} {x : W} {v : V} {ks : List (KeyL × Str)} (k : StOk K mg μ st hid H) (h : tdW st x = some ks) (r : Rep K mg (Fz μ st hid H) μ x v) : HasT H v ks := by
  unfold tdW at h
  split at h
  · rename_i kk ws e
    obtain ⟨a, vs, rfl, h1, h2, h3⟩ := dctT_at k e r
    cases e2 : txtsW ws with
    | none => rw [e2] at h; cases h
    | some xs =>
      rw [e2] at h
      cases h
      rw [txtsW_eq e2] at h3
      rw [reps_txt h3, zip_tvp] at h2
      exact ⟨a, rfl, h2⟩
  · cases h
theorem os_eqT : Op2S X oEqT (rEqT fun b => b) := by
  intro Wx hid μ st σ H Q w u x y k rx ry P
  unfold oEqT at P
  split at P
  · rename_i ks ls h1 h2
    exact ⟨ks, ls, tdW_at k h1 rx, tdW_at k h2 ry, P μ H _ k .refl rep_bl⟩
  · exact P.elim
theorem os_neT : Op2S X oNeT (rEqT not) := by
  intro Wx hid μ st σ H Q w u x y k rx ry P
  unfold oNeT at P
  split at P
  · rename_i ks ls h1 h2
    exact ⟨ks, ls, tdW_at k h1 rx, tdW_at k h2 ry, P μ H _ k .refl rep_bl⟩
  · exact P.elim
theorem eqJ_at {K : PySem.W.Frag} {mg : Str → Option Value} {hid μ : List Addr} {st : Sto} {H : Hp} (k : StOk K mg μ st hid H) {w u : W} {x y : V} {b : Bool} (h : eqJ st w u = some b) (rx : Rep K mg (Fz μ st hid H) μ w x) (ry : Rep K mg (Fz μ st hid H) μ u y) : EqJt K H x y b := by
  unfold eqJ at h
  split at h
  · rename_i ks ls h1 h2
    cases h
    exact .dT (tdW_at k h1 rx) (tdW_at k h2 ry)
  · obtain ⟨dd, de, h1, h2, h3, h4, rfl⟩ := eqW_at k h rx ry
    exact .it (.dat h1 h2 h3 h4)
theorem eqJs_at {K : PySem.W.Frag} {mg : Str → Option Value} {hid μ : List Addr} {st : Sto} {H : Hp} (k : StOk K mg μ st hid H) : ∀ {ws us : List W} {xs ys : List V} {bs : List Bool}, eqJs st ws us = some bs → Reps K mg (Fz μ st hid H) μ ws xs → Reps K mg (Fz μ st hid H) μ us ys →
    xs.length = ys.length ∧ bs.length = xs.length ∧ ∀ (j : Nat) (x y : V) (b : Bool), xs[j]? = some x → ys[j]? = some y → bs[j]? = some b → EqJt K H x y b
  | [], [], xs, ys, bs, h, r1, r2 => by
    cases h
    rw [Reps.nil_iff] at r1 r2
    subst r1; subst r2
    exact ⟨rfl, rfl, fun j x y b h => by simp at h⟩
  | w :: ws, u :: us, xs, ys, bs, h, r1, r2 => by
    obtain ⟨x, xs, rfl, a1, a2⟩ := r1.cons_inv
    obtain ⟨y, ys, rfl, b1, b2⟩ := r2.cons_inv
    unfold eqJs at h
    split at h
    · rename_i b bs' h1 h2
      cases h
      obtain ⟨i1, i2, i3⟩ := eqJs_at k h2 a2 b2
      refine ⟨by simp [i1], by simp [i2], fun j p q c g1 g2 g3 => ?_⟩
      cases j with
      | zero =>
        simp at g1 g2 g3
        subst g1; subst g2; subst g3
        exact eqJ_at k h1 a1 b1
      | succ j => exact i3 j p q c (by simpa using g1) (by simpa using g2) (by simpa using g3)
    · cases h
  | [], _ :: _, _, _, _, h, _, _ => by cases h
  | _ :: _, [], _, _, _, h, _, _ => by cases h
theorem os_eqLj : Op2S X oEqLj (rEqLj X.K) := by
  intro Wx hid μ st σ H Q w u x y k rx ry P
  unfold oEqLj at P
  split at P
  · rename_i ws us h1 h2
    split at P
    · rename_i bs h
      obtain ⟨a, xs, rfl, p1, q1⟩ := lstW_at k h1 rx
      obtain ⟨b, ys, rfl, p2, q2⟩ := lstW_at k h2 ry
      obtain ⟨i1, i2, i3⟩ := eqJs_at k h q1 q2
      exact ⟨a, b, xs, ys, bs, rfl, rfl, p1, p2, i1, i2, i3, P μ H _ k .refl rep_bl⟩
    · exact P.elim
  · exact P.elim
end
end SL

namespace SLf
open PySem PySem.Spec PyProof.Rows L2
/-! # dicts with tuples as keys: dict(d), list(d), sorted(d), d.clear(), d.pop(k) -/
section
variable {prog : Program} {w : World} {K : Type} [DecidableEq K] {knd : HeapKind prog w K} {A : Around} {E : Value → Shared → Prop} {s : Shared}
/-- dict(d): no two keys hash alike -/
theorem dictH {d : Addr} {xs : List (K × Addr × Value)} {Q : Value → Shared → Prop} (st : knd.Stays) (na : (d == sysModules) = false) (hr : knd.room A.in1.in1) (hd : s.heap.DictOfH knd d xs) (hn : (xs.map fun x => knd.hash x.1).Nodup) (hz : xs.length ≤ sizeLine)
    (q : ∀ h', h'.DictOfH knd s.heap.objs.size xs → Heap.SameBut s.heap.objs.size (s.heap.push { cls := .type "dict", data := .dict #[] }) h' → Q (.ref s.heap.objs.size) { s with heap := h' }) : wpAny (model prog w) A (call (.type "dict") [.ref d]) Q E s := by
  obtain ⟨o, es, ep, ho, h1, h2, h3, h4, h5⟩ := id hd
  refine callType_codes (Q₁ := fun v t => v = .ref s.heap.objs.size ∧ t = { s with heap := s.heap.push { cls := .type "dict", data := .dict #[] } }) F.kt_called_dict (F.kt_typeCall_dict_1 _) F.entry_dict_init (kt_code_dict_new _ ⟨rfl, rfl⟩) ?_
  rintro v t ⟨rfl, rfl⟩
  have ty : Shared.TypeIs { s with heap := s.heap.push { cls := .type "dict", data := .dict #[] } } (.ref s.heap.objs.size) "dict" := ⟨_, Heap.get?_push_size _ rfl, rfl⟩
  have d2 : (s.heap.push { cls := .type "dict", data := .dict #[] }).DictOfH knd d xs := hd.at' (fun _ e => Heap.get?_push_of_some _ e) fun y hy => st.stays (fun b _ _ _ e _ => Heap.get?_push_of_some _ e) (h4 y hy)
  refine ⟨ty, F.args_dict_init_2 _ _, ?_⟩
  unfold Builtin.«dict.__init__» Builtin.Dict.selfAndRest
  refine wpAny_bind (wpAny_bind (wpAny_notOrdered_dict ty ?_))
  show wpAny _ _ (pure (s.heap.objs.size, [Value.ref d])) _ _ _
  refine wpAny_pure (updateFrom_dictH (A := A.in1) (kvs := []) .none hr (Nat.ne_of_gt (Heap.lt_size ho)) na (Heap.DictOfH.new s.heap) d2 (.inr ⟨fun x hx => st.tuple (let ⟨_, _, _, _, _, _, _, z, _⟩ := d2; z x hx), hn⟩) (by simpa using hz) fun h' g1 g2 g3 => ?_)
  rw [storedAllH_nil_of_nodup _ h5] at g1
  exact ⟨rfl, q h' g1 g3⟩
end

def bitR : Nat → List (List Int)
  | 0 => [[]]
  | n + 1 => (bitR n).map (0 :: ·) ++ (bitR n).map (1 :: ·)
def bitAll : List (List Int) := (List.range 7).flatMap bitR
def bh (l : List Int) : Int := reduceHash (Builtin.Tuple.tupleHashOf (l.map hashInt))
theorem bh_nodup : (bitAll.map bh).Nodup := by decide +kernel
theorem nodup_inj {α β : Type} {f : α → β} : ∀ {l : List α}, (l.map f).Nodup → ∀ {a b : α}, a ∈ l → b ∈ l → f a = f b → a = b
  | [], _, _, _, h, _, _ => by cases h
  | x :: l, hn, a, b, ha, hb, h => by
    rw [List.map_cons, List.nodup_cons] at hn
    rcases List.mem_cons.mp ha with e1 | e1 <;> rcases List.mem_cons.mp hb with e2 | e2
    · rw [e1, e2]
    · subst e1
      exact absurd (List.mem_map.mpr ⟨b, e2, h.symm⟩) hn.1
    · subst e2
      exact absurd (List.mem_map.mpr ⟨a, e1, h⟩) hn.1
    · exact nodup_inj hn.2 e1 e2 h
theorem map_nodup {α β : Type} {f : α → β} : ∀ {l : List α}, l.Nodup → (∀ a ∈ l, ∀ b ∈ l, f a = f b → a = b) → (l.map f).Nodup
  | [], _, _ => .nil
  | x :: l, hn, h => by
    rw [List.nodup_cons] at hn
    rw [List.map_cons, List.nodup_cons]
    refine ⟨fun hm => ?_, map_nodup hn.2 fun a ha b hb => h a (List.mem_cons_of_mem _ ha) b (List.mem_cons_of_mem _ hb)⟩
    obtain ⟨y, hy, e⟩ := List.mem_map.mp hm
    exact hn.1 (h y (List.mem_cons_of_mem _ hy) x List.mem_cons_self e ▸ hy)
/-- a row of at most six bits -/
def BitK (k : List Key) : Prop := ∃ l : List Int, k = l.map Sum.inl ∧ l.length ≤ 6 ∧ ∀ x ∈ l, x = 0 ∨ x = 1
theorem mem_bitR : ∀ {l : List Int}, (∀ x ∈ l, x = 0 ∨ x = 1) → l ∈ bitR l.length
  | [], _ => List.mem_singleton.mpr rfl
  | x :: l, h => by
    have ih := mem_bitR fun y hy => h y (List.mem_cons_of_mem _ hy)
    show x :: l ∈ (bitR l.length).map (0 :: ·) ++ (bitR l.length).map (1 :: ·)
    rw [List.mem_append, List.mem_map, List.mem_map]
    rcases h x List.mem_cons_self with e | e <;> subst e
    · exact .inl ⟨l, ih, rfl⟩
    · exact .inr ⟨l, ih, rfl⟩
theorem mem_bitAll {l : List Int} (h6 : l.length ≤ 6) (h : ∀ x ∈ l, x = 0 ∨ x = 1) : l ∈ bitAll := List.mem_flatMap.mpr ⟨l.length, List.mem_range.mpr (by omega), mem_bitR h⟩
theorem keyH_bits (P : Program) (w : World) (l : List Int) : (tupleKind (mixKind P w)).hash (l.map Sum.inl) = bh l := by
  show reduceHash (Builtin.Tuple.tupleHashOf ((l.map Sum.inl).map (keyH w))) = _
  rw [List.map_map]
  rfl
theorem hash_bits (P : Program) (w : World) {ks : List (List Key)} (hn : ks.Nodup) (hb : ∀ k ∈ ks, BitK k) : (ks.map (tupleKind (mixKind P w)).hash).Nodup := by
  refine map_nodup hn fun a ha b hb' e => ?_
  obtain ⟨l, rfl, h1, h2⟩ := hb a ha
  obtain ⟨m, rfl, h3, h4⟩ := hb b hb'
  rw [keyH_bits, keyH_bits] at e
  rw [nodup_inj bh_nodup (mem_bitAll h1 h2) (mem_bitAll h3 h4) e]
section
variable {X : Cx}
/-- where a key's own tuple stands -/
def KR (H : Hp) (kv : List Key × V) (r : Addr) : Prop := H r = some (.tup (kv.1.map kV))
theorem kr_of {H : Hp} : ∀ {kvs : List (List Key × V)} {xs : List (List Key × Addr × Value)}, KT H kvs xs → Paired (KR H) kvs (xs.map fun x => x.2.1)
  | _, _, .nil => .nil
  | _, _, .cons h t => .cons (show H _ = _ from h.2.1) (kr_of t)
theorem Paired.at' {α β : Type} {F : α → β → Prop} : ∀ {l : List α} {m : List β} {i : Nat} {x : α} {y : β}, Paired F l m → l[i]? = some x → m[i]? = some y → F x y
  | _, _, i, x, y, .nil, h, _ => by simp at h
  | _, _, 0, x, y, .cons h t, h1, h2 => by simp at h1 h2; subst h1; subst h2; exact h
  | _, _, i + 1, x, y, .cons h t, h1, h2 => Paired.at' t (by simpa using h1) (by simpa using h2)
theorem keysH {P : Program} {w : World} {kvs : List (List Key × V)} {xs : List (List Key × Addr × Value)} {H : Hp} (r : KT H kvs xs) : xs.map (fun x => (tupleKind (mixKind P w)).hash x.1) = (kvs.map (·.1)).map (tupleKind (mixKind P w)).hash := by
  induction r with
  | nil => rfl
  | @cons p q ps qs h t ih => rw [List.map_cons, List.map_cons, List.map_cons, ih, ← h.1]
theorem keysE {H : Hp} : ∀ {kvs : List (List Key × V)} {xs : List (List Key × Addr × Value)}, KT H kvs xs → kvs.map (·.1) = xs.map (·.1)
  | _, _, .nil => rfl
  | _, _, .cons h t => by
    rw [List.map_cons, List.map_cons, keysE t]
    exact congrArg (· :: _) h.1
theorem keysN {P : Program} {w : World} {kvs : List (List Key × V)} {xs : List (List Key × Addr × Value)} {H : Hp} {h : Heap} {d : Addr} (r : KT H kvs xs) (dd : h.DictOfH (tupleKind (mixKind P w)) d xs) : (kvs.map (·.1)).Nodup := by
  obtain ⟨_, _, _, _, _, _, _, _, hn⟩ := dd
  rw [keysE r]
  exact hn
theorem call_dictT (hu : X.A.units + 2 < cLine) : CallR X (.type "dict") (fun xs H Q => ∃ (a : Addr) (kvs : List (List Key × V)), xs = [.ref a] ∧ Rd H a (.dT kvs) ∧ (∀ p ∈ kvs, BitK p.1) ∧ ∀ p, H p = none → Q (.ref p) (upd H p (.dT kvs))) := by
  intro pn s σ H xs us Q I r h
  obtain ⟨a, kvs, rfl, hd, hn, q⟩ := h
  obtain ⟨u, rfl, ru⟩ := vals1 r
  cases ru
  obtain ⟨z, na, ys, rel, dd⟩ := dt_rd I.hok hd
  have hl : kvs.length = ys.length := Paired.length rel
  refine dictH tupleKind_stays na (tupleKind_room_in1 (by show X.A.units + 1 + 1 < cLine; omega)) dd (by rw [keysH rel]; exact hash_bits _ _ (keysN rel dd) fun k hk => by obtain ⟨p, hp, e⟩ := List.mem_map.mp hk; rw [← e]; exact hn p hp) (by rw [← hl]; exact z) fun h' d' hs => ?_
  have fr : H s.heap.objs.size = none := I.hok.fresh (Nat.le_refl _)
  have hm : (s.heap.objs.size == sysModules) = false := beq_eq_false_iff_ne.mpr (Nat.ne_of_gt I.big)
  obtain ⟨o, es, ep, g1, g2, g3, g4, _, g5⟩ := d'
  exact ⟨.ref s.heap.objs.size, upd H s.heap.objs.size (.dT kvs), I.laid (t' := s.toks) (fun b u e => (hs.2 b (Nat.ne_of_lt (Heap.lt_size e))).trans (Heap.get?_push_of_some _ e)) (Nat.le_refl _)
    ⟨z, hm, ys, rel.keeps fun b ws eb => by rw [upd_ne (fun c => by rw [c, fr] at eb; cases eb)]; exact eb, o, es, ep, g1, g2, g3, g4, g5⟩, rfl, q _ fr⟩
theorem raw_of {h : Heap} {d : Addr} {P : Program} {w : World} {xs : List (List Key × Addr × Value)} (dd : h.DictOfH (tupleKind (mixKind P w)) d xs) : ∃ es ep, h.DictRaw d es ep ∧ es.size = xs.length ∧ ∀ j v, (∃ hi : j < es.size, v = es[j].key) → ∃ x, xs[j]? = some x ∧ v = .ref x.2.1 := by
  obtain ⟨o, es, ep, ho, hx, hdat, he, _, _⟩ := dd
  refine ⟨es, ep, ⟨o, ho, hx, hdat⟩, size_of_entries he, fun j v ⟨hj, hv⟩ => ?_⟩
  have e := entry_at he j
  rw [Array.getElem?_eq_getElem hj] at e
  cases ex : xs[j]? with
  | none => rw [ex] at e; cases e
  | some x =>
    rw [ex] at e
    refine ⟨x, rfl, ?_⟩
    rw [hv, Option.some.inj e]
    rfl
theorem vals_kr {xs : List (List Key × Addr × Value)} {us : List Value} (hl : us.length = xs.length) (h : ∀ (j : Nat) (v : Value), us[j]? = some v → ∃ x, xs[j]? = some x ∧ v = Value.ref x.2.1) : Vals ((xs.map fun x => x.2.1).map V.ref) us := by
  refine vals_of_at (by rw [List.length_map, List.length_map, hl]) fun j x w h1 h2 => ?_
  obtain ⟨y, hy, hv⟩ := h j w h2
  rw [List.getElem?_map, List.getElem?_map, hy] at h1
  cases h1
  rw [hv]
  exact rfl
def rListT : List V → Hp → VK → Prop := fun xs H Q => ∃ (a : Addr) (kvs : List (List Key × V)), xs = [.ref a] ∧ Rd H a (.dT kvs) ∧ ∀ (rs : List Addr) (p : Addr), Paired (KR H) kvs rs → H p = none → Q (.ref p) (upd H p (.lst (rs.map V.ref)))
theorem call_listT (hc : X.calm = true) : CallR X (.type "list") rListT := by
  intro pn s σ H xs us Q I r h
  obtain ⟨a, kvs, rfl, hd, q⟩ := h
  obtain ⟨u, rfl, ru⟩ := vals1 r
  cases ru
  obtain ⟨z, na, ys, rel, dd⟩ := dt_rd I.hok hd
  have hl : kvs.length = ys.length := Paired.length rel
  obtain ⟨es, ep, raw, sz, keys⟩ := raw_of dd
  refine PySem.W.kdl_call (KdlSrc.rawDict (es := es) (ep := ep) na) (I.ok.hd hc) raw (by omega) fun h' tk acc c' keep hS hacc => ?_
  refine ⟨.ref s.heap.objs.size, upd H s.heap.objs.size (.lst ((ys.map fun x => x.2.1).map V.ref)), I.laid keep (Nat.le_refl _) (show ObjOk X.prog X.w _ _ _ (.lst ((ys.map fun x => x.2.1).map V.ref)) from ⟨?_, acc.toList, c', ?_, ?_⟩), rfl, q _ _ (kr_of rel) (I.hok.fresh (Nat.le_refl _))⟩
  · rw [List.length_map, List.length_map, ← hl]; exact z
  · exact vals_kr (by rw [Array.length_toList, hacc.1, sz]) fun j v e => keys j v (hacc.2 j v (by rw [← Array.getElem?_toList]; exact e))
  · rw [Array.toArray_toList]; exact hS
def rSortK (K : PySem.W.Frag) : List V → Hp → VK → Prop := fun xs H Q => ∃ (a : Addr) (kvs : List (List Key × V)) (d : Nat) (B : Int), xs = [.ref a] ∧ Rd H a (.dT kvs) ∧ 1 ≤ d ∧ (∀ p ∈ kvs, ∃ ns : List Int, p.1 = ns.map Sum.inl ∧ ns.length = d ∧ TS.Bd B ns) ∧
  ∀ (rs : List Addr) (zs : List V) (p : Addr), Paired (KR H) kvs rs → zs.Perm (rs.map V.ref) → zs.Pairwise (fun x y => ∀ n m, TupI K H x n → TupI K H y m → TS.code B n ≤ TS.code B m) → H p = none → Q (.ref p) (upd H p (.lst zs))
theorem call_sortK (hc : X.calm = true) : CallR X (.builtin "sorted") (rSortK X.K) := by
  intro pn s σ H xs us Q I r h
  obtain ⟨a, kvs, d, B, rfl, hd, h1, hk, q⟩ := h
  obtain ⟨u, rfl, ru⟩ := vals1 r
  cases ru
  obtain ⟨z, na, ys, rel, dd⟩ := dt_rd I.hok hd
  have hl : kvs.length = ys.length := Paired.length rel
  obtain ⟨es, ep, raw, sz, keys⟩ := raw_of dd
  refine Calls.call_function_entry kind_sorted plain_sorted entry_sorted (args_sorted1 _) ?_
  unfold Builtin.«sorted»
  refine wpAny_bind (m := checkCount "sorted" 1 1 _) (wpAny_pure (wpAny_bind (PySem.W.kdu_collect (A := X.A.in1) (KdlSrc.rawDict (es := es) (ep := ep) na) (I.ok.hd hc) raw (by omega) fun h' tk acc keep hacc => ?_)))
  have la : acc.toList.length = ys.length := by rw [Array.length_toList, hacc.1, sz]
  have hv : Vals ((ys.map fun x => x.2.1).map V.ref) acc.toList := vals_kr la fun j v e => keys j v (hacc.2 j v (by rw [← Array.getElem?_toList]; exact e))
  have I1 : Inv X pn σ H { s with heap := h', toks := tk } := I.kept keep
  have kr := kr_of rel
  have ref : ∀ u ∈ acc.toList, ∃ a, u = Value.ref a := fun u hu => by
    obtain ⟨i, hi, rfl⟩ := List.mem_iff_getElem.mp hu
    have l2 := hv.length
    rw [List.length_map, List.length_map] at l2
    have hi2 : i < ys.length := by omega
    obtain ⟨w, e1, e2⟩ := Vals.get hv (i := i) (x := V.ref ys[i].2.1) (by simp [hi2])
    rw [List.getElem?_eq_getElem hi] at e1
    exact ⟨_, (Option.some.inj e1).trans e2⟩
  have isI : ∀ x ∈ (ys.map fun x => x.2.1).map V.ref, ∃ ns, TupI X.K H x ns ∧ ns.length = d ∧ TS.Bd B ns := fun x hx => by
    obtain ⟨b, hb, rfl⟩ := List.mem_map.mp hx
    obtain ⟨i, hi, rfl⟩ := List.mem_iff_getElem.mp hb
    rw [List.length_map] at hi
    have hi1 : i < kvs.length := by omega
    have e := Paired.at' kr (List.getElem?_eq_getElem hi1) (List.getElem?_eq_getElem (by rw [List.length_map]; exact hi))
    obtain ⟨ns, g1, g2, g3⟩ := hk kvs[i] (List.getElem_mem hi1)
    refine ⟨ns, ⟨_, rfl, ?_⟩, g2, g3⟩
    unfold KR at e
    rw [g1, List.map_map] at e
    have e2 : H ((ys.map fun x => x.2.1)[i]'(by rw [List.length_map]; exact hi)) = some (HO.tup (ns.map V.int)) := e
    exact .inl (.inl e2)
  have raw2 : ∀ hp : Heap, (∀ b o, h'.get? b = some o → hp.get? b = some o) → TS.TupsOk hp d B acc.toList := fun hp kp v hv2 => by
    obtain ⟨t, rfl⟩ := ref v hv2
    obtain ⟨i, hi, e⟩ := List.mem_iff_getElem.mp hv2
    have l2 := hv.length
    obtain ⟨x, g1, g2⟩ : ∃ x, ((ys.map fun x => x.2.1).map V.ref)[i]? = some x ∧ RelV x (.ref t) := by
      refine ⟨((ys.map fun x => x.2.1).map V.ref)[i]'(by omega), List.getElem?_eq_getElem _, ?_⟩
      obtain ⟨w, e1, e2⟩ := Vals.get hv (i := i) (List.getElem?_eq_getElem (by omega))
      rw [List.getElem?_eq_getElem hi, e] at e1
      cases e1
      exact e2
    obtain ⟨ns, ⟨t', e3, ht⟩, g4, g5⟩ := isI x (List.mem_of_getElem? g1)
    subst e3
    cases (show Value.ref t = Value.ref t' from g2)
    exact ⟨ns, (tupI_raw I1 ht).keeps fun b o e _ => kp b o e, g4, g5⟩
  refine wpAny_bind (wpAny_newList ?_ (by rw [la, ← hl]; exact z))
  have ho : (h'.push (seqObj "list" acc.toList.toArray 0)).get? h'.objs.size = some (seqObj "list" acc.toList.toArray 0) := Heap.get?_push_size _ rfl
  show wpAny _ _ _ _ _ { s with heap := h'.push (seqObj "list" acc.toList.toArray 0), toks := tk }
  have rw2 := raw2 (h'.push (seqObj "list" acc.toList.toArray 0)) fun b o e => Heap.get?_push_of_some _ e
  have rw1 := raw2 h' fun b o e => e
  refine wpAny_bind (wpAny_holding (PySem.wpAny_call_entry slot_list_sort ⟨_, ho, rfl⟩ entry_list_sort (SrtO.list_sort_ord (SLs.swo_rank fun v => TS.code B (TS.intsOf h' v)) ho (by rw [la, ← hl]; exact z) (fun h2 => ?_) fun out b1 b2 => ⟨_, rfl, ?_⟩) (args_list_sort _)))
  · refine SLs.tups_any (s := { s with heap := h'.push (seqObj "list" acc.toList.toArray 0), toks := tk }) h1 h2 rw2 _ (fun v hv ns t => ?_) fun o e => ?_
    · obtain ⟨ms, t2, _⟩ := rw1 v hv
      rw [t2.ints, ← t.ints, (t2.keeps fun b o e _ => Heap.get?_push_of_some _ e).ints]
    · have e' : some o = some (seqObj "list" acc.toList.toArray 0) := e.symm.trans ho
      cases e'
      exact fun c => absurd (Value.type.inj c) (by decide)
  · obtain ⟨e', he⟩ := sortedHeap_at (vs := acc.toList) (out := out.toArray) ho
    have h3 : ∀ u ∈ out, ∃ a, u = Value.ref a := fun u hu => ref u (b2.perm.mem_iff.mp hu)
    obtain ⟨e1, _⟩ := bkV_refs hv fun x mx => by
      obtain ⟨_, ⟨t, e, _⟩, _⟩ := isI x mx
      exact ⟨t, e⟩
    have pm : (out.map bkV).Perm ((ys.map fun x => x.2.1).map V.ref) := by
      rw [e1]
      exact b2.perm.map bkV
    have hlen : (out.map bkV).length ≤ sizeLine := by
      rw [pm.length_eq, List.length_map, List.length_map, ← hl]
      exact z
    refine wpAny_pure ⟨_, rfl, .ref h'.objs.size, upd H h'.objs.size (.lst (out.map bkV)), I1.laid (t' := tk) (fun b u e => ?_) (Nat.le_refl _) (show ObjOk X.prog X.w _ _ _ (.lst (out.map bkV)) from ⟨hlen, out, e', bkV_vals h3, he⟩), rfl, q _ _ _ kr pm ?_ (I1.hok.fresh (Nat.le_refl _))⟩
    · have lt : b < h'.objs.size := Heap.lt_size e
      rw [sortedHeap_old (Nat.ne_of_lt lt) (by rw [size_push']; exact Nat.lt_succ_of_lt lt)]
      exact Heap.get?_push_of_some _ e
    · rw [List.pairwise_map]
      refine List.Pairwise.imp (fun {u v} huv n m k1 k2 => ?_) b1
      obtain ⟨t, et, ht⟩ := k1
      obtain ⟨t', et', ht'⟩ := k2
      have i1 := (tupI_raw I1 ht).ints
      have i2 := (tupI_raw I1 ht').ints
      rw [← bkV_ref et] at i1
      rw [← bkV_ref et'] at i2
      have y := of_decide_eq_false huv
      rw [i1, i2] at y
      omega
/-! ## d.clear(), d.pop(k) -/
def rClearT : V → List V → Hp → VK → Prop := fun x vs H Q => ∃ (a : Addr) (kvs : List (List Key × V)), x = .ref a ∧ vs = [] ∧ H a = some (.dT kvs) ∧ Q .non (upd H a (.dT []))
theorem mt_clearT : MtR X "dict.clear" rClearT := by
  intro pn s σ H x vs v us Q I rx rv h
  obtain ⟨a, kvs, rfl, rfl, e, q⟩ := h
  cases (show v = Value.ref a from rx)
  cases rv
  obtain ⟨z, na, ys, rel, dd⟩ := dt_of I.hok e
  have hl : kvs.length = ys.length := Paired.length rel
  refine clear_keyed (knd := tupleKind (mixKind X.prog X.w)) (kvs := pairsH ys) ⟨ys, dd, rfl⟩ (fun h' d' hs => ?_) (by rw [pairsH_length, ← hl]; exact z)
  obtain ⟨ws, dw, ew⟩ := d'
  have ew2 : ws = [] := by
    have := congrArg List.length ew
    rw [pairsH_length] at this
    exact List.eq_nil_of_length_eq_zero this
  subst ew2
  obtain ⟨o, es, ep, g1, g2, g3, g4, _, g5⟩ := dw
  exact ⟨.non, _, d_write (t' := s.toks) I (by rw [e]; exact True.intro) hs ⟨o, g1⟩ (show ObjOk X.prog X.w (upd H a (.dT [])) h' a (.dT []) from ⟨Nat.zero_le _, na, [], .nil, o, es, ep, g1, g2, g3, g4, g5⟩), rfl, q⟩
theorem popT {pn : List (Addr × Obj)} {σ : L2.St} {H : Hp} {s : Shared} {A : Around} {E : Value → Shared → Prop} {Q : Value → Shared → Prop} {a b : Addr} {kvs : List (List Key × V)} {k : List Key} {v : V} (hu : A.units + 1 < cLine) (I : Inv X pn σ H s) (e : H a = some (.dT kvs)) (eb : H b = some (.tup (k.map kV))) (hv : valV kvs k = some v)
    (q : ∀ w' s', Inv X pn σ (upd H a (.dT (dropK kvs k))) s' → RelV v w' → Q w' s') : wpAny (model X.prog X.w) A (call (.builtin "dict.pop") [.ref a, .ref b]) Q E s := by
  obtain ⟨z, na, ys, rel, dd⟩ := dt_of I.hok e
  have hl : kvs.length = ys.length := Paired.length rel
  have rr := rel.val k
  rw [hv] at rr
  obtain ⟨w', hw, rw'⟩ := RelO.some_of (v := v) (o := (atKey ys k).map (·.2)) rr
  obtain ⟨p, hp, rfl⟩ := Option.map_eq_some_iff.mp hw
  refine call_pop_heap (.inl rfl) (PySem.F.args_dict_pop_2 _ _) (tupleKind_room_in1 hu) (key_of I.hok eb) na dd hp (fun h' d' hs => q _ _ ?_ rw') (by rw [← hl]; exact z)
  obtain ⟨o, es, ep, g1, g2, g3, g4, _, g5⟩ := d'
  exact d_write I (by rw [e]; exact True.intro) hs ⟨o, g1⟩ ⟨Nat.le_trans (dropK_le kvs k) z, na, _, (L2.DX.KT_drop k rel).keeps (fun c ws ec => by rw [upd_ne (ne_of ec e (fun z => nomatch z))]; exact ec), o, es, ep, g1, g2, g3, g4, g5⟩
end
end SLf

namespace SL
open PySem PySem.Spec PyProof.Rows L2
/-! # dicts with tuples as keys: dict(d), list(d), sorted(d), d.clear(), d.pop(k), as values; x[::-1]; isinstance(e, ValueError) -/
def keyTO (k : KeyL) : W := .tup (k.map keyO)
theorem keysW_O : ∀ k : KeyL, keysW (k.map keyO) = some k
  | [] => rfl
  | j :: k => by
    rw [List.map_cons, keysW, keysW_O k]
    cases j <;> rfl
theorem keyT_O (k : KeyL) : keyT (keyTO k) = some k := keysW_O k
theorem mapO_keyTO : ∀ kk : List KeyL, mapO keyT (kk.map keyTO) = some kk
  | [] => rfl
  | k :: kk => by rw [List.map_cons, mapO, mapO_keyTO kk, keyT_O]
def bitJ : Key → Bool
  | .inl i => decide (i = 0 ∨ i = 1)
  | .inr _ => false
def bitKB (k : KeyL) : Bool := decide (k.length ≤ 6) && k.all bitJ
def intJ : Key → Int
  | .inl i => i
  | .inr _ => 0
theorem bitKB_ok {k : KeyL} (h : bitKB k = true) : SLf.BitK k := by
  unfold bitKB at h
  rw [Bool.and_eq_true, List.all_eq_true] at h
  refine ⟨k.map intJ, ?_, by rw [List.length_map]; exact of_decide_eq_true h.1, fun x hx => ?_⟩
  · have : ∀ {l : List Key}, (∀ j ∈ l, bitJ j = true) → l = (l.map intJ).map Sum.inl := by
      intro l
      induction l with
      | nil => intro _; rfl
      | cons j l ih =>
        intro hl
        rw [List.map_cons, List.map_cons, ← ih fun j hj => hl j (List.mem_cons_of_mem _ hj)]
        have z := hl j List.mem_cons_self
        cases j with
        | inl i => rfl
        | inr x => cases z
    exact this h.2
  · obtain ⟨j, hj, rfl⟩ := List.mem_map.mp hx
    have z := h.2 j hj
    cases j with
    | inl i => exact of_decide_eq_true z
    | inr x => cases z
def oDictCT : OpN := fun ws st => match ws with
  | [x] => match dctT st x with
    | some (kk, us) => if (kk.all bitKB) = true then .ok (.cell st.length) (st ++ [.dct (.ty "T" :: kk.map keyTO) us]) else .bad
    | none => .bad
  | _ => .bad
def oListDT : OpN := fun ws st => match ws with
  | [x] => match dctT st x with
    | some (kk, _) => .ok (.lst (kk.map keyTO)) st
    | none => .bad
  | _ => .bad
def intsK : KeyL → Option (List Int)
  | [] => some []
  | .inl i :: r => (intsK r).map (i :: ·)
  | _ => none
theorem intsK_eq : ∀ {k : KeyL} {l : List Int}, intsK k = some l → k = l.map Sum.inl
  | [], l, h => by unfold intsK at h; cases h; rfl
  | .inl i :: r, l, h => by
    unfold intsK at h
    cases e : intsK r with
    | none => rw [e] at h; cases h
    | some m => rw [e] at h; cases h; rw [List.map_cons, ← intsK_eq e]
  | .inr _ :: _, _, h => by unfold intsK at h; cases h
theorem mapO_eq {α β γ : Type} {f : α → Option β} {g : β → α} (hf : ∀ a b, f a = some b → a = g b) : ∀ {l : List α} {m : List β}, mapO f l = some m → l = m.map g
  | [], m, h => by unfold mapO at h; cases h; rfl
  | a :: l, m, h => by
    unfold mapO at h
    cases e1 : f a with
    | none => rw [e1] at h; cases h
    | some b =>
      cases e2 : mapO f l with
      | none => rw [e1, e2] at h; cases h
      | some bs =>
        rw [e1, e2] at h
        cases h
        rw [List.map_cons, ← hf a b e1, ← mapO_eq (γ := γ) hf e2]
noncomputable def oSortDT : OpN := fun ws st => match ws with
  | [x] => match dctT st x with
    | some (kk, _) => match mapO intsK kk with
      | some L => if dec (∃ (d : Nat) (B : Int), 1 ≤ d ∧ ∀ l ∈ L, l.length = d ∧ TS.Bd B l) = true then .ok (.lst ((sortT L).map tupOf)) st else .bad
      | none => .bad
    | none => .bad
  | _ => .bad
section
variable {X : Cx} {Wx : Wish}
theorem os_dictCT : OpNS X oDictCT (fun xs H Q => ∃ (a : Addr) (kvs : List (List Key × V)), xs = [.ref a] ∧ Rd H a (.dT kvs) ∧ (∀ p ∈ kvs, SLf.BitK p.1) ∧ ∀ p, H p = none → Q (.ref p) (upd H p (.dT kvs))) := by
  intro Wx hid μ st σ H Q ws vs k r P
  unfold oDictCT at P
  split at P
  · rename_i x
    obtain ⟨v, rfl, r1⟩ := reps1 (ws := []) r
    split at P
    · rename_i kk us e
      split at P
      · rename_i hb
        obtain ⟨a, vs, rfl, h1, h2, h3⟩ := dctT_at k e r1
        rw [List.all_eq_true] at hb
        refine ⟨a, kk.zip vs, rfl, h2, fun p hp => bitKB_ok (hb p.1 (List.of_mem_zip hp).1), fun p hp => ?_⟩
        obtain ⟨k2, g2⟩ := k.newCell (c := .dct (.ty "T" :: kk.map keyTO) us) (o := .dT (kk.zip vs)) hp rfl ⟨vs, ⟨false, .inr kk, kind_T1 (mapO_keyTO kk), h1, upd_same⟩, h3.mono (.refl _) ⟨[p], rfl⟩⟩
        refine P _ _ _ k2 g2 ?_
        unfold Rep
        exact ⟨p, by rw [← k.len]; simp, rfl⟩
      · exact P.elim
    · exact P.elim
  · exact P.elim
theorem keyTO_reps {K : PySem.W.Frag} {mg : Str → Option Value} {hid μ : List Addr} {st : Sto} {H : Hp} (k : StOk K mg μ st hid H) : ∀ {kk : List KeyL} {vs : List V} {rs : List Addr}, kk.length = vs.length → Paired (SLf.KR H) (kk.zip vs) rs → Reps K mg (Fz μ st hid H) μ (kk.map keyTO) (rs.map V.ref)
  | [], vs, rs, _, p => by cases p; exact .nil
  | j :: kk, [], rs, h, _ => by simp at h
  | j :: kk, v :: vs, rs, h, p => by
    rw [List.zip_cons_cons] at p
    cases p with
    | cons q t => exact .cons (rep_keyT (keyT_O j) (tup_fz k (show H _ = some _ from q))) (keyTO_reps k (by simpa using h) t)
theorem os_listT : OpNS X oListDT SLf.rListT := by
  intro Wx hid μ st σ H Q ws vs k r P
  unfold oListDT at P
  split at P
  · rename_i x
    obtain ⟨v, rfl, r1⟩ := reps1 (ws := []) r
    split at P
    · rename_i kk us e
      obtain ⟨a, vs, rfl, h1, h2, h3⟩ := dctT_at k e r1
      exact ⟨a, kk.zip vs, rfl, h2, fun rs p hr hp => ok_new P k hp fun F l e => rep_lst e ((keyTO_reps k h1 hr).mono l (.refl _))⟩
    · exact P.elim
  · exact P.elim
theorem keyTO_int (l : List Int) : keyTO (l.map Sum.inl) = tupOf l := by
  unfold keyTO tupOf
  rw [List.map_map]
  rfl
theorem os_sortK : OpNS X oSortDT (SLf.rSortK X.K) := by
  intro Wx hid μ st σ H Q ws vs k r P
  unfold oSortDT at P
  split at P
  · rename_i x
    obtain ⟨v, rfl, r1⟩ := reps1 (ws := []) r
    split at P
    · rename_i kk us e
      split at P
      · rename_i L eL
        split at P
        · rename_i hg
          obtain ⟨d, B, hd, hL⟩ := dec_of hg
          obtain ⟨a, vs, rfl, h1, h2, h3⟩ := dctT_at k e r1
          have ek : kk = L.map fun l => l.map Sum.inl := mapO_eq (γ := Unit) (fun _ _ => intsK_eq) eL
          refine ⟨a, kk.zip vs, d, B, rfl, h2, hd, fun p hp => ?_, fun rs zs p hr pm sr hp => ?_⟩
          · have hm := (List.of_mem_zip hp).1
            rw [ek] at hm
            obtain ⟨l, hl, e2⟩ := List.mem_map.mp hm
            exact ⟨l, e2.symm, hL l hl⟩
          · have h2' := keyTO_reps k h1 hr
            have e3 : kk.map keyTO = L.map tupOf := by
              rw [ek, List.map_map]
              exact List.map_congr_left fun l _ => keyTO_int l
            rw [e3] at h2'
            obtain ⟨M, pM, rM⟩ := reps_perm pm h2'
            have hM : ∀ l ∈ M, l.length = d ∧ TS.Bd B l := fun l hl => hL l (pM.mem_iff.mp hl)
            have s1 : M.Pairwise fun a b => (!lexLt b a) = true := pair_of sr rM fun a ha b hb v u hv hu hc => by
              have z := hc a b (tup_I hv) (tup_I hu)
              rw [lex_code (by rw [(hM a ha).1, (hM b hb).1]) (hM b hb).2 (hM a ha).2]
              simp
              omega
            have s2 : (sortT L).Pairwise fun a b => (!lexLt b a) = true := by
              refine List.pairwise_mergeSort (le := fun a b => !lexLt b a) (fun a b c h1 h2 => ?_) (fun a b => ?_) L
              · simp at h1 h2 ⊢
                exact lex_trans a b c h1 h2
              · rcases lex_asym a b with h | h <;> simp [h]
            have e4 : M = sortT L := one_order (pM.trans (List.mergeSort_perm L _).symm) s1 s2 fun a ha b hb h1 h2 => lex_tri (by rw [(hM a ha).1, (hM b hb).1]) (by simpa using h2) (by simpa using h1)
            rw [e4] at rM
            exact ok_new P k hp fun F l e => rep_lst e (rM.mono l (.refl _))
        · exact P.elim
      · exact P.elim
    · exact P.elim
  · exact P.elim
/-! ## d.clear(), d.pop(k) -/
def dctTL (st : Sto) (w : W) : Option (Nat × List KeyL × List W) := match w with
  | .cell n => (match st[n]? with
    | some (.dct (.ty t :: ks) ws) => if t = "T" then (match mapO keyT ks with
      | some kk => some (n, kk, ws)
      | none => none) else none
    | _ => none)
  | _ => none
theorem dctTL_at {K : PySem.W.Frag} {mg : Str → Option Value} {hid μ : List Addr} {st : Sto} {H : Hp} {x : W} {v : V} {n : Nat} {kk : List KeyL} {ws : List W} (k : StOk K mg μ st hid H) (h : dctTL st x = some (n, kk, ws)) (r : Rep K mg (Fz μ st hid H) μ x v) :
    ∃ a vs ks, x = .cell n ∧ v = .ref a ∧ μ[n]? = some a ∧ st[n]? = some (.dct (.ty "T" :: ks) ws) ∧ mapO keyT ks = some kk ∧ H a = some (.dT (kk.zip vs)) ∧ kk.length = vs.length ∧ Reps K mg (Fz μ st hid H) μ ws vs := by
  unfold dctTL at h
  split at h
  · rename_i m
    split at h
    · rename_i t ks us e
      split at h
      · rename_i ht
        subst ht
        split at h
        · rename_i jj hk
          cases h
          obtain ⟨a, rfl, h1, vs, ⟨l, q', g1, g2, g3⟩, h3⟩ := k.cell e r
          rw [kind_T1 hk] at g1
          cases g1
          exact ⟨a, vs, ks, rfl, rfl, h1, e, hk, g3, g2, h3⟩
        · cases h
      · cases h
    · cases h
  · cases h
def isDctTL (st : Sto) (w : W) : Bool := (dctTL st w).isSome
theorem isDctTL_at {K : PySem.W.Frag} {mg : Str → Option Value} (hid μ : List Addr) (st : Sto) (H : Hp) (w : W) (v : V) (k : StOk K mg μ st hid H) (r : Rep K mg (Fz μ st hid H) μ w v) (h : isDctTL st w = true) : tyV K "dict" v H := by
  unfold isDctTL at h
  cases e : dctTL st w with
  | none => rw [e] at h; cases h
  | some p =>
    obtain ⟨n, kk, ws⟩ := p
    obtain ⟨a, vs, ks, _, rfl, _, _, _, h2, _⟩ := dctTL_at k e r
    exact .inr (.inr (.inl ⟨rfl, .inr ⟨_, h2⟩⟩))
def mClearT : OpM := fun x ws st => match ws with
  | [] => (match dctTL st x with
    | some (n, _, _) => .ok .non (st.set n (.dct [.ty "T"] []))
    | none => .bad)
  | _ => .bad
theorem os_clearT : OpMS X mClearT SLf.rClearT := by
  intro Wx hid μ st σ H Q w ws x vs k rx rv P
  unfold mClearT at P
  split at P
  · split at P
    · rename_i n kk us e
      obtain ⟨a, xs, ks, rfl, rfl, h1, e1, hk, h2, h3, h4⟩ := dctTL_at k e rx
      have hv : vs = [] := List.eq_nil_of_length_eq_zero (by have := rv.length; simpa using this.symm)
      subst hv
      refine ⟨a, _, rfl, rfl, h2, ?_⟩
      obtain ⟨k2, g4⟩ := k.setCell (c' := .dct [.ty "T"] []) (o := .dT []) h1 e1 rfl rfl ⟨[], ⟨false, .inr [], kind_T1 (ks := []) rfl, rfl, upd_same⟩, .nil⟩ rfl
      exact P μ _ .non k2 g4 (by unfold Rep; rfl)
    · exact P.elim
  · exact P.elim
theorem ev_clearT {o : Expr} {f : Sem} {apos cpos : Pos} (ho : EV X Wx o f) (hbase : attributeBase o "clear" X.env (eval o X.env) = eval o X.env := by rfl) (hline : (apos.endLine == cpos.line) = true := by rfl) : EV X Wx (.Call (.Attribute o "clear" apos) [] [] cpos) (eM0 isDctTL mClearT f) :=
  ev_m0 PySem.F.plainAttrs_dict PySem.F.slot_dict_clear PySem.F.type_dict_clear isDctTL_at SLf.mt_clearT os_clearT ho hbase hline
def tPopT (td ty : TE) : TE := fun σ H Q => td σ H fun x H1 => ∃ a, x = .ref a ∧ IsD H1 a ∧ ty σ H1 fun y H2 => ∃ (kvs : List (List Key × V)) (k : List Key) (b : Addr) (v : V), H2 a = some (.dT kvs) ∧ y = .ref b ∧ H2 b = some (.tup (k.map kV)) ∧ valV kvs k = some v ∧ Q v (upd H2 a (.dT (dropK kvs k)))
theorem pe_popT {o e : Expr} {td ty : TE} {apos cpos : Pos} (hu : X.A.units + 1 < cLine) (ho : PE X o td) (he : PE X e ty) (m : M1 X o "pop" apos e cpos) : PE X (.Call (.Attribute o "pop" apos) [e] [] cpos) (tPopT td ty) := by
  refine ⟨fun pn s σ H Q J h => ?_⟩
  refine wpAny_Call_method m.base m.few m.line PySem.F.plainAttrs_dict PySem.F.slot_dict_pop PySem.F.type_dict_pop (thn (ho.run pn s σ H _ J h) fun u s1 ⟨x, H1, J1, rx, a, ex, d, q1⟩ => ?_)
  subst ex
  obtain rfl : u = Value.ref a := rx
  obtain ⟨g1, g2, _⟩ := isD_at J1 d
  refine ⟨g1, g2, ?_⟩
  rw [m.trees]
  refine Calls.callWith_builtin rfl (Calls.evalArgs_plain (Calls.spliced_cons (thn (he.run pn s1 σ H1 _ J1 q1) fun iv s2 ⟨y, H2, J2, ry, kvs, k, b, v, ea, ey, eb, hv, q2⟩ => Calls.spliced_nil ?_)))
  subst ey
  obtain rfl : iv = Value.ref b := ry
  exact SLf.popT hu J2 ea eb hv fun w' s3 J3 rw' => ⟨v, _, J3, rw', q2⟩
def dropTW (kk : List KeyL) (ws : List W) (j : KeyL) : List W := ((kk.zip ws).filter fun p => decide (p.1 ≠ j)).map (·.2)
def eDPopT (f g : Sem) : Sem := fun fr st => (f fr st).bind fun x st1 => if isDctTL st1 x = true then (g fr st1).bind fun y st2 => (match dctTL st2 x, keyT y with
  | some (n, kk, ws), some j => (match valT (kk.zip ws) j with
    | some w => .ok w (st2.set n (.dct (.ty "T" :: (kk.filter fun i => decide (i ≠ j)).map keyTO) (dropTW kk ws j)))
    | none => .bad)
  | _, _ => .bad) else .bad
theorem drop_zipT (j : KeyL) : ∀ (kk : List KeyL) (vs : List V), kk.length = vs.length → dropK (kk.zip vs) j = (kk.filter fun i => decide (i ≠ j)).zip (((kk.zip vs).filter fun p => decide (p.1 ≠ j)).map (·.2))
  | [], vs, _ => rfl
  | i :: kk, [], h => by simp at h
  | i :: kk, v :: vs, h => by
    have ih := drop_zipT j kk vs (by simpa using h)
    unfold dropK at ih ⊢
    rw [List.zip_cons_cons, List.filter_cons, List.filter_cons]
    by_cases e : i = j
    · simp only [e, ne_eq, not_true_eq_false, decide_false]
      exact ih
    · simp only [ne_eq, e, not_false_eq_true, decide_true, if_true]
      rw [List.map_cons, List.zip_cons_cons]
      congr 1
theorem drop_lenT (j : KeyL) : ∀ (kk : List KeyL) (vs : List V), kk.length = vs.length → (kk.filter fun i => decide (i ≠ j)).length = (((kk.zip vs).filter fun p => decide (p.1 ≠ j)).map (·.2)).length
  | [], vs, _ => rfl
  | i :: kk, [], h => by simp at h
  | i :: kk, v :: vs, h => by
    have ih := drop_lenT j kk vs (by simpa using h)
    rw [List.zip_cons_cons, List.filter_cons, List.filter_cons]
    by_cases e : i = j
    · simp only [e, ne_eq, not_true_eq_false, decide_false]
      exact ih
    · simp only [ne_eq, e, not_false_eq_true, decide_true, if_true, List.map_cons, List.length_cons]
      rw [ih]
theorem drop_repsT {K : PySem.W.Frag} {mg : Str → Option Value} {F : Hp} {μ : List Addr} (j : KeyL) : ∀ (kk : List KeyL) (ws : List W) (vs : List V), kk.length = vs.length → Reps K mg F μ ws vs → Reps K mg F μ (((kk.zip ws).filter fun p => decide (p.1 ≠ j)).map (·.2)) (((kk.zip vs).filter fun p => decide (p.1 ≠ j)).map (·.2))
  | [], ws, vs, _, _ => by simp; exact .nil
  | i :: kk, ws, [], h, _ => by simp at h
  | i :: kk, ws, v :: vs, h, r => by
    have hl := r.length
    cases ws with
    | nil => simp at hl
    | cons w ws =>
      obtain ⟨v', vs', e, r1, r2⟩ := r.cons_inv
      cases e
      have ih := drop_repsT (K := K) (mg := mg) (F := F) (μ := μ) j kk ws vs (by simpa using h) r2
      rw [List.zip_cons_cons, List.zip_cons_cons, List.filter_cons, List.filter_cons]
      by_cases e : i = j
      · simp only [e, ne_eq, not_true_eq_false, decide_false]
        exact ih
      · simp only [ne_eq, e, not_false_eq_true, decide_true, if_true, List.map_cons]
        exact .cons r1 ih
theorem ev_dpopT {k : Nat} {o e : Expr} {f g : Sem} {apos cpos : Pos} (C : Ctx X Wx k) (ho : EV X Wx o f) (he : EV X Wx e g) (m : M1 X o "pop" apos e cpos := by exact ⟨rfl, rfl, rfl, rfl⟩) : EV X Wx (.Call (.Attribute o "pop" apos) [e] [] cpos) (eDPopT f g) :=
  PEm (pe_popT (by have := C.room.un; omega) ho he m) fun σ H Q ⟨μ, st, hid, fr, S, P⟩ => by
    unfold tPopT
    refine ⟨μ, st, hid, fr, S, ?_⟩
    unfold eDPopT at P
    cases h1 : f fr st with
    | bad => rw [h1] at P; exact P
    | err x s => rw [h1] at P; exact P
    | ok x st1 =>
      rw [h1, Out.bind_ok] at P
      intro μ1 H1 xv k1 g1 r1
      have P1 := EPost.from g1 P
      split at P1
      · rename_i hx
        unfold isDctTL at hx
        cases hd : dctTL st1 x with
        | none => rw [hd] at hx; cases hx
        | some p =>
          obtain ⟨n0, kk0, ws0⟩ := p
          obtain ⟨a, vs, ks, rfl, rfl, _, _, _, q2, _⟩ := dctTL_at k1 hd r1
          refine ⟨a, rfl, .inr ⟨_, .inl q2⟩, μ1, st1, hid, fr, S.next k1 g1, ?_⟩
          cases h2 : g fr st1 with
          | bad => rw [h2] at P1; exact P1
          | err x s => rw [h2] at P1; exact P1
          | ok y st2 =>
            rw [h2, Out.bind_ok] at P1
            intro μ2 H2 yv k2 g2 r2
            have P2 := EPost.from g2 P1
            split at P2
            · rename_i n kk ws j hx2 hy
              obtain ⟨b, ys, js, ex, eb, m1, e1, hk, m2, m3, m4⟩ := dctTL_at k2 hx2 (Rep.mono g2.le g2.pre _ _ r1)
              cases ex
              cases eb
              split at P2
              · rename_i w hw
                obtain ⟨v1, v2⟩ := val_atT (K := X.K) (mg := X.mg) (F := Fz μ2 st2 hid H2) (μ := μ2) j m3 m4
                obtain ⟨v, hv, rv⟩ := v1 w hw
                obtain ⟨b, rfl, hb⟩ := keyT_rep hy r2
                refine ⟨_, j, b, v, m2, rfl, (Fz.sub hb).1, hv, ?_⟩
                rw [drop_zipT j kk ys m3]
                obtain ⟨k3, g3⟩ := k2.setCell (c' := .dct (.ty "T" :: (kk.filter fun i => decide (i ≠ j)).map keyTO) (dropTW kk ws j)) (o := .dT ((kk.filter fun i => decide (i ≠ j)).zip (List.map (fun q : KeyL × V => q.2) (List.filter (fun p : KeyL × V => decide (p.1 ≠ j)) (kk.zip ys))))) m1 e1 rfl rfl
                  ⟨List.map (fun q : KeyL × V => q.2) (List.filter (fun p : KeyL × V => decide (p.1 ≠ j)) (kk.zip ys)), ⟨false, .inr _, kind_T1 (mapO_keyTO _), drop_lenT j kk ys m3, upd_same⟩, drop_repsT j kk ws ys m3 m4⟩ rfl
                exact P2 μ2 _ v k3 g3 (Rep.mono g3.le g3.pre _ _ rv)
              · exact P2.elim
            · exact P2.elim
      · exact P1.elim
/-! ## x[::-1] of a list -/
def eRevL (f : Sem) : Sem := fun fr st => (f fr st).bind fun x st1 => match lstW st1 x with
  | some ws => .ok (.lst ws.reverse) st1
  | none => .bad
theorem reps_rev {K : PySem.W.Frag} {mg : Str → Option Value} {F : Hp} {μ : List Addr} : ∀ {ws : List W} {vs : List V}, Reps K mg F μ ws vs → Reps K mg F μ ws.reverse vs.reverse
  | [], vs, r => by rw [Reps.nil_iff] at r; subst r; exact .nil
  | w :: ws, vs, r => by
    obtain ⟨v, t, rfl, h1, h2⟩ := r.cons_inv
    rw [List.reverse_cons, List.reverse_cons]
    exact (reps_rev h2).append (.cons h1 .nil)
theorem ev_revL {e : Expr} {f : Sem} {k : Nat} {p1 p2 p3 pos : Pos} (he : EV X Wx e f) : EV X Wx (.Subscript e (.Slice none none (some (.UnaryOp .USub (.Constant (.int 1) k p1) p2)) p3) pos) (eRevL f) :=
  PEm (pe_revL he) fun σ H Q ⟨μ, st, hid, fr, S, P⟩ => by
    unfold tRevL
    refine ⟨μ, st, hid, fr, S, ?_⟩
    unfold eRevL at P
    cases h : f fr st with
    | bad => rw [h] at P; exact P
    | err x s => rw [h] at P; exact P
    | ok w st1 =>
      rw [h, Out.bind_ok] at P
      intro μ1 H1 v k1 g1 r1
      have P1 := EPost.from g1 P
      split at P1
      · rename_i ws e
        obtain ⟨a, xs, rfl, h1, h2⟩ := lstW_at k1 e r1
        exact ⟨a, xs, rfl, h1, fun q hq => ok_new P1 k1 hq fun F l e => rep_lst e ((reps_rev h2).mono l (.refl _))⟩
      · exact P1.elim
end
end SL

namespace SL
open PySem PySem.Spec PyProof.Rows L2
/-! # isinstance(e, ValueError) of a caught error of an own class -/
structure IvOk (K : PySem.W.Frag) (mg : Str → Option Value) (t : String) (T : Str → Bool) : Prop where
  ok : ∀ c, T c = true → ∀ D, mg c = some (.ref D) → ExcC K D ∧ PySem.W.kitOne K (.ref D) (.type t) = some true
theorem kit_ty {K : PySem.W.Frag} {D : Addr} {t : String} {b : Bool} (hm : PySem.W.kitMeta t = true) (h : PySem.W.subIn K (.ref D) (.type t) = some b) : PySem.W.kitOne K (.ref D) (.type t) = some b := by
  show (if (Value.ref D == Value.type t) = true then some true else (if PySem.W.kitMeta t = true then PySem.W.subIn K (.ref D) (.type t) else none)) = some b
  have ne : ¬ (Value.ref D == Value.type t) = true := fun q => by
    have e : Value.ref D = Value.type t := beq_iff_eq.mp q
    cases e
  rw [if_neg ne, if_pos hm]
  exact h
def rIsV (K : PySem.W.Frag) (t : String) (cls : Value) (d : Option Addr) (a : Addr) : List V → Hp → VK → Prop := fun xs H Q => ∃ (D dx : Addr) (fs : List (Str × V)), cls = .ref D ∧ d = some dx ∧ H dx = some (.xd fs) ∧ xs = [.ref a, .ty t] ∧ ExcC K D ∧ PySem.W.kitOne K (.ref D) (.type t) = some true ∧ Q (.bl true) H
theorem call_isV {X : Cx} {t : String} {a : Addr} {oe : Obj} {cls : Value} {d : Option Addr} {pn : List (Addr × Obj)} (hz : Zc cls d oe) (hf : ∃ vs, oe.data = .fields vs) : CallR (X.suite a ((a, oe) :: pn)) (.builtin "isinstance") (rIsV X.K t cls d a) := by
  intro ps s σ H xs us Q J r h
  obtain ⟨D, dx, fs, rfl, rfl, hdx, rfl, E, e, q⟩ := h
  obtain ⟨u1, u2, rfl, r1, r2⟩ := vals2 r
  cases r1
  obtain rfl : u2 = Value.type t := r2
  obtain ⟨ha, _⟩ := J.pin (a, oe) (List.mem_append.mpr (.inl List.mem_cons_self))
  obtain ⟨vs, hv⟩ := hf
  obtain ⟨mA, hns, _⟩ := (show ObjOk X.prog X.w H s.heap dx (.xd fs) from J.hok dx _ hdx)
  obtain ⟨od, ho, _⟩ := lookIn_ns hns
  have at' : PySem.W.InstAt s.heap a oe D (some od) := ⟨ha, hz.1, by unfold PySem.W.notCls; rw [hv] <;> rfl, by rw [hz.2]; exact ho⟩
  obtain ⟨cd, hcd, _⟩ := PySem.W.any_some E.hd
  exact PySem.W.kia_one (PySem.W.kitx_exc (by rw [hcd]; rfl) E.hg E.hk E.hs E.ha E.hn E.ht E.hm) J.kIn at' e (fun z => nomatch z) fun tk => ⟨.bl true, H, J.kept (t' := tk) fun _ _ z => z, rfl, q⟩
def eIsV (T : Str → Bool) (x : Exc) : Sem := fun _ st => match x.ns with
  | [] => .bad
  | _ :: _ => if T x.c = true then .ok (.bl true) st else .bad
section
variable {X : Cx} {Wx : Wish}
theorem ev_isV {T : Str → Bool} {t : String} {a : Addr} {oe : Obj} {cls : Value} {d : Option Addr} {pn : List (Addr × Obj)} {x : Exc} {c nm f : Str} {i : Nat} {p p1 p2 pos : Pos} (hT : IvOk X.K X.mg t T) (hm : X.mg c = none) (hb : X.mg f = none) (hz : Zc cls d oe) (hf : ∃ vs, oe.data = .fields vs)
    (hN : X.N[i]? = some nm) (hv : Vis X.env.scope nm) (hcv : bootBuiltins c = some (.type t) := by decide +kernel) (hbv : bootBuiltins f = some (.builtin "isinstance") := by decide +kernel) (hg : Gl X f := by rfl) (hgc : Gl X c := by rfl) (hd : (nm == ("__debug__" : Str)) = false := by decide) (hcd : (nm == ("__classdict__" : Str)) = false := by decide)
    (hfn : f ≠ "__name__" := by decide) (hcn : c ≠ "__name__" := by decide) (hfd : (f == ("__debug__" : Str)) = false := by decide) (hcg : (c == ("__debug__" : Str)) = false := by decide) (he : starEach [Expr.Name nm p1, Expr.Name c p2] X.env = (false, eval (.Name nm p1) X.env) :: starEach [Expr.Name c p2] X.env := by rfl)
    (he2 : starEach [Expr.Name c p2] X.env = (false, eval (.Name c p2) X.env) :: starEach [] X.env := by rfl)
    (hpl : (backTo pos (starEach [Expr.Name c p2] X.env)).any (·.1) = false := by rfl) :
    EV (X.suite a ((a, oe) :: pn)) (Wx.suite X.K X.mg (some i) x a cls d) (.Call (.Name f p) [.Name nm p1, .Name c p2] [] pos) (eIsV T x) :=
  PEm (pe_callB (X := X.suite a ((a, oe) :: pn)) (call_isV (t := t) hz hf) hg hb hbv (pa_cons (pe_var (X := X.suite a ((a, oe) :: pn)) (i := i) hN hv hd hcd) (pa_cons (pe_bltn (X := X.suite a ((a, oe) :: pn)) (v := .ty t) hgc hm hcv rfl hcn hcg) pa_nil he2) he) hfn hfd he hpl) fun σ H Q ⟨μ, st, hid, fr, S, P⟩ => by
    obtain ⟨_, ⟨C', h1, h2, h3⟩, h4⟩ := S.ex
    refine ⟨.ref a, h4 i rfl, ?_⟩
    show rIsV X.K t cls d a [.ref a, .ty t] H Q
    unfold eIsV at P
    split at P
    · exact P.elim
    · rename_i n ns hns
      split at P
      · rename_i hb'
        obtain ⟨g1, g2⟩ := hT.ok _ hb' _ h1
        rcases h3 with h3 | ⟨dx, vs, h3, h4, h5, h6⟩
        · rw [hns] at h3; cases h3
        · exact ⟨C', dx, _, h2, h3, (Fz.sub h5).1, rfl, g1, g2, P μ H _ S.sto .refl rep_bl⟩
      · exact P.elim
end
end SL

namespace SL
open PySem PySem.Spec PyProof.Rows L2
def top (i : Nat) : Stmt := PySem.Challenge.pw_surelabels_k36_readers_told.main.body.getD i (.Pass ⟨0, 0, 0, 0⟩)
def inCls (st : Stmt) (i : Nat) : Stmt := match st with
  | .ClassDef _ _ _ b _ _ _ _ _ _ _ => b.getD i (.Pass ⟨0, 0, 0, 0⟩)
  | _ => .Pass ⟨0, 0, 0, 0⟩
abbrev s_Reader___eq__ : Stmt := inCls (top 16) 1
abbrev s_is_mark : Stmt := top 14
abbrev s_is_integer : Stmt := top 5
abbrev s_is_between_cells : Stmt := top 6
abbrev s_is_row : Stmt := top 8
abbrev s_are_marks : Stmt := top 15
abbrev s_is_between_readers : Stmt := top 12
abbrev s_Reader___init__ : Stmt := inCls (top 16) 0
abbrev s_Reader_marks : Stmt := inCls (top 16) 2
abbrev s_law_alike : Stmt := top 21
abbrev s_Reader_mark : Stmt := inCls (top 16) 3
abbrev s_law_asked : Stmt := top 23
abbrev s_law_bag : Stmt := top 18
abbrev s_law_pick : Stmt := top 19
abbrev s_law_rows : Stmt := top 20
abbrev s_law_drawn : Stmt := top 22
abbrev s_law : Stmt := top 24
abbrev s_init_BadReader : Stmt := inCls (top 3) 0
abbrev s_init_BadRow : Stmt := inCls (top 2) 0
def exT : ExT := fun a b => if a = "BadReader" then (if b = "LabelError" then some true else none) else if a = "BadRow" then (if b = "LabelError" then some true else none) else none
def isV : Str → Bool := fun a => decide (a = "BadReader") || decide (a = "BadRow")
def isT : ExT := fun a b => if a = "BadReader" then (if b = "BadRow" then some false else none) else if a = "BadRow" then (if b = "BadRow" then some true else none) else none
/-! ### what the defs say -/
noncomputable def B_Reader___eq__ : SSem := sRet (eAnd (eN (oIsC "Reader") (aCons (eVar 1) (aCons (eC (.cls "Reader")) (aNil)))) (eAnd (e2 oEq (eFld ["Reader"] "width" (eVar 0)) (eFld ["Reader"] "width" (eVar 1))) (e2 oEqT (eFld ["Reader"] "known" (eVar 0)) (eFld ["Reader"] "known" (eVar 1)))))
noncomputable def F_Reader___eq__ : Fn := mkFn 2 B_Reader___eq__
noncomputable def B_is_mark : SSem := sSeq (sIf (bNot (bOf (eN oIsi (aCons (eVar 0) (aCons (eC (.ty "str")) (aNil)))))) (sRet (eC (.bl false))) (sNil)) (sRet (eOr (e2 oIn (eVar 0) (eN oTup (aCons (eC (.str "start")) (aCons (eC (.str "stop")) (aNil))))) (eAnd (e2 oEq (eN oLen (aCons (eVar 0) (aNil))) (eC (.int 1))) (e2 oIn (eVar 0) (eC (.str "0123456789abcdefghijklmnopqrstuvwxyz"))))))
noncomputable def F_is_mark : Fn := mkFn 1 B_is_mark
noncomputable def B_is_integer : SSem := sRet (eAnd (eN (oIsiI "Reader") (aCons (eVar 0) (aCons (eC (.ty "int")) (aNil)))) (eNot (eN (oIsiI "Reader") (aCons (eVar 0) (aCons (eC (.ty "bool")) (aNil))))))
noncomputable def F_is_integer : Fn := mkFn 1 B_is_integer
noncomputable def B_is_between_cells : SSem := sRet (eAnd (eCall F_is_integer (aCons (eVar 0) (aNil))) (eChain oLe oLe (eVar 1) (eVar 0) (eVar 2)))
noncomputable def F_is_between_cells : Fn := mkFn 3 B_is_between_cells
noncomputable def B_is_row : SSem := sRet (eAnd (eN (oIsiI "Reader") (aCons (eVar 0) (aCons (eC (.ty "tuple")) (aNil)))) (eN oAll (aCons (eLc (iSeq (eVar 0)) (gNm 1) [1] (tTrue) (eCall F_is_between_cells (aCons (eVar 1) (aCons (eC (.int 0)) (aCons (eC (.int 1)) (aNil)))))) (aNil))))
noncomputable def F_is_row : Fn := mkFn 2 B_is_row
noncomputable def B_are_marks : SSem := sSeq (sIf (bNot (bOf (eN oIsi (aCons (eVar 0) (aCons (eC (.ty "dict")) (aNil)))))) (sRet (eC (.bl false))) (sNil)) (sSeq (sLockT 0 (sFor (iKeysT 0) (gNm 2) (sIf (bOr (bNot (bOf (eCall F_is_row (aCons (eVar 2) (aNil))))) (bOr (bOf (e2 oNe (eN oLen (aCons (eVar 2) (aNil))) (eVar 1))) (bNot (bOf (eCall F_is_mark (aCons (e2 oTGet (eVar 0) (eVar 2)) (aNil))))))) (sRet (eC (.bl false))) (sNil)))) (sRet (eC (.bl true))))
noncomputable def F_are_marks : Fn := mkFn 3 B_are_marks
noncomputable def B_is_between_readers : SSem := sRet (eAnd (eN oIsi (aCons (eVar 0) (aCons (eC (.ty "int")) (aNil)))) (eAnd (eNot (eN oIsi (aCons (eVar 0) (aCons (eC (.ty "bool")) (aNil))))) (eChain oLe oLe (eVar 1) (eVar 0) (eVar 2))))
noncomputable def F_is_between_readers : Fn := mkFn 3 B_is_between_readers
noncomputable def B_Reader___init__ : SSem := sSeq (sIf (bNot (bOf (eCall F_is_between_readers (aCons (eVar 1) (aCons (eC (.int 1)) (aCons (eC (.int 6)) (aNil))))))) (sRaise "BadReader" ["part"] (aCons (eC (.str "width")) (aNil))) (sNil)) (sSeq (sIf (bNot (bOf (eCall F_are_marks (aCons (eVar 2) (aCons (eVar 1) (aNil)))))) (sRaise "BadReader" ["part"] (aCons (eC (.str "marks")) (aNil))) (sNil)) (sSeq (sFldS ["Reader"] "width" (eVar 1) (eVar 0)) (sFldS ["Reader"] "known" (eDcT (iSeq (eN oSortT (aCons (eLockT 2 (eLc (iKeysT 2) (gNm 3) [3] (tTrue) (eVar 3))) (aNil)))) (gNm 3) [3] tTrue (eVar 3) (e2 oTGet (eVar 2) (eVar 3))) (eVar 0))))
noncomputable def F_Reader___init__ : Fn := mkFnI 4 B_Reader___init__
noncomputable def B_Reader_marks : SSem := sRet (eN oDictCT (aCons (eFld ["Reader"] "known" (eVar 0)) (aNil)))
noncomputable def F_Reader_marks : Fn := mkFnC 1 B_Reader_marks
noncomputable def B_law_alike (R : Fn) : SSem := sSeq (sIf (bOr (bOf (eN oIsi (aCons (eVar 1) (aCons (eC (.ty "list")) (aNil))))) (bOf (eN oIsi (aCons (eVar 1) (aCons (eC (.ty "tuple")) (aNil)))))) (sSeq (sIf (bOr (bOf (e2 oNe (eN oIsi (aCons (eVar 0) (aCons (eC (.ty "list")) (aNil)))) (eN oIsi (aCons (eVar 1) (aCons (eC (.ty "list")) (aNil)))))) (bOf (e2 oNe (eN oIsi (aCons (eVar 0) (aCons (eC (.ty "tuple")) (aNil)))) (eN oIsi (aCons (eVar 1) (aCons (eC (.ty "tuple")) (aNil))))))) (sRet (eC (.bl false))) (sNil)) (sSeq (sIf (bOf (e2 oNe (eN oLen (aCons (eVar 0) (aNil))) (eN oLen (aCons (eVar 1) (aNil))))) (sRet (eC (.bl false))) (sNil)) (sRet (e2 oEq (eN oLen (aCons (eLc (iRng rg1 (aCons (eN oLen (aCons (eVar 1) (aNil))) (aNil))) (gNm 2) [2] (bNot (bOf (eCall (R) (aCons (e2 oIx (eVar 0) (eVar 2)) (aCons (e2 oIx (eVar 1) (eVar 2)) (aNil)))))) (eVar 2)) (aNil))) (eC (.int 0)))))) (sNil)) (sSeq (sIf (bOr (bOf (e2 oNe (eN oIsi (aCons (eVar 0) (aCons (eC (.ty "bool")) (aNil)))) (eN oIsi (aCons (eVar 1) (aCons (eC (.ty "bool")) (aNil)))))) (bOf (e2 oNe (eN oIsi (aCons (eVar 0) (aCons (eC (.ty "int")) (aNil)))) (eN oIsi (aCons (eVar 1) (aCons (eC (.ty "int")) (aNil))))))) (sRet (eC (.bl false))) (sNil)) (sRet (e2 oEq (eVar 0) (eVar 1))))
noncomputable def F_law_alike : Nat → Fn
  | 0 => mkFn 3 (fun _ _ => .bad)
  | d + 1 => mkFn 3 (B_law_alike (F_law_alike d))
noncomputable def B_Reader_mark : SSem := sSeq (sIf (bOr (bNot (bOf (eCall F_is_row (aCons (eVar 1) (aNil))))) (bOf (e2 oNe (eN oLen (aCons (eVar 1) (aNil))) (eFld ["Reader"] "width" (eVar 0))))) (sRaise "BadRow" ["part"] (aCons (eC (.str "row")) (aNil))) (sNil)) (sRet (eTGet1 (eFld ["Reader"] "known" (eVar 0)) (eVar 1)))
noncomputable def F_Reader_mark : Fn := mkFn 2 B_Reader_mark
noncomputable def B_law_asked : SSem := sSeq (sTry exT (sAsg (eN oLst (aCons (eC (.str "")) (aCons (eMeth "Reader" "mark" F_Reader_mark (eVar 0) (aCons (eVar 1) (aNil))) (aNil)))) (gNm 2)) [⟨"LabelError", some 3, fun x => sSeq (sAsg (eN oLst (aCons (eC (.str "other")) (aCons (eC .non) (aNil)))) (gNm 2)) (sIf (bAnd (bOf (eIsX isT x "BadRow")) (bOf (eIsV isV x))) (sAsg (eN oLst (aCons (eC (.str "bad")) (aCons (eXf x "BadRow" "part") (aNil)))) (gNm 2)) (sNil))⟩]) (sRet (eVar 2))
noncomputable def F_law_asked : Fn := mkFn 4 B_law_asked
noncomputable def B_law_bag : SSem := sSeq (sAsg (e2 oIx (e2 oAdd (eSl (eVar 0) (pYes (eVar 1)) (pYes (e2 oAdd (eVar 1) (eC (.int 1))))) (eN oLst (aCons (eC (.int 0)) (aNil)))) (eC (.int 0))) (gNm 2)) (sSeq (sAsg (e2 oAdd (e2 oAdd (e2 oMod (eN oInt (aCons (eVar 2) (aNil))) (eC (.int 2147483549))) (e2 oMul (eC (.int 41)) (eVar 1))) (eC (.int 1))) (gNm 3)) (sSeq (sIf (bOf (e2 oGe (eVar 2) (e2 oPow (eC (.int 10)) (eC (.int 18))))) (sRet (eN oCell (aCons (eVar 2) (aCons (eVar 3) (aCons (eC (.int 0)) (aNil)))))) (sNil)) (sRet (eN oCell (aCons (eC (.int 0)) (aCons (eVar 3) (aCons (eC (.int 0)) (aNil))))))))
noncomputable def F_law_bag : Fn := mkFnC 4 B_law_bag
noncomputable def B_law_pick : SSem := sSeq (sIf (bOf (e2 oGt (e2 oIx (eVar 0) (eC (.int 0))) (eC (.int 0)))) (sSeq (sAsg (e2 oMod (eN oInt (aCons (e2 oIx (eVar 0) (eC (.int 0))) (aNil))) (eVar 1)) (gNm 3)) (sSeq (sSub uLst (e2 oDiv (e2 oIx (eVar 0) (eC (.int 0))) (eVar 1)) (eVar 0) (eC (.int 0))) (sRet (eVar 3)))) (sNil)) (sSeq (sSub uLst (e2 oAdd (e2 oIx (eVar 0) (eC (.int 2))) (eC (.int 1))) (eVar 0) (eC (.int 2))) (sSeq (sAsg (e2 oMod (eN oInt (aCons (e2 oMul (e2 oAdd (e2 oIx (eVar 0) (eC (.int 1))) (e2 oMul (eC (.int 32452843)) (e2 oIx (eVar 0) (eC (.int 2))))) (eC (.int 69621))) (aNil))) (eC (.int 2147483647))) (gNm 2)) (sSeq (sAsg (e2 oMod (eN oInt (aCons (e2 oMul (eVar 2) (e2 oAdd (e2 oDiv (eVar 2) (eC (.int 1021))) (eC (.int 48271)))) (aNil))) (eC (.int 2147483647))) (gNm 2)) (sSeq (sAsg (e2 oMod (eN oInt (aCons (e2 oMul (eVar 2) (e2 oAdd (e2 oDiv (eVar 2) (eC (.int 2027))) (eC (.int 40014)))) (aNil))) (eC (.int 2147483563))) (gNm 2)) (sRet (e2 oMod (eN oInt (aCons (e2 oDiv (eVar 2) (eC (.int 64))) (aNil))) (eVar 1)))))))
noncomputable def F_law_pick : Fn := mkFn 4 B_law_pick
noncomputable def B_law_rows : SSem := sSeq (sAsg (eN oLst (aCons (eN oTup (aNil)) (aNil))) (gNm 1)) (sSeq (sFor (iRng rg1 (aCons (eVar 0) (aNil))) (gNm 2) (sAsg (e2 oAdd (eLc (iSeq (eVar 1)) (gNm 3) [3] (tTrue) (e2 oAdd (eVar 3) (eN oTup (aCons (eC (.int 0)) (aNil))))) (eLc (iSeq (eVar 1)) (gNm 3) [3] (tTrue) (e2 oAdd (eVar 3) (eN oTup (aCons (eC (.int 1)) (aNil)))))) (gNm 1))) (sRet (eN oSortT (aCons (eVar 1) (aNil)))))
noncomputable def F_law_rows : Fn := mkFn 4 B_law_rows
noncomputable def B_law_drawn : SSem := sSeq (sAsg (e2 oAdd (eC (.int 1)) (eCall F_law_pick (aCons (eVar 0) (aCons (eC (.int 4)) (aNil))))) (gNm 1)) (sSeq (sAsg (eN oLst (aCons (eC (.str "a")) (aCons (eC (.str "z")) (aCons (eC (.str "0")) (aCons (eC (.str "9")) (aCons (eC (.str "start")) (aCons (eC (.str "stop")) (aNil)))))))) (gNm 2)) (sSeq (sAsg (eTDct0) (gNm 3)) (sSeq (sFor (iSeq (eRevL (eCall F_law_rows (aCons (eVar 1) (aNil))))) (gNm 4) (sIf (bOf (e2 oGt (eCall F_law_pick (aCons (eVar 0) (aCons (eC (.int 3)) (aNil)))) (eC (.int 0)))) (sSub uDctT (e2 oIx (eVar 2) (eCall F_law_pick (aCons (eVar 0) (aCons (eC (.int 6)) (aNil))))) (eVar 3) (eVar 4)) (sNil))) (sRet (eN oLst (aCons (eVar 1) (aCons (eVar 3) (aNil))))))))
noncomputable def F_law_drawn : Fn := mkFnA 5 B_law_drawn
noncomputable def B_law : SSem := sSeq (sAsg (eCall F_law_bag (aCons (eVar 0) (aCons (eC (.int 0)) (aNil)))) (gNm 1)) (sSeq (sAsg (eCall F_law_drawn (aCons (eVar 1) (aNil))) (gTl 2 (gsCons (gNm 2) (gsCons (gNm 3) (gsNil))))) (sSeq (sAsg (eN oDictCT (aCons (eVar 3) (aNil))) (gNm 4)) (sSeq (sAsg (eMake "Reader" F_Reader___init__ (aCons (eVar 2) (aCons (eVar 4) (aNil)))) (gNm 5)) (sSeq (sExp (eM0 isDctTL mClearT (eVar 4))) (sSeq (sFor (iRng rg1 (aCons (eC (.int 2)) (aNil))) (gNm 6) (sSeq (sAsg (eProp "Reader" "marks" F_Reader_marks (eVar 5)) (gNm 12)) (sSeq (sIf (bOr (bNot (bOf (eN oIsi (aCons (eVar 12) (aCons (eC (.ty "dict")) (aNil)))))) (bOr (bOf (e2 oNe (eN oListDT (aCons (eVar 12) (aNil))) (eN oSortDT (aCons (eVar 3) (aNil))))) (bOr (bOf (e2 oNeT (eVar 12) (eVar 3))) (bOf (e2 oNe (eFld ["Reader"] "width" (eVar 5)) (eVar 2)))))) (sRet (eC (.bl false))) (sNil)) (sExp (eM0 isDctTL mClearT (eVar 12)))))) (sSeq (sFor (iSeq (eCall F_law_rows (aCons (eVar 2) (aNil)))) (gNm 7) (sIf (bNot (bOf (eCall (F_law_alike 4) (aCons (eCall F_law_asked (aCons (eVar 5) (aCons (eVar 7) (aNil)))) (aCons (eN oLst (aCons (eC (.str "")) (aCons (eTGet1 (eVar 3) (eVar 7)) (aNil)))) (aNil)))))) (sRet (eC (.bl false))) (sNil))) (sSeq (sAsg (e2 oMulX (eN oTup (aCons (eC (.int 0)) (aNil))) (eVar 2)) (gNm 7)) (sSeq (sAsg (eN oLst (aNil)) (gNm 8)) (sSeq (sFor (iRng rg1 (aCons (eC (.int 27)) (aNil))) (gNm 6) (sAsg (eN oLst (aCons (eVar 8) (aNil))) (gNm 8))) (sSeq (sAsg (eN oLst (aCons (eC .non) (aCons (e2 oMulL (eN oLst (aCons (eC (.int 0)) (aNil))) (eVar 2)) (aCons (e2 oAdd (eVar 7) (eN oTup (aCons (eC (.int 0)) (aNil)))) (aCons (eSl (eVar 7) (pYes (eC (.int 1))) (pNo)) (aCons (e2 oAdd (eSl (eVar 7) (pYes (eC (.int 1))) (pNo)) (eN oTup (aCons (eC (.int 2)) (aNil)))) (aCons (e2 oAdd (eSl (eVar 7) (pYes (eC (.int 1))) (pNo)) (eN oTup (aCons (eC (.bl true)) (aNil)))) (aCons (e2 oMulS (eC (.str "0")) (eVar 2)) (aCons (eC (.int 0)) (aCons (eN oTup (aCons (eVar 7) (aNil))) (aCons (eC (.dct [] [])) (aNil)))))))))))) (gNm 9)) (sSeq (sAsg (e2 oAdd (eVar 9) (eN oLst (aCons (e2 oMulX (eN oTup (aCons (eN oLst (aCons (eC (.int 0)) (aNil))) (aNil))) (eVar 2)) (aCons (e2 oAdd (eN oTup (aCons (eN oTup (aNil)) (aCons (eN oLst (aCons (eN oLst (aNil)) (aNil))) (aNil)))) (eVar 7)) (aCons (e2 oMulX (eN oTup (aCons (eVar 8) (aNil))) (eVar 2)) (aCons (eVar 8) (aCons (eVar 5) (aCons (e2 oAdd (eSl (eVar 7) (pYes (eC (.int 1))) (pNo)) (eN oTup (aCons (eN oLst (aNil)) (aNil)))) (aCons (e2 oAdd (eSl (eVar 7) (pYes (eC (.int 1))) (pNo)) (eN oTup (aCons (eC (.dct [] [])) (aNil)))) (aNil)))))))))) (gNm 9)) (sSeq (sIf (bOf (e2 oNe (eCall F_law_asked (aCons (eVar 5) (aCons (e2 oIx (eVar 9) (eCall F_law_pick (aCons (eVar 1) (aCons (eC (.int 17)) (aNil))))) (aNil)))) (eN oLst (aCons (eC (.str "bad")) (aCons (eC (.str "row")) (aNil)))))) (sRet (eC (.bl false))) (sNil)) (sSeq (sAsg (eCall F_law_drawn (aCons (eCall F_law_bag (aCons (eVar 0) (aCons (eC (.int 1)) (aNil)))) (aNil))) (gNm 10)) (sSeq (sIf (bOf (e2 oNe (e2 (oEqO "Reader" F_Reader___eq__) (eVar 5) (eMake "Reader" F_Reader___init__ (aCons (e2 oIx (eVar 10) (eC (.int 0))) (aCons (e2 oIx (eVar 10) (eC (.int 1))) (aNil))))) (e2 oEqLj (eVar 10) (eN oLst (aCons (eVar 2) (aCons (eVar 3) (aNil))))))) (sRet (eC (.bl false))) (sNil)) (sSeq (sAsg (eN oDictCT (aCons (eVar 3) (aNil))) (gNm 11)) (sSeq (sIf (bOf (e2 oGt (eN oTLen (aCons (eVar 11) (aNil))) (eC (.int 0)))) (sExp (eDPopT (eVar 11) (e2 oIx (eN oSortDT (aCons (eVar 11) (aNil))) (eCall F_law_pick (aCons (eVar 1) (aCons (eN oTLen (aCons (eVar 11) (aNil))) (aNil))))))) (sNil)) (sRet (eAnd (e2 (oEqO "Reader" F_Reader___eq__) (eVar 5) (eMake "Reader" F_Reader___init__ (aCons (eVar 2) (aCons (eN oDictCT (aCons (eVar 3) (aNil))) (aNil))))) (e2 oEq (e2 (oEqO "Reader" F_Reader___eq__) (eVar 5) (eMake "Reader" F_Reader___init__ (aCons (eVar 2) (aCons (eVar 11) (aNil))))) (e2 oEq (eN oTLen (aCons (eVar 3) (aNil))) (eC (.int 0))))))))))))))))))))))
noncomputable def F_law : Fn := mkFn 13 B_law
structure Txt (P : Program) (w : World) (K : PySem.W.Frag) (mg : Str → Option Value) (base : Heap) (C_BadReader : Addr) (C_LabelError : Addr) (C_BadRow : Addr) (C_Reader : Addr) : Prop where
  n_ValueError : mg "ValueError" = none
  n_all : mg "all" = none
  n_bool : mg "bool" = none
  n_dict : mg "dict" = none
  n_int : mg "int" = none
  n_isinstance : mg "isinstance" = none
  n_len : mg "len" = none
  n_list : mg "list" = none
  n_range : mg "range" = none
  n_sorted : mg "sorted" = none
  n_str : mg "str" = none
  n_tuple : mg "tuple" = none
  c_SIGNS : ∃ t, mg "SIGNS" = some (.str "0123456789abcdefghijklmnopqrstuvwxyz" t)
  c_WIDEST : ∃ t, mg "WIDEST" = some (.int 6 t)
  g_BadReader : mg "BadReader" = some (.ref C_BadReader)
  g_LabelError : mg "LabelError" = some (.ref C_LabelError)
  g_BadRow : mg "BadRow" = some (.ref C_BadRow)
  g_Reader : mg "Reader" = some (.ref C_Reader)
  k_Reader : ClsC K C_Reader
  nt_Reader : NoTy K C_Reader
  nf_Reader_known : PySem.W.findIn K (.ref C_Reader) "known" = some none
  nf_Reader_width : PySem.W.findIn K (.ref C_Reader) "width" = some none
  E_BadReader : Exc1 P w K mg base "BadReader" "part"
  E_BadRow : Exc1 P w K mg base "BadRow" "part"
  xf_BadReader : XfC K C_BadReader
  xn_BadReader_part : PySem.W.findIn K (.ref C_BadReader) "part" = some none
  xf_BadRow : XfC K C_BadRow
  xn_BadRow_part : PySem.W.findIn K (.ref C_BadRow) "part" = some none
  ext : ExTOk K mg exT
  ixt : IxOk K mg isT
  ivt : IvOk K mg "ValueError" isV
section
variable {P : Program} {w : World} {K : PySem.W.Frag} {mg : Str → Option Value} {base : Heap} {C_BadReader C_LabelError C_BadRow C_Reader : Addr}
theorem sc_Reader___eq__ : FnScope ["self", "other"] ["self", "other"] (defScope s_Reader___eq__) := ⟨rfl, rfl, rfl, by decide +kernel, rfl, by decide +kernel, by decide +kernel⟩
theorem hb_Reader___eq__ (T : Txt P w K mg base C_BadReader C_LabelError C_BadRow C_Reader) {qual : Str} {f : Addr} {cdv : Value} {A : Around} {outer : List Env} {s : Shared} {H : Hp} {E : XK} (C : Ctx (cxOf (L2.CX P w) P w K mg base ["self", "other"] qual (defScope s_Reader___eq__) f cdv A outer s H E) (Wish.of fun c d _ H => E c d H) 0) :
    BV (cxOf (L2.CX P w) P w K mg base ["self", "other"] qual (defScope s_Reader___eq__) f cdv A outer s H E) (Wish.of fun c d _ H => E c d H) (defBody s_Reader___eq__) B_Reader___eq__ :=
  bv_one (sv_ret (ev_and (ev_callB call_isi (os_isC T.g_Reader T.k_Reader) T.n_isinstance (av_cons (ev_var (i := 1)) (av_cons (ev_cls T.g_Reader) (av_nil)))) (ev_and (ev_cmp (op_eqD C.room.units) os_eq (ev_fld (fldCons T.g_Reader T.k_Reader.cl T.nf_Reader_width fldNil) (ev_var (i := 0))) (ev_fld (fldCons T.g_Reader T.k_Reader.cl T.nf_Reader_width fldNil) (ev_var (i := 1))) (nomark _)) (ev_one (ev_cmp (op_eqT (Room.u70 C.room)) os_eqT (ev_fld (fldCons T.g_Reader T.k_Reader.cl T.nf_Reader_known fldNil) (ev_var (i := 0))) (ev_fld (fldCons T.g_Reader T.k_Reader.cl T.nf_Reader_known fldNil) (ev_var (i := 1))) (nomark _))))))
theorem EQ_Reader (T : Txt P w K mg base C_BadReader C_LabelError C_BadRow C_Reader) {f : Addr} {fd : FuncData} (F : Fun K "__eq__" "Reader.__eq__" s_Reader___eq__ f fd) (he : PySem.W.findIn K (.ref C_Reader) "__eq__" = some (some (.ref f))) (hf : PySem.W.isFn K (.ref f) = true) (hB : Binds K fd ["self", "other"] []) : EqIs P w K mg base "Reader" 1 F_Reader___eq__ := ⟨C_Reader, f, fd, _, T.g_Reader, fn_okG lv_leave F sc_Reader___eq__ rfl rfl fun _ _ _ _ _ _ C => hb_Reader___eq__ T C, he, hf, hB⟩
theorem sc_is_mark : FnScope ["value"] ["value"] (defScope s_is_mark) := ⟨rfl, rfl, rfl, by decide +kernel, rfl, by decide +kernel, by decide +kernel⟩
theorem hb_is_mark (T : Txt P w K mg base C_BadReader C_LabelError C_BadRow C_Reader) {qual : Str} {f : Addr} {cdv : Value} {A : Around} {outer : List Env} {s : Shared} {H : Hp} {E : XK} (C : Ctx (cxOf (L2.CX P w) P w K mg base ["value"] qual (defScope s_is_mark) f cdv A outer s H E) (Wish.of fun c d _ H => E c d H) 0) :
    BV (cxOf (L2.CX P w) P w K mg base ["value"] qual (defScope s_is_mark) f cdv A outer s H E) (Wish.of fun c d _ H => E c d H) (defBody s_is_mark) B_is_mark :=
  bv_cons (sv_if (tv_not (tv_val (ev_callB cr_isi os_isi T.n_isinstance (av_cons (ev_var (i := 0)) (av_cons (ev_ty T.n_str) (av_nil)))))) (bv_one (sv_ret (ev_bl))) (bv_nil)) (bv_one (sv_ret (ev_or (ev_cmp (or_in (rm65 C.room)) os_in (ev_var (i := 0)) (ev_tup (av_cons (ev_str) (av_cons (ev_str) (av_nil)))) (by rfl)) (ev_one (ev_and (ev_cmp (op_eqD C.room.units) os_eq (ev_callB cr_len os_len T.n_len (av_cons (ev_var (i := 0)) (av_nil))) (ev_int) (nomark _)) (ev_one (ev_cmp (or_in (rm65 C.room)) os_in (ev_var (i := 0)) (ev_gS T.c_SIGNS) (by rfl))))))))
theorem I_is_mark (T : Txt P w K mg base C_BadReader C_LabelError C_BadRow C_Reader) {qual : Str} {f : Addr} {fd : FuncData} (F : Fun K "is_mark" qual s_is_mark f fd) (hx : mg "is_mark" = some (.ref f)) (hB : Binds K fd ["value"] []) : FnIs P w K mg base "is_mark" 1 1 F_is_mark := fn_is lv_leave F hx hB sc_is_mark fun _ _ _ _ _ _ C => hb_is_mark T C
theorem sc_is_integer : FnScope ["value"] ["value"] (defScope s_is_integer) := ⟨rfl, rfl, rfl, by decide +kernel, rfl, by decide +kernel, by decide +kernel⟩
theorem hb_is_integer (T : Txt P w K mg base C_BadReader C_LabelError C_BadRow C_Reader) {qual : Str} {f : Addr} {cdv : Value} {A : Around} {outer : List Env} {s : Shared} {H : Hp} {E : XK} (C : Ctx (cxOf (L2.CX P w) P w K mg base ["value"] qual (defScope s_is_integer) f cdv A outer s H E) (Wish.of fun c d _ H => E c d H) 0) :
    BV (cxOf (L2.CX P w) P w K mg base ["value"] qual (defScope s_is_integer) f cdv A outer s H E) (Wish.of fun c d _ H => E c d H) (defBody s_is_integer) B_is_integer :=
  bv_one (sv_ret (ev_and (ev_callB cr_isi (os_isiI T.g_Reader T.k_Reader T.nt_Reader) T.n_isinstance (av_cons (ev_var (i := 0)) (av_cons (ev_ty T.n_int) (av_nil)))) (ev_one (ev_not (ev_callB cr_isi (os_isiI T.g_Reader T.k_Reader T.nt_Reader) T.n_isinstance (av_cons (ev_var (i := 0)) (av_cons (ev_ty T.n_bool) (av_nil))))))))
theorem I_is_integer (T : Txt P w K mg base C_BadReader C_LabelError C_BadRow C_Reader) {qual : Str} {f : Addr} {fd : FuncData} (F : Fun K "is_integer" qual s_is_integer f fd) (hx : mg "is_integer" = some (.ref f)) (hB : Binds K fd ["value"] []) : FnIs P w K mg base "is_integer" 1 1 F_is_integer := fn_is lv_leave F hx hB sc_is_integer fun _ _ _ _ _ _ C => hb_is_integer T C
theorem sc_is_between_cells : FnScope ["value", "low", "high"] ["value", "low", "high"] (defScope s_is_between_cells) := ⟨rfl, rfl, rfl, by decide +kernel, rfl, by decide +kernel, by decide +kernel⟩
theorem hb_is_between_cells (T : Txt P w K mg base C_BadReader C_LabelError C_BadRow C_Reader) (I_is_integer : FnIs P w K mg base "is_integer" 1 1 F_is_integer) {qual : Str} {f : Addr} {cdv : Value} {A : Around} {outer : List Env} {s : Shared} {H : Hp} {E : XK} (C : Ctx (cxOf (L2.CX P w) P w K mg base ["value", "low", "high"] qual (defScope s_is_between_cells) f cdv A outer s H E) (Wish.of fun c d _ H => E c d H) 1) :
    BV (cxOf (L2.CX P w) P w K mg base ["value", "low", "high"] qual (defScope s_is_between_cells) f cdv A outer s H E) (Wish.of fun c d _ H => E c d H) (defBody s_is_between_cells) B_is_between_cells :=
  bv_one (sv_ret (ev_and (ev_callI I_is_integer C (by decide) (av_cons (ev_var (i := 0)) (av_nil)) (arN_cons (arN_nil))) (ev_one (ev_chain op_le op_le os_le os_le (ev_var (i := 1)) (ev_var (i := 0)) (ev_var (i := 2))))))
theorem I_is_between_cells (T : Txt P w K mg base C_BadReader C_LabelError C_BadRow C_Reader) (I_is_integer : FnIs P w K mg base "is_integer" 1 1 F_is_integer) {qual : Str} {f : Addr} {fd : FuncData} (F : Fun K "is_between" qual s_is_between_cells f fd) (hx : mg "is_between_cells" = some (.ref f)) (hB : Binds K fd ["value", "low", "high"] []) : FnIs P w K mg base "is_between_cells" 2 3 F_is_between_cells := fn_isA lv_leave F hx hB sc_is_between_cells fun _ _ _ _ _ _ C => hb_is_between_cells T I_is_integer C
theorem sc_is_row : FnScope ["thing", "cell"] ["thing"] (defScope s_is_row) := ⟨rfl, rfl, rfl, by decide +kernel, rfl, by decide +kernel, by decide +kernel⟩
theorem hb_is_row (T : Txt P w K mg base C_BadReader C_LabelError C_BadRow C_Reader) (I_is_between_cells : FnIs P w K mg base "is_between_cells" 2 3 F_is_between_cells) {qual : Str} {f : Addr} {cdv : Value} {A : Around} {outer : List Env} {s : Shared} {H : Hp} {E : XK} (C : Ctx (cxOf (L2.CX P w) P w K mg base ["thing", "cell"] qual (defScope s_is_row) f cdv A outer s H E) (Wish.of fun c d _ H => E c d H) 2) :
    BV (cxOf (L2.CX P w) P w K mg base ["thing", "cell"] qual (defScope s_is_row) f cdv A outer s H E) (Wish.of fun c d _ H => E c d H) (defBody s_is_row) B_is_row :=
  bv_one (sv_ret (ev_and (ev_callB cr_isi (os_isiI T.g_Reader T.k_Reader T.nt_Reader) T.n_isinstance (av_cons (ev_var (i := 0)) (av_cons (ev_ty T.n_tuple) (av_nil)))) (ev_one (ev_callB (cr_all C.calm) os_all T.n_all (av_cons (ev_lcG fin_lst (own := [("cell", 1)]) C.calm C.nd (iv_seq (ev_var (i := 0))) (by show blkC ["thing", "cell"] (defScope s_is_row) _ _ = true; decide +kernel) (by decide) (fun _ h => nomatch h) (fun _ _ _ _ _ => gv_nm (i := 1) C.nd) (fun _ _ _ _ _ => tv_ifs0) (fun s H C1 cl fp => ev_blk C (fun C => ev_callI I_is_between_cells C (by decide) (av_cons (ev_var (i := 1)) (av_cons (ev_int) (av_cons (ev_int) (av_nil)))) (arN_cons (arN_cons (arN_cons (arN_nil))))))) (av_nil))))))
theorem I_is_row (T : Txt P w K mg base C_BadReader C_LabelError C_BadRow C_Reader) (I_is_between_cells : FnIs P w K mg base "is_between_cells" 2 3 F_is_between_cells) {qual : Str} {f : Addr} {fd : FuncData} (F : Fun K "is_row" qual s_is_row f fd) (hx : mg "is_row" = some (.ref f)) (hB : Binds K fd ["thing"] []) : FnIs P w K mg base "is_row" 3 1 F_is_row := fn_is lv_leave F hx hB sc_is_row fun _ _ _ _ _ _ C => hb_is_row T I_is_between_cells C
theorem sc_are_marks : FnScope ["value", "width", "row"] ["value", "width"] (defScope s_are_marks) := ⟨rfl, rfl, rfl, by decide +kernel, rfl, by decide +kernel, by decide +kernel⟩
theorem hb_are_marks (T : Txt P w K mg base C_BadReader C_LabelError C_BadRow C_Reader) (I_is_mark : FnIs P w K mg base "is_mark" 1 1 F_is_mark) (I_is_row : FnIs P w K mg base "is_row" 3 1 F_is_row) {qual : Str} {f : Addr} {cdv : Value} {A : Around} {outer : List Env} {s : Shared} {H : Hp} {E : XK} (C : Ctx (cxOf (L2.CX P w) P w K mg base ["value", "width", "row"] qual (defScope s_are_marks) f cdv A outer s H E) (Wish.of fun c d _ H => E c d H) 3) :
    BV (cxOf (L2.CX P w) P w K mg base ["value", "width", "row"] qual (defScope s_are_marks) f cdv A outer s H E) (Wish.of fun c d _ H => E c d H) (defBody s_are_marks) B_are_marks :=
  bv_cons (sv_if (tv_not (tv_val (ev_callB cr_isi os_isi T.n_isinstance (av_cons (ev_var (i := 0)) (av_cons (ev_ty T.n_dict) (av_nil)))))) (bv_one (sv_ret (ev_bl))) (bv_nil)) (bv_cons (sv_lockT (sv_for C (iv_keysT (ev_var (i := 0))) (gv_nm (i := 2) C.nd) (bv_one (sv_if (tv_w (wv_or (tv_not (tv_val (ev_callI I_is_row C (by decide) (av_cons (ev_var (i := 2)) (av_nil)) (arN_cons (arN_nil))))) (wv_or (tv_cmp (op_neD C.room.units) os_ne (ev_callB cr_len os_len T.n_len (av_cons (ev_var (i := 2)) (av_nil))) (ev_var (i := 1)) (nomark _)) (wv_or1 (tv_not (tv_val (ev_callI I_is_mark C (by decide) (av_cons (ev_tget C (ev_var (i := 0)) (ev_var (i := 2))) (av_nil)) (arN_cons (arN_nil))))))))) (bv_one (sv_ret (ev_bl))) (bv_nil))))) (bv_one (sv_ret (ev_bl))))
theorem I_are_marks (T : Txt P w K mg base C_BadReader C_LabelError C_BadRow C_Reader) (I_is_mark : FnIs P w K mg base "is_mark" 1 1 F_is_mark) (I_is_row : FnIs P w K mg base "is_row" 3 1 F_is_row) {qual : Str} {f : Addr} {fd : FuncData} (F : Fun K "are_marks" qual s_are_marks f fd) (hx : mg "are_marks" = some (.ref f)) (hB : Binds K fd ["value", "width"] []) : FnIs P w K mg base "are_marks" 4 2 F_are_marks := fn_is lv_leave F hx hB sc_are_marks fun _ _ _ _ _ _ C => hb_are_marks T I_is_mark I_is_row C
theorem sc_is_between_readers : FnScope ["value", "low", "high"] ["value", "low", "high"] (defScope s_is_between_readers) := ⟨rfl, rfl, rfl, by decide +kernel, rfl, by decide +kernel, by decide +kernel⟩
theorem hb_is_between_readers (T : Txt P w K mg base C_BadReader C_LabelError C_BadRow C_Reader) {qual : Str} {f : Addr} {cdv : Value} {A : Around} {outer : List Env} {s : Shared} {H : Hp} {E : XK} (C : Ctx (cxOf (L2.CX P w) P w K mg base ["value", "low", "high"] qual (defScope s_is_between_readers) f cdv A outer s H E) (Wish.of fun c d _ H => E c d H) 0) :
    BV (cxOf (L2.CX P w) P w K mg base ["value", "low", "high"] qual (defScope s_is_between_readers) f cdv A outer s H E) (Wish.of fun c d _ H => E c d H) (defBody s_is_between_readers) B_is_between_readers :=
  bv_one (sv_ret (ev_and (ev_callB cr_isi os_isi T.n_isinstance (av_cons (ev_var (i := 0)) (av_cons (ev_ty T.n_int) (av_nil)))) (ev_and (ev_not (ev_callB cr_isi os_isi T.n_isinstance (av_cons (ev_var (i := 0)) (av_cons (ev_ty T.n_bool) (av_nil))))) (ev_one (ev_chain op_le op_le os_le os_le (ev_var (i := 1)) (ev_var (i := 0)) (ev_var (i := 2)))))))
theorem I_is_between_readers (T : Txt P w K mg base C_BadReader C_LabelError C_BadRow C_Reader) {qual : Str} {f : Addr} {fd : FuncData} (F : Fun K "is_between" qual s_is_between_readers f fd) (hx : mg "is_between_readers" = some (.ref f)) (hB : Binds K fd ["value", "low", "high"] []) : FnIs P w K mg base "is_between_readers" 1 3 F_is_between_readers := fn_isA lv_leave F hx hB sc_is_between_readers fun _ _ _ _ _ _ C => hb_is_between_readers T C
theorem sc_Reader___init__ : FnScope ["self", "width", "marks", "row"] ["self", "width", "marks"] (defScope s_Reader___init__) := ⟨rfl, rfl, rfl, by decide +kernel, rfl, by decide +kernel, by decide +kernel⟩
theorem hb_Reader___init__ (T : Txt P w K mg base C_BadReader C_LabelError C_BadRow C_Reader) (I_are_marks : FnIs P w K mg base "are_marks" 4 2 F_are_marks) (I_is_between_readers : FnIs P w K mg base "is_between_readers" 1 3 F_is_between_readers) {qual : Str} {f : Addr} {cdv : Value} {A : Around} {outer : List Env} {s : Shared} {H : Hp} {E : XK} (C : Ctx (cxOf (L2.CX P w) P w K mg base ["self", "width", "marks", "row"] qual (defScope s_Reader___init__) f cdv A outer s H E) (Wish.of fun c d _ H => E c d H) 4) :
    BV (cxOf (L2.CX P w) P w K mg base ["self", "width", "marks", "row"] qual (defScope s_Reader___init__) f cdv A outer s H E) (Wish.of fun c d _ H => E c d H) (defBody s_Reader___init__) B_Reader___init__ :=
  bv_cons (sv_if (tv_not (tv_val (ev_callI I_is_between_readers C (by decide) (av_cons (ev_var (i := 1)) (av_cons (ev_int) (av_cons (ev_gI T.c_WIDEST) (av_nil)))) (arN_cons (arN_cons (arN_cons (arN_nil))))))) (bv_one (sv_raise1 C (by decide) T.E_BadReader (av_cons (ev_str) (av_nil)))) (bv_nil)) (bv_cons (sv_if (tv_not (tv_val (ev_callI I_are_marks C (by decide) (av_cons (ev_var (i := 2)) (av_cons (ev_var (i := 1)) (av_nil))) (arN_cons (arN_cons (arN_nil)))))) (bv_one (sv_raise1 C (by decide) T.E_BadReader (av_cons (ev_str) (av_nil)))) (bv_nil)) (bv_cons (sv_fld (fldCons T.g_Reader T.k_Reader.cl T.nf_Reader_width fldNil) (ev_var (i := 1)) (ev_var (i := 0))) (bv_one (sv_fld (fldCons T.g_Reader T.k_Reader.cl T.nf_Reader_known fldNil) (ev_dcT (own := [("row", 3)]) C (iv_seq (ev_callB cr_sortAny os_sortT T.n_sorted (av_cons (ev_lockT (ev_lcG fin_lst (own := [("row", 3)]) C.calm C.nd (iv_keysT (ev_var (i := 2))) (by show blkC ["self", "width", "marks", "row"] (defScope s_Reader___init__) _ _ = true; decide +kernel) (by decide) (fun _ h => nomatch h) (fun _ _ _ _ _ => gv_nm (i := 3) C.nd) (fun _ _ _ _ _ => tv_ifs0) (fun s H C1 cl fp => ev_blk C (fun C => ev_var (i := 3))))) (av_nil)))) (by show blkC ["self", "width", "marks", "row"] (defScope s_Reader___init__) _ _ = true; decide +kernel) (by decide) (fun _ h => nomatch h) (fun _ _ _ _ _ => gv_nm (i := 3) C.nd) (fun _ _ _ _ _ => tv_ifs0) (fun s H C1 cl fp => ev_blk C (fun C => ev_var (i := 3))) (fun s H C1 cl fp => ev_blk C (fun C => ev_tget C (ev_var (i := 2)) (ev_var (i := 3))))) (ev_var (i := 0))))))
theorem MK_Reader (T : Txt P w K mg base C_BadReader C_LabelError C_BadRow C_Reader) (I_are_marks : FnIs P w K mg base "are_marks" 4 2 F_are_marks) (I_is_between_readers : FnIs P w K mg base "is_between_readers" 1 3 F_is_between_readers) {f : Addr} {fd : FuncData} (F : Fun K "__init__" "Reader.__init__" s_Reader___init__ f fd) (M : Mk K C_Reader f) (hB : Binds K fd ["self", "width", "marks"] []) : MkIs P w K mg base "Reader" 5 2 F_Reader___init__ := ⟨C_Reader, f, fd, _, M, fn_okI F sc_Reader___init__ rfl rfl fun _ _ _ _ _ _ C => hb_Reader___init__ T I_are_marks I_is_between_readers C, T.g_Reader, hB⟩
theorem sc_Reader_marks : FnScope ["self"] ["self"] (defScope s_Reader_marks) := ⟨rfl, rfl, rfl, by decide +kernel, rfl, by decide +kernel, by decide +kernel⟩
theorem hb_Reader_marks (T : Txt P w K mg base C_BadReader C_LabelError C_BadRow C_Reader) {qual : Str} {f : Addr} {cdv : Value} {A : Around} {outer : List Env} {s : Shared} {H : Hp} {E : XK} (C : Ctx (cxOf (L2.CX P w) P w K mg base ["self"] qual (defScope s_Reader_marks) f cdv A outer s H E) (Wish.of fun c d _ H => E c d H) 0) :
    BV (cxOf (L2.CX P w) P w K mg base ["self"] qual (defScope s_Reader_marks) f cdv A outer s H E) (Wish.of fun c d _ H => E c d H) (defBody s_Reader_marks) B_Reader_marks :=
  bv_one (sv_ret (ev_callTy (SLf.call_dictT (by have := C.room.un; omega)) os_dictCT T.n_dict (av_cons (ev_fld (fldCons T.g_Reader T.k_Reader.cl T.nf_Reader_known fldNil) (ev_var (i := 0))) (av_nil))))
theorem PR_Reader_marks (T : Txt P w K mg base C_BadReader C_LabelError C_BadRow C_Reader) {f : Addr} {fd : FuncData} (F : Fun K "marks" "Reader.marks" s_Reader_marks f fd) {pr : Addr} {rs : List Value} (h1 : PySem.W.findIn K (.ref C_Reader) "marks" = some (some (.ref pr))) (h2 : PySem.W.specialIn K (.ref pr) "__get__" = some (some (.builtin "property.__get__"))) (h3 : PySem.W.takesIn K (.ref pr) = some true) (h4 : PySem.W.recIn K pr "property" = some (.ref f :: rs)) (hB : Binds K fd ["self"] []) : PropIs P w K mg base "Reader" "marks" 1 F_Reader_marks := prop_is T.g_Reader T.k_Reader.cl h1 h2 h3 h4 (fn_okG lv_leaveC F sc_Reader_marks rfl rfl fun _ _ _ _ _ _ C => hb_Reader_marks T C) hB
theorem sc_law_alike : FnScope ["_law_told", "_law_due", "_law_k"] ["_law_told", "_law_due"] (defScope s_law_alike) := ⟨rfl, rfl, rfl, by decide +kernel, rfl, by decide +kernel, by decide +kernel⟩
theorem hb_law_alike (T : Txt P w K mg base C_BadReader C_LabelError C_BadRow C_Reader) {R : Fn} {kr : Nat} (I_law_alike : FnIs P w K mg base "_law_alike" kr 2 R) {qual : Str} {f : Addr} {cdv : Value} {A : Around} {outer : List Env} {s : Shared} {H : Hp} {E : XK} (C : Ctx (cxOf (L2.CX P w) P w K mg base ["_law_told", "_law_due", "_law_k"] qual (defScope s_law_alike) f cdv A outer s H E) (Wish.of fun c d _ H => E c d H) kr) :
    BV (cxOf (L2.CX P w) P w K mg base ["_law_told", "_law_due", "_law_k"] qual (defScope s_law_alike) f cdv A outer s H E) (Wish.of fun c d _ H => E c d H) (defBody s_law_alike) (B_law_alike R) :=
  bv_cons (sv_if (tv_w (wv_or (tv_val (ev_callB cr_isi os_isi T.n_isinstance (av_cons (ev_var (i := 1)) (av_cons (ev_ty T.n_list) (av_nil))))) (wv_or1 (tv_val (ev_callB cr_isi os_isi T.n_isinstance (av_cons (ev_var (i := 1)) (av_cons (ev_ty T.n_tuple) (av_nil)))))))) (bv_cons (sv_if (tv_w (wv_or (tv_cmp (op_neD C.room.units) os_ne (ev_callB cr_isi os_isi T.n_isinstance (av_cons (ev_var (i := 0)) (av_cons (ev_ty T.n_list) (av_nil)))) (ev_callB cr_isi os_isi T.n_isinstance (av_cons (ev_var (i := 1)) (av_cons (ev_ty T.n_list) (av_nil)))) (nomark _)) (wv_or1 (tv_cmp (op_neD C.room.units) os_ne (ev_callB cr_isi os_isi T.n_isinstance (av_cons (ev_var (i := 0)) (av_cons (ev_ty T.n_tuple) (av_nil)))) (ev_callB cr_isi os_isi T.n_isinstance (av_cons (ev_var (i := 1)) (av_cons (ev_ty T.n_tuple) (av_nil)))) (nomark _))))) (bv_one (sv_ret (ev_bl))) (bv_nil)) (bv_cons (sv_if (tv_cmp (op_neD C.room.units) os_ne (ev_callB cr_len os_len T.n_len (av_cons (ev_var (i := 0)) (av_nil))) (ev_callB cr_len os_len T.n_len (av_cons (ev_var (i := 1)) (av_nil))) (nomark _)) (bv_one (sv_ret (ev_bl))) (bv_nil)) (bv_one (sv_ret (ev_cmp (op_eqD C.room.units) os_eq (ev_callB cr_len os_len T.n_len (av_cons (ev_lcG fin_lst (own := [("_law_k", 2)]) C.calm C.nd (iv_rng1 T.n_range (av_cons (ev_callB cr_len os_len T.n_len (av_cons (ev_var (i := 1)) (av_nil))) (av_nil))) (by show blkC ["_law_told", "_law_due", "_law_k"] (defScope s_law_alike) _ _ = true; decide +kernel) (by decide) (fun _ h => nomatch h) (fun _ _ _ _ _ => gv_nm (i := 2) C.nd) (fun _ _ _ _ _ => pt_blk C (fun C => tv_ifs1 (tv_not (tv_val (ev_callI I_law_alike C (Nat.le_refl _) (av_cons (ev_ix ix_seq os_ix (ev_var (i := 0)) (ev_var (i := 2)) (fun _ _ => rfl)) (av_cons (ev_ix ix_seq os_ix (ev_var (i := 1)) (ev_var (i := 2)) (fun _ _ => rfl)) (av_nil))) (arN_cons (arN_cons (arN_nil)))))))) (fun s H C1 cl fp => ev_blk C (fun C => ev_var (i := 2)))) (av_nil))) (ev_int) (nomark _)))))) (bv_nil)) (bv_cons (sv_if (tv_w (wv_or (tv_cmp (op_neD C.room.units) os_ne (ev_callB cr_isi os_isi T.n_isinstance (av_cons (ev_var (i := 0)) (av_cons (ev_ty T.n_bool) (av_nil)))) (ev_callB cr_isi os_isi T.n_isinstance (av_cons (ev_var (i := 1)) (av_cons (ev_ty T.n_bool) (av_nil)))) (nomark _)) (wv_or1 (tv_cmp (op_neD C.room.units) os_ne (ev_callB cr_isi os_isi T.n_isinstance (av_cons (ev_var (i := 0)) (av_cons (ev_ty T.n_int) (av_nil)))) (ev_callB cr_isi os_isi T.n_isinstance (av_cons (ev_var (i := 1)) (av_cons (ev_ty T.n_int) (av_nil)))) (nomark _))))) (bv_one (sv_ret (ev_bl))) (bv_nil)) (bv_one (sv_ret (ev_cmp (op_eqD C.room.units) os_eq (ev_var (i := 0)) (ev_var (i := 1)) (nomark _)))))
theorem I_law_alike (T : Txt P w K mg base C_BadReader C_LabelError C_BadRow C_Reader) {qual : Str} {f : Addr} {fd : FuncData} (F : Fun K "_law_alike" qual s_law_alike f fd) (hx : mg "_law_alike" = some (.ref f)) (hB : Binds K fd ["_law_told", "_law_due"] []) : ∀ d, FnIs P w K mg base "_law_alike" (d + 1) 2 (F_law_alike d)
  | 0 => fn_is lv_leave F hx hB sc_law_alike fun _ _ _ _ _ _ _ => bv_bad
  | d + 1 => fn_is lv_leave F hx hB sc_law_alike fun _ _ _ _ _ _ C => hb_law_alike T (I_law_alike T F hx hB d) C
theorem sc_Reader_mark : FnScope ["self", "row"] ["self", "row"] (defScope s_Reader_mark) := ⟨rfl, rfl, rfl, by decide +kernel, rfl, by decide +kernel, by decide +kernel⟩
theorem hb_Reader_mark (T : Txt P w K mg base C_BadReader C_LabelError C_BadRow C_Reader) (I_is_row : FnIs P w K mg base "is_row" 3 1 F_is_row) {qual : Str} {f : Addr} {cdv : Value} {A : Around} {outer : List Env} {s : Shared} {H : Hp} {E : XK} (C : Ctx (cxOf (L2.CX P w) P w K mg base ["self", "row"] qual (defScope s_Reader_mark) f cdv A outer s H E) (Wish.of fun c d _ H => E c d H) 3) :
    BV (cxOf (L2.CX P w) P w K mg base ["self", "row"] qual (defScope s_Reader_mark) f cdv A outer s H E) (Wish.of fun c d _ H => E c d H) (defBody s_Reader_mark) B_Reader_mark :=
  bv_cons (sv_if (tv_w (wv_or (tv_not (tv_val (ev_callI I_is_row C (by decide) (av_cons (ev_var (i := 1)) (av_nil)) (arN_cons (arN_nil))))) (wv_or1 (tv_cmp (op_neD C.room.units) os_ne (ev_callB cr_len os_len T.n_len (av_cons (ev_var (i := 1)) (av_nil))) (ev_fld (fldCons T.g_Reader T.k_Reader.cl T.nf_Reader_width fldNil) (ev_var (i := 0))) (nomark _))))) (bv_one (sv_raise1 C (by decide) T.E_BadRow (av_cons (ev_str) (av_nil)))) (bv_nil)) (bv_one (sv_ret (ev_tget1 C (ev_fld (fldCons T.g_Reader T.k_Reader.cl T.nf_Reader_known fldNil) (ev_var (i := 0))) (ev_var (i := 1)))))
theorem ME_Reader_mark (T : Txt P w K mg base C_BadReader C_LabelError C_BadRow C_Reader) (I_is_row : FnIs P w K mg base "is_row" 3 1 F_is_row) {f : Addr} {fd : FuncData} (F : Fun K "mark" "Reader.mark" s_Reader_mark f fd) (h1 : PySem.W.findIn K (.ref C_Reader) "mark" = some (some (.ref f))) (h2 : PySem.W.isFn K (.ref f) = true) (hB : Binds K fd ["self", "row"] []) : MethIs P w K mg base "Reader" "mark" 4 1 F_Reader_mark := meth_is lv_leave F T.g_Reader T.k_Reader.cl h1 h2 hB sc_Reader_mark fun _ _ _ _ _ _ C => hb_Reader_mark T I_is_row C
theorem sc_law_asked : FnScope ["_law_reader", "_law_row", "_law_told", "e"] ["_law_reader", "_law_row"] (defScope s_law_asked) := ⟨rfl, rfl, rfl, by decide +kernel, rfl, by decide +kernel, by decide +kernel⟩
theorem hb_law_asked (T : Txt P w K mg base C_BadReader C_LabelError C_BadRow C_Reader) (ME_Reader_mark : MethIs P w K mg base "Reader" "mark" 4 1 F_Reader_mark) {qual : Str} {f : Addr} {cdv : Value} {A : Around} {outer : List Env} {s : Shared} {H : Hp} {E : XK} (C : Ctx (cxOf (L2.CX P w) P w K mg base ["_law_reader", "_law_row", "_law_told", "e"] qual (defScope s_law_asked) f cdv A outer s H E) (Wish.of fun c d _ H => E c d H) 5) :
    BV (cxOf (L2.CX P w) P w K mg base ["_law_reader", "_law_row", "_law_told", "e"] qual (defScope s_law_asked) f cdv A outer s H E) (Wish.of fun c d _ H => E c d H) (defBody s_law_asked) B_law_asked :=
  bv_cons (sv_try C T.ext rfl rfl (fun W pl xe C => bv_one (sv_set (i := 2) C.nd (ev_lst (av_cons (ev_str) (av_cons (ev_meth ME_Reader_mark C (by decide) (ev_var (i := 0)) (av_cons (ev_var (i := 1)) (av_nil)) (arN_cons (arN_nil))) (av_nil)))))) (.as (i := 3) rfl (by decide) T.g_LabelError rfl rfl List.not_mem_nil (fun a ob cls d pl x hz hf => bv_cons (sv_set (i := 2) C.nd (ev_lst (av_cons (ev_str) (av_cons (ev_non) (av_nil)))) (hk := lkS (by decide) List.not_mem_nil)) (bv_one (sv_if (tv_w (wv_and (tv_val (ev_isX (i := 3) T.ixt T.g_BadRow T.n_isinstance hz hf rfl (Or.inl rfl))) (wv_and1 (tv_val (ev_isV (i := 3) T.ivt T.n_ValueError T.n_isinstance hz hf rfl (Or.inl rfl)))))) (bv_one (sv_set (i := 2) C.nd (ev_lst (av_cons (ev_str) (av_cons (ev_xf (i := 3) T.xf_BadRow T.g_BadRow T.xn_BadRow_part hz hf rfl (Or.inl rfl)) (av_nil)))) (hk := lkS (by decide) List.not_mem_nil))) (bv_nil)))) (.nil))) (bv_one (sv_ret (ev_var (i := 2))))
theorem I_law_asked (T : Txt P w K mg base C_BadReader C_LabelError C_BadRow C_Reader) (ME_Reader_mark : MethIs P w K mg base "Reader" "mark" 4 1 F_Reader_mark) {qual : Str} {f : Addr} {fd : FuncData} (F : Fun K "_law_asked" qual s_law_asked f fd) (hx : mg "_law_asked" = some (.ref f)) (hB : Binds K fd ["_law_reader", "_law_row"] []) : FnIs P w K mg base "_law_asked" 6 2 F_law_asked := fn_is lv_leave F hx hB sc_law_asked fun _ _ _ _ _ _ C => hb_law_asked T ME_Reader_mark C
theorem sc_law_bag : FnScope ["_law_script", "_law_spot", "_law_number", "_law_low"] ["_law_script", "_law_spot"] (defScope s_law_bag) := ⟨rfl, rfl, rfl, by decide +kernel, rfl, by decide +kernel, by decide +kernel⟩
theorem hb_law_bag (T : Txt P w K mg base C_BadReader C_LabelError C_BadRow C_Reader) {qual : Str} {f : Addr} {cdv : Value} {A : Around} {outer : List Env} {s : Shared} {H : Hp} {E : XK} (C : Ctx (cxOf (L2.CX P w) P w K mg base ["_law_script", "_law_spot", "_law_number", "_law_low"] qual (defScope s_law_bag) f cdv A outer s H E) (Wish.of fun c d _ H => E c d H) 0) :
    BV (cxOf (L2.CX P w) P w K mg base ["_law_script", "_law_spot", "_law_number", "_law_low"] qual (defScope s_law_bag) f cdv A outer s H E) (Wish.of fun c d _ H => E c d H) (defBody s_law_bag) B_law_bag :=
  bv_cons (sv_set (i := 2) C.nd (ev_ix ix_seq os_ix (ev_op or_add os_add (ev_sl (ev_var (i := 0)) (ov_yes (ev_var (i := 1))) (ov_yes (ev_op or_add os_add (ev_var (i := 1)) (ev_int)))) (ev_lst (av_cons (ev_int) (av_nil)))) (ev_int) (fun _ _ => rfl))) (bv_cons (sv_set (i := 3) C.nd (ev_op or_add os_add (ev_op or_add os_add (ev_op op_mod os_mod (ev_callTy call_int1 os_int T.n_int (av_cons (ev_var (i := 2)) (av_nil))) (ev_int)) (ev_op or_mul os_mul (ev_int) (ev_var (i := 1)))) (ev_int))) (bv_cons (sv_if (tv_cmp op_ge os_ge (ev_var (i := 2)) (ev_op op_pow os_pow (ev_int) (ev_int)) (nomark _)) (bv_one (sv_ret (ev_lstC (av_cons (ev_var (i := 2)) (av_cons (ev_var (i := 3)) (av_cons (ev_int) (av_nil))))))) (bv_nil)) (bv_one (sv_ret (ev_lstC (av_cons (ev_int) (av_cons (ev_var (i := 3)) (av_cons (ev_int) (av_nil)))))))))
theorem I_law_bag (T : Txt P w K mg base C_BadReader C_LabelError C_BadRow C_Reader) {qual : Str} {f : Addr} {fd : FuncData} (F : Fun K "_law_bag" qual s_law_bag f fd) (hx : mg "_law_bag" = some (.ref f)) (hB : Binds K fd ["_law_script", "_law_spot"] []) : FnIs P w K mg base "_law_bag" 1 2 F_law_bag := fn_is lv_leaveC F hx hB sc_law_bag fun _ _ _ _ _ _ C => hb_law_bag T C
theorem sc_law_pick : FnScope ["_law_bag_here", "_law_many", "_law_mixed", "_law_digit"] ["_law_bag_here", "_law_many"] (defScope s_law_pick) := ⟨rfl, rfl, rfl, by decide +kernel, rfl, by decide +kernel, by decide +kernel⟩
theorem hb_law_pick (T : Txt P w K mg base C_BadReader C_LabelError C_BadRow C_Reader) {qual : Str} {f : Addr} {cdv : Value} {A : Around} {outer : List Env} {s : Shared} {H : Hp} {E : XK} (C : Ctx (cxOf (L2.CX P w) P w K mg base ["_law_bag_here", "_law_many", "_law_mixed", "_law_digit"] qual (defScope s_law_pick) f cdv A outer s H E) (Wish.of fun c d _ H => E c d H) 0) :
    BV (cxOf (L2.CX P w) P w K mg base ["_law_bag_here", "_law_many", "_law_mixed", "_law_digit"] qual (defScope s_law_pick) f cdv A outer s H E) (Wish.of fun c d _ H => E c d H) (defBody s_law_pick) B_law_pick :=
  bv_cons (sv_if (tv_cmp op_gt os_gt (ev_ix ix_seq os_ix (ev_var (i := 0)) (ev_int) (fun _ _ => rfl)) (ev_int) (nomark _)) (bv_cons (sv_set (i := 3) C.nd (ev_op op_mod os_mod (ev_callTy call_int1 os_int T.n_int (av_cons (ev_ix ix_seq os_ix (ev_var (i := 0)) (ev_int) (fun _ _ => rfl)) (av_nil))) (ev_var (i := 1)))) (bv_cons (sv_sub set_list os_setL (ev_op op_fdivW os_div (ev_ix ix_seq os_ix (ev_var (i := 0)) (ev_int) (fun _ _ => rfl)) (ev_var (i := 1))) (ev_var (i := 0)) (ev_int)) (bv_one (sv_ret (ev_var (i := 3)))))) (bv_nil)) (bv_cons (sv_sub set_list os_setL (ev_op or_add os_add (ev_ix ix_seq os_ix (ev_var (i := 0)) (ev_int) (fun _ _ => rfl)) (ev_int)) (ev_var (i := 0)) (ev_int)) (bv_cons (sv_set (i := 2) C.nd (ev_op op_mod os_mod (ev_callTy call_int1 os_int T.n_int (av_cons (ev_op or_mul os_mul (ev_op or_add os_add (ev_ix ix_seq os_ix (ev_var (i := 0)) (ev_int) (fun _ _ => rfl)) (ev_op or_mul os_mul (ev_int) (ev_ix ix_seq os_ix (ev_var (i := 0)) (ev_int) (fun _ _ => rfl)))) (ev_int)) (av_nil))) (ev_int))) (bv_cons (sv_set (i := 2) C.nd (ev_op op_mod os_mod (ev_callTy call_int1 os_int T.n_int (av_cons (ev_op or_mul os_mul (ev_var (i := 2)) (ev_op or_add os_add (ev_op op_fdivW os_div (ev_var (i := 2)) (ev_int)) (ev_int))) (av_nil))) (ev_int))) (bv_cons (sv_set (i := 2) C.nd (ev_op op_mod os_mod (ev_callTy call_int1 os_int T.n_int (av_cons (ev_op or_mul os_mul (ev_var (i := 2)) (ev_op or_add os_add (ev_op op_fdivW os_div (ev_var (i := 2)) (ev_int)) (ev_int))) (av_nil))) (ev_int))) (bv_one (sv_ret (ev_op op_mod os_mod (ev_callTy call_int1 os_int T.n_int (av_cons (ev_op op_fdivW os_div (ev_var (i := 2)) (ev_int)) (av_nil))) (ev_var (i := 1)))))))))
theorem I_law_pick (T : Txt P w K mg base C_BadReader C_LabelError C_BadRow C_Reader) {qual : Str} {f : Addr} {fd : FuncData} (F : Fun K "_law_pick" qual s_law_pick f fd) (hx : mg "_law_pick" = some (.ref f)) (hB : Binds K fd ["_law_bag_here", "_law_many"] []) : FnIs P w K mg base "_law_pick" 1 2 F_law_pick := fn_is lv_leave F hx hB sc_law_pick fun _ _ _ _ _ _ C => hb_law_pick T C
theorem sc_law_rows : FnScope ["_law_width", "_law_rows_here", "_law_turn", "_law_row"] ["_law_width"] (defScope s_law_rows) := ⟨rfl, rfl, rfl, by decide +kernel, rfl, by decide +kernel, by decide +kernel⟩
theorem hb_law_rows (T : Txt P w K mg base C_BadReader C_LabelError C_BadRow C_Reader) {qual : Str} {f : Addr} {cdv : Value} {A : Around} {outer : List Env} {s : Shared} {H : Hp} {E : XK} (C : Ctx (cxOf (L2.CX P w) P w K mg base ["_law_width", "_law_rows_here", "_law_turn", "_law_row"] qual (defScope s_law_rows) f cdv A outer s H E) (Wish.of fun c d _ H => E c d H) 0) :
    BV (cxOf (L2.CX P w) P w K mg base ["_law_width", "_law_rows_here", "_law_turn", "_law_row"] qual (defScope s_law_rows) f cdv A outer s H E) (Wish.of fun c d _ H => E c d H) (defBody s_law_rows) B_law_rows :=
  bv_cons (sv_set (i := 1) C.nd (ev_lst (av_cons (ev_tup (av_nil)) (av_nil)))) (bv_cons (sv_for C (iv_rng1 T.n_range (av_cons (ev_var (i := 0)) (av_nil))) (gv_nm (i := 2) C.nd) (bv_one (sv_set (i := 1) C.nd (ev_op or_add os_add (ev_lcG fin_lst (own := [("_law_row", 3)]) C.calm C.nd (iv_seq (ev_var (i := 1))) (by show blkC ["_law_width", "_law_rows_here", "_law_turn", "_law_row"] (defScope s_law_rows) _ _ = true; decide +kernel) (by decide) (fun _ h => nomatch h) (fun _ _ _ _ _ => gv_nm (i := 3) C.nd) (fun _ _ _ _ _ => tv_ifs0) (fun s H C1 cl fp => ev_blk C (fun C => ev_op or_add os_add (ev_var (i := 3)) (ev_tup (av_cons (ev_int) (av_nil)))))) (ev_lcG fin_lst (own := [("_law_row", 3)]) C.calm C.nd (iv_seq (ev_var (i := 1))) (by show blkC ["_law_width", "_law_rows_here", "_law_turn", "_law_row"] (defScope s_law_rows) _ _ = true; decide +kernel) (by decide) (fun _ h => nomatch h) (fun _ _ _ _ _ => gv_nm (i := 3) C.nd) (fun _ _ _ _ _ => tv_ifs0) (fun s H C1 cl fp => ev_blk C (fun C => ev_op or_add os_add (ev_var (i := 3)) (ev_tup (av_cons (ev_int) (av_nil)))))))))) (bv_one (sv_ret (ev_callB cr_sortAny os_sortT T.n_sorted (av_cons (ev_var (i := 1)) (av_nil))))))
theorem I_law_rows (T : Txt P w K mg base C_BadReader C_LabelError C_BadRow C_Reader) {qual : Str} {f : Addr} {fd : FuncData} (F : Fun K "_law_rows" qual s_law_rows f fd) (hx : mg "_law_rows" = some (.ref f)) (hB : Binds K fd ["_law_width"] []) : FnIs P w K mg base "_law_rows" 1 1 F_law_rows := fn_is lv_leave F hx hB sc_law_rows fun _ _ _ _ _ _ C => hb_law_rows T C
theorem sc_law_drawn : FnScope ["_law_bag_here", "_law_width", "_law_kinds", "_law_marks", "_law_row"] ["_law_bag_here"] (defScope s_law_drawn) := ⟨rfl, rfl, rfl, by decide +kernel, rfl, by decide +kernel, by decide +kernel⟩
theorem hb_law_drawn (T : Txt P w K mg base C_BadReader C_LabelError C_BadRow C_Reader) (I_law_pick : FnIs P w K mg base "_law_pick" 1 2 F_law_pick) (I_law_rows : FnIs P w K mg base "_law_rows" 1 1 F_law_rows) {qual : Str} {f : Addr} {cdv : Value} {A : Around} {outer : List Env} {s : Shared} {H : Hp} {E : XK} (C : Ctx (cxOf (L2.CX P w) P w K mg base ["_law_bag_here", "_law_width", "_law_kinds", "_law_marks", "_law_row"] qual (defScope s_law_drawn) f cdv A outer s H E) (Wish.of fun c d _ H => E c d H) 1) :
    BV (cxOf (L2.CX P w) P w K mg base ["_law_bag_here", "_law_width", "_law_kinds", "_law_marks", "_law_row"] qual (defScope s_law_drawn) f cdv A outer s H E) (Wish.of fun c d _ H => E c d H) (defBody s_law_drawn) B_law_drawn :=
  bv_cons (sv_set (i := 1) C.nd (ev_op or_add os_add (ev_int) (ev_callI I_law_pick C (by decide) (av_cons (ev_var (i := 0)) (av_cons (ev_int) (av_nil))) (arN_cons (arN_cons (arN_nil)))))) (bv_cons (sv_set (i := 2) C.nd (ev_lst (av_cons (ev_str) (av_cons (ev_str) (av_cons (ev_str) (av_cons (ev_str) (av_cons (ev_str) (av_cons (ev_str) (av_nil))))))))) (bv_cons (sv_set (i := 3) C.nd (ev_tdct0)) (bv_cons (sv_for C (iv_seq (ev_revL (ev_callI I_law_rows C (by decide) (av_cons (ev_var (i := 1)) (av_nil)) (arN_cons (arN_nil))))) (gv_nm (i := 4) C.nd) (bv_one (sv_if (tv_cmp op_gt os_gt (ev_callI I_law_pick C (by decide) (av_cons (ev_var (i := 0)) (av_cons (ev_int) (av_nil))) (arN_cons (arN_cons (arN_nil)))) (ev_int) (nomark _)) (bv_one (sv_subT C (ev_ix ix_seq os_ix (ev_var (i := 2)) (ev_callI I_law_pick C (by decide) (av_cons (ev_var (i := 0)) (av_cons (ev_int) (av_nil))) (arN_cons (arN_cons (arN_nil)))) (fun _ _ => rfl)) (ev_var (i := 3)) (ev_var (i := 4)))) (bv_nil)))) (bv_one (sv_ret (ev_lst (av_cons (ev_var (i := 1)) (av_cons (ev_var (i := 3)) (av_nil)))))))))
theorem I_law_drawn (T : Txt P w K mg base C_BadReader C_LabelError C_BadRow C_Reader) (I_law_pick : FnIs P w K mg base "_law_pick" 1 2 F_law_pick) (I_law_rows : FnIs P w K mg base "_law_rows" 1 1 F_law_rows) {qual : Str} {f : Addr} {fd : FuncData} (F : Fun K "_law_drawn" qual s_law_drawn f fd) (hx : mg "_law_drawn" = some (.ref f)) (hB : Binds K fd ["_law_bag_here"] []) : FnIs P w K mg base "_law_drawn" 2 1 F_law_drawn := fn_is lv_leaveA F hx hB sc_law_drawn fun _ _ _ _ _ _ C => hb_law_drawn T I_law_pick I_law_rows C
theorem sc_law : FnScope ["_law_script", "_law_bag_here", "_law_width", "_law_marks", "_law_handed", "_law_reader", "_law_turn", "_law_row", "_law_deep", "_law_odd", "_law_other", "_law_fewer", "_law_told"] ["_law_script"] (defScope s_law) := ⟨rfl, rfl, rfl, by decide +kernel, rfl, by decide +kernel, by decide +kernel⟩
theorem hb_law (T : Txt P w K mg base C_BadReader C_LabelError C_BadRow C_Reader) (EQ_Reader : EqIs P w K mg base "Reader" 1 F_Reader___eq__) (MK_Reader : MkIs P w K mg base "Reader" 5 2 F_Reader___init__) (PR_Reader_marks : PropIs P w K mg base "Reader" "marks" 1 F_Reader_marks) (I_law_alike : FnIs P w K mg base "_law_alike" 5 2 (F_law_alike 4)) (I_law_asked : FnIs P w K mg base "_law_asked" 6 2 F_law_asked) (I_law_bag : FnIs P w K mg base "_law_bag" 1 2 F_law_bag) (I_law_drawn : FnIs P w K mg base "_law_drawn" 2 1 F_law_drawn) (I_law_pick : FnIs P w K mg base "_law_pick" 1 2 F_law_pick) (I_law_rows : FnIs P w K mg base "_law_rows" 1 1 F_law_rows) {qual : Str} {f : Addr} {cdv : Value} {A : Around} {outer : List Env} {s : Shared} {H : Hp} {E : XK} (C : Ctx (cxOf (L2.CX P w) P w K mg base ["_law_script", "_law_bag_here", "_law_width", "_law_marks", "_law_handed", "_law_reader", "_law_turn", "_law_row", "_law_deep", "_law_odd", "_law_other", "_law_fewer", "_law_told"] qual (defScope s_law) f cdv A outer s H E) (Wish.of fun c d _ H => E c d H) 6) :
    BV (cxOf (L2.CX P w) P w K mg base ["_law_script", "_law_bag_here", "_law_width", "_law_marks", "_law_handed", "_law_reader", "_law_turn", "_law_row", "_law_deep", "_law_odd", "_law_other", "_law_fewer", "_law_told"] qual (defScope s_law) f cdv A outer s H E) (Wish.of fun c d _ H => E c d H) (defBody s_law) B_law :=
  bv_cons (sv_set (i := 1) C.nd (ev_callI I_law_bag C (by decide) (av_cons (ev_var (i := 0)) (av_cons (ev_int) (av_nil))) (arN_cons (arN_cons (arN_nil))))) (bv_cons (sv_asg (ev_callI I_law_drawn C (by decide) (av_cons (ev_var (i := 1)) (av_nil)) (arN_cons (arN_nil))) (gv_tl C.calm (gvs_cons (gv_nm (i := 2) C.nd) (gvs_cons (gv_nm (i := 3) C.nd) (gvs_nil))))) (bv_cons (sv_set (i := 4) C.nd (ev_callTy (SLf.call_dictT (by have := C.room.un; omega)) os_dictCT T.n_dict (av_cons (ev_var (i := 3)) (av_nil)))) (bv_cons (sv_set (i := 5) C.nd (ev_makeG lv_leave MK_Reader C (by decide) (av_cons (ev_var (i := 2)) (av_cons (ev_var (i := 4)) (av_nil))) (arN_cons (arN_cons (arN_nil))))) (bv_cons (sv_expr (ev_clearT (ev_var (i := 4)))) (bv_cons (sv_for C (iv_rng1 T.n_range (av_cons (ev_int) (av_nil))) (gv_nm (i := 6) C.nd) (bv_cons (sv_set (i := 12) C.nd (ev_prop PR_Reader_marks C (by decide) (ev_var (i := 5)))) (bv_cons (sv_if (tv_w (wv_or (tv_not (tv_val (ev_callB cr_isi os_isi T.n_isinstance (av_cons (ev_var (i := 12)) (av_cons (ev_ty T.n_dict) (av_nil)))))) (wv_or (tv_cmp (op_neD C.room.units) os_ne (ev_callTy (SLf.call_listT C.calm) os_listT T.n_list (av_cons (ev_var (i := 12)) (av_nil))) (ev_callB (SLf.call_sortK C.calm) os_sortK T.n_sorted (av_cons (ev_var (i := 3)) (av_nil))) (nomark _)) (wv_or (tv_cmp (op_neT (Room.u70 C.room)) os_neT (ev_var (i := 12)) (ev_var (i := 3)) (nomark _)) (wv_or1 (tv_cmp (op_neD C.room.units) os_ne (ev_fld (fldCons T.g_Reader T.k_Reader.cl T.nf_Reader_width fldNil) (ev_var (i := 5))) (ev_var (i := 2)) (nomark _))))))) (bv_one (sv_ret (ev_bl))) (bv_nil)) (bv_one (sv_expr (ev_clearT (ev_var (i := 12)))))))) (bv_cons (sv_for C (iv_seq (ev_callI I_law_rows C (by decide) (av_cons (ev_var (i := 2)) (av_nil)) (arN_cons (arN_nil)))) (gv_nm (i := 7) C.nd) (bv_one (sv_if (tv_not (tv_val (ev_callI I_law_alike C (by decide) (av_cons (ev_callI I_law_asked C (by decide) (av_cons (ev_var (i := 5)) (av_cons (ev_var (i := 7)) (av_nil))) (arN_cons (arN_cons (arN_nil)))) (av_cons (ev_lst (av_cons (ev_str) (av_cons (ev_tget1 C (ev_var (i := 3)) (ev_var (i := 7))) (av_nil)))) (av_nil))) (arN_cons (arN_cons (arN_nil)))))) (bv_one (sv_ret (ev_bl))) (bv_nil)))) (bv_cons (sv_set (i := 7) C.nd (ev_op or_mulX os_mulX (ev_tup (av_cons (ev_int) (av_nil))) (ev_var (i := 2)))) (bv_cons (sv_set (i := 8) C.nd (ev_lst (av_nil))) (bv_cons (sv_for C (iv_rng1 T.n_range (av_cons (ev_int) (av_nil))) (gv_nm (i := 6) C.nd) (bv_one (sv_set (i := 8) C.nd (ev_lst (av_cons (ev_var (i := 8)) (av_nil)))))) (bv_cons (sv_set (i := 9) C.nd (ev_lst (av_cons (ev_non) (av_cons (ev_op or_mulL os_mulL (ev_lst (av_cons (ev_int) (av_nil))) (ev_var (i := 2))) (av_cons (ev_op or_add os_add (ev_var (i := 7)) (ev_tup (av_cons (ev_int) (av_nil)))) (av_cons (ev_sl (ev_var (i := 7)) (ov_yes (ev_int)) (ov_no)) (av_cons (ev_op or_add os_add (ev_sl (ev_var (i := 7)) (ov_yes (ev_int)) (ov_no)) (ev_tup (av_cons (ev_int) (av_nil)))) (av_cons (ev_op or_add os_add (ev_sl (ev_var (i := 7)) (ov_yes (ev_int)) (ov_no)) (ev_tup (av_cons (ev_bl) (av_nil)))) (av_cons (ev_op op_mulS os_mulS (ev_str) (ev_var (i := 2))) (av_cons (ev_int) (av_cons (ev_tup (av_cons (ev_var (i := 7)) (av_nil))) (av_cons (ev_dict0) (av_nil))))))))))))) (bv_cons (sv_set (i := 9) C.nd (ev_op or_add os_add (ev_var (i := 9)) (ev_lst (av_cons (ev_op or_mulX os_mulX (ev_tup (av_cons (ev_lst (av_cons (ev_int) (av_nil))) (av_nil))) (ev_var (i := 2))) (av_cons (ev_op or_add os_add (ev_tup (av_cons (ev_tup (av_nil)) (av_cons (ev_lst (av_cons (ev_lst (av_nil)) (av_nil))) (av_nil)))) (ev_var (i := 7))) (av_cons (ev_op or_mulX os_mulX (ev_tup (av_cons (ev_var (i := 8)) (av_nil))) (ev_var (i := 2))) (av_cons (ev_var (i := 8)) (av_cons (ev_var (i := 5)) (av_cons (ev_op or_add os_add (ev_sl (ev_var (i := 7)) (ov_yes (ev_int)) (ov_no)) (ev_tup (av_cons (ev_lst (av_nil)) (av_nil)))) (av_cons (ev_op or_add os_add (ev_sl (ev_var (i := 7)) (ov_yes (ev_int)) (ov_no)) (ev_tup (av_cons (ev_dict0) (av_nil)))) (av_nil))))))))))) (bv_cons (sv_if (tv_cmp (op_neD C.room.units) os_ne (ev_callI I_law_asked C (by decide) (av_cons (ev_var (i := 5)) (av_cons (ev_ix ix_seq os_ix (ev_var (i := 9)) (ev_callI I_law_pick C (by decide) (av_cons (ev_var (i := 1)) (av_cons (ev_int) (av_nil))) (arN_cons (arN_cons (arN_nil)))) (fun _ _ => rfl)) (av_nil))) (arN_cons (arN_cons (arN_nil)))) (ev_lst (av_cons (ev_str) (av_cons (ev_str) (av_nil)))) (nomark _)) (bv_one (sv_ret (ev_bl))) (bv_nil)) (bv_cons (sv_set (i := 10) C.nd (ev_callI I_law_drawn C (by decide) (av_cons (ev_callI I_law_bag C (by decide) (av_cons (ev_var (i := 0)) (av_cons (ev_int) (av_nil))) (arN_cons (arN_cons (arN_nil)))) (av_nil)) (arN_cons (arN_nil)))) (bv_cons (sv_if (tv_cmp (op_neD C.room.units) os_ne (ev_eqO EQ_Reader C (by decide) (ev_var (i := 5)) (ev_makeG lv_leave MK_Reader C (by decide) (av_cons (ev_ix ix_seq os_ix (ev_var (i := 10)) (ev_int) (fun _ _ => rfl)) (av_cons (ev_ix ix_seq os_ix (ev_var (i := 10)) (ev_int) (fun _ _ => rfl)) (av_nil))) (arN_cons (arN_cons (arN_nil)))) (nomark _)) (ev_cmp (op_eqLj (Room.u70 C.room)) os_eqLj (ev_var (i := 10)) (ev_lst (av_cons (ev_var (i := 2)) (av_cons (ev_var (i := 3)) (av_nil)))) (nomark _)) (nomark _)) (bv_one (sv_ret (ev_bl))) (bv_nil)) (bv_cons (sv_set (i := 11) C.nd (ev_callTy (SLf.call_dictT (by have := C.room.un; omega)) os_dictCT T.n_dict (av_cons (ev_var (i := 3)) (av_nil)))) (bv_cons (sv_if (tv_cmp op_gt os_gt (ev_callB SLd.call_lenT os_tlen T.n_len (av_cons (ev_var (i := 11)) (av_nil))) (ev_int) (nomark _)) (bv_one (sv_expr (ev_dpopT C (ev_var (i := 11)) (ev_ix ix_seq os_ix (ev_callB (SLf.call_sortK C.calm) os_sortK T.n_sorted (av_cons (ev_var (i := 11)) (av_nil))) (ev_callI I_law_pick C (by decide) (av_cons (ev_var (i := 1)) (av_cons (ev_callB SLd.call_lenT os_tlen T.n_len (av_cons (ev_var (i := 11)) (av_nil))) (av_nil))) (arN_cons (arN_cons (arN_nil)))) (fun _ _ => rfl))))) (bv_nil)) (bv_one (sv_ret (ev_and (ev_eqO EQ_Reader C (by decide) (ev_var (i := 5)) (ev_makeG lv_leave MK_Reader C (by decide) (av_cons (ev_var (i := 2)) (av_cons (ev_callTy (SLf.call_dictT (by have := C.room.un; omega)) os_dictCT T.n_dict (av_cons (ev_var (i := 3)) (av_nil))) (av_nil))) (arN_cons (arN_cons (arN_nil)))) (nomark _)) (ev_one (ev_cmp (op_eqD C.room.units) os_eq (ev_eqO EQ_Reader C (by decide) (ev_var (i := 5)) (ev_makeG lv_leave MK_Reader C (by decide) (av_cons (ev_var (i := 2)) (av_cons (ev_var (i := 11)) (av_nil))) (arN_cons (arN_cons (arN_nil)))) (nomark _)) (ev_cmp (op_eqD C.room.units) os_eq (ev_callB SLd.call_lenT os_tlen T.n_len (av_cons (ev_var (i := 3)) (av_nil))) (ev_int) (nomark _)) (nomark _))))))))))))))))))))))
theorem ok_law (T : Txt P w K mg base C_BadReader C_LabelError C_BadRow C_Reader) (EQ_Reader : EqIs P w K mg base "Reader" 1 F_Reader___eq__) (MK_Reader : MkIs P w K mg base "Reader" 5 2 F_Reader___init__) (PR_Reader_marks : PropIs P w K mg base "Reader" "marks" 1 F_Reader_marks) (I_law_alike : FnIs P w K mg base "_law_alike" 5 2 (F_law_alike 4)) (I_law_asked : FnIs P w K mg base "_law_asked" 6 2 F_law_asked) (I_law_bag : FnIs P w K mg base "_law_bag" 1 2 F_law_bag) (I_law_drawn : FnIs P w K mg base "_law_drawn" 2 1 F_law_drawn) (I_law_pick : FnIs P w K mg base "_law_pick" 1 2 F_law_pick) (I_law_rows : FnIs P w K mg base "_law_rows" 1 1 F_law_rows) {f : Addr} {fd : FuncData} (F : Fun K "law" "law" s_law f fd) : FnOk P w K mg base (L2.CX P w) 7 f fd ["_law_script"] (spF K mg 1 F_law) := fn_okG lv_leave F sc_law rfl rfl fun _ _ _ _ _ _ C => hb_law T EQ_Reader MK_Reader PR_Reader_marks I_law_alike I_law_asked I_law_bag I_law_drawn I_law_pick I_law_rows C
end
end SL

namespace SL
open PySem PySem.Spec PyProof.Rows L2
section
variable {n : String} {st : Sto}
@[simp] theorem isiB_non : oIsiI "Reader" [.non, .ty n] st = oIsi [.non, .ty n] st := rfl
@[simp] theorem isiB_bl {b : Bool} : oIsiI "Reader" [.bl b, .ty n] st = oIsi [.bl b, .ty n] st := rfl
@[simp] theorem isiB_int {i : Int} : oIsiI "Reader" [.int i, .ty n] st = oIsi [.int i, .ty n] st := rfl
@[simp] theorem isiB_str {z : Str} : oIsiI "Reader" [.str z, .ty n] st = oIsi [.str z, .ty n] st := rfl
end
def plW (ns : List Int) (p b n s : Int) : Cel := .lst [.lst (ns.map W.int), .int p, .int b, .int n, .int s]
section
variable {ns : List Int} {p b n s v : Int} {r : Sto}
@[simp] theorem pl0 : oIx (.cell 0) (.int 0) (plW ns p b n s :: r) = .ok (.lst (ns.map W.int)) (plW ns p b n s :: r) := rfl
@[simp] theorem pl1 : oIx (.cell 0) (.int 1) (plW ns p b n s :: r) = .ok (.int p) (plW ns p b n s :: r) := rfl
@[simp] theorem pl2 : oIx (.cell 0) (.int 2) (plW ns p b n s :: r) = .ok (.int b) (plW ns p b n s :: r) := rfl
@[simp] theorem pl3 : oIx (.cell 0) (.int 3) (plW ns p b n s :: r) = .ok (.int n) (plW ns p b n s :: r) := rfl
@[simp] theorem pl4 : oIx (.cell 0) (.int 4) (plW ns p b n s :: r) = .ok (.int s) (plW ns p b n s :: r) := rfl
@[simp] theorem ps1 : uLst (.cell 0) (.int 1) (.int v) (plW ns p b n s :: r) = some (plW ns v b n s :: r) := rfl
@[simp] theorem ps2 : uLst (.cell 0) (.int 2) (.int v) (plW ns p b n s :: r) = some (plW ns p v n s :: r) := rfl
@[simp] theorem ps3 : uLst (.cell 0) (.int 3) (.int v) (plW ns p b n s :: r) = some (plW ns p b v s :: r) := rfl
@[simp] theorem ps4 : uLst (.cell 0) (.int 4) (.int v) (plW ns p b n s :: r) = some (plW ns p b n v :: r) := rfl
end
def okD : Nat → W → Bool
  | 0, _ => false
  | d + 1, w => match w with
    | .non | .bl _ | .int _ => true
    | .str x => PyData.strOk x
    | .tup ws | .lst ws => decide (ws.length ≤ 1000000) && ws.all (okD d)
    | _ => false
theorem nil_all {ys : List W} {p : W → Bool} (h : ∀ w ∈ ys, p w = false) : (ys.filter p).map id = [] := by
  rw [List.filter_eq_nil_iff.mpr fun w hw => by rw [h w hw]; simp]; rfl
def plainW : W → Bool
  | .non | .bl _ | .int _ | .str _ | .tup _ | .lst _ => true
  | .dct [] _ => true
  | .dct (.str _ :: _) _ => true
  | .ins c _ _ => c == "Reader"
  | _ => false
@[simp] theorem plain_int {i : Int} : plainW (.int i) = true := by simp only [plainW]
@[simp] theorem plain_non : plainW .non = true := by simp only [plainW]
@[simp] theorem plain_bl {i : Bool} : plainW (.bl i) = true := by simp only [plainW]
@[simp] theorem plain_str {i : Str} : plainW (.str i) = true := by simp only [plainW]
@[simp] theorem plain_tup {i : List W} : plainW (.tup i) = true := by simp only [plainW]
@[simp] theorem plain_lst {i : List W} : plainW (.lst i) = true := by simp only [plainW]
def isI : W → Bool
  | .int _ => true
  | _ => false
def betw (lo hi : Int) : W → Bool
  | .int i => decide (lo ≤ i) && decide (i ≤ hi)
  | _ => false
@[simp] theorem betw_int {lo hi i : Int} : betw lo hi (.int i) = (decide (lo ≤ i) && decide (i ≤ hi)) := rfl
def itemsW : W → List W
  | .tup ws => ws
  | _ => []
def rowW : W → Bool
  | .tup ws => ws.all (betw 0 1)
  | _ => false
@[simp] theorem isint_ok {w : W} {st : Sto} (h : plainW w = true) : F_is_integer [w] st = .ok (.bl (isI w)) st := by
  cases w with
  | dct ks ws =>
    cases ks with
    | nil => exact mk_rt (st1 := st) (by simp [B_is_integer, isI]) rfl
    | cons k ks =>
      cases k with
      | str x => exact mk_rt (st1 := st) (by simp [B_is_integer, isI]) rfl
      | _ => cases h
  | ins c ns ws =>
    have hc : c = "Reader" := beq_iff_eq.mp h
    subst hc
    have q := isiI_ins (st := st) (c := "Reader") (n := "int") (ns := ns) (ws := ws) (by decide +kernel)
    exact mk_rt (st1 := st) (by simp [B_is_integer, isI, q]) rfl
  | _ => first | (cases h; done) | exact mk_rt (st1 := st) (by simp [B_is_integer, isI]) rfl
@[simp] theorem betw_ok {w : W} {lo hi : Int} {st : Sto} (h : plainW w = true) : F_is_between_cells [w, .int lo, .int hi] st = .ok (.bl (betw lo hi w)) st := by
  refine mk_rt (st1 := st) ?_ rfl
  unfold B_is_between_cells
  cases w with
  | int i =>
    simp [h, isI, betw]
    by_cases z : lo ≤ i <;> simp [z]
  | _ => first | (cases h; done) | simp [h, isI, betw]
theorem bls_map : ∀ (ws : List W) (p : W → Bool), blsW (ws.map fun w => .bl (p w)) = some (ws.map p)
  | [], p => rfl
  | w :: ws, p => by rw [List.map_cons, blsW, bls_map ws p]; rfl
theorem all_id (ws : List W) (p : W → Bool) : (ws.map p).all id = ws.all p := by
  induction ws with
  | nil => rfl
  | cons a l ih => simp [ih]
def okRow (w : W) : Bool := plainW w && (itemsW w).all plainW
@[simp] theorem is_row_ok {w : W} {st : Sto} (h : okRow w = true) : F_is_row [w] st = .ok (.bl (rowW w)) st := by
  unfold okRow at h
  rw [Bool.and_eq_true] at h
  refine mk_rt (st1 := st) ?_ rfl
  unfold B_is_row
  cases w with
  | tup ws =>
    have hz := h.2
    have z : eLc (iSeq (eVar 0)) (gNm 1) [1] (tTrue) (eCall F_is_between_cells (aCons (eVar 1) (aCons (eC (.int 0)) (aCons (eC (.int 1)) (aNil))))) [some (.tup ws), none] st = .ok (.lst (ws.map fun w => .bl (betw 0 1 w))) st := by
      refine x_lc (st1 := st) (x := .tup ws) (all := ws) (by simp) ?_
      refine lc_map (x := .tup ws) trivial ws fun w hw => ⟨_, rfl, rfl, ?_⟩
      have hp := List.all_eq_true.mp hz w hw
      simp [wipeF, hp]
    simp [z]
    simp [oAll, oBls, bls_map, all_id, rowW]
  | dct ks ws =>
    cases ks with
    | nil => simp [rowW]
    | cons k ks =>
      cases k with
      | str x => simp [rowW]
      | _ => exact Bool.noConfusion h.1
  | ins c ns ws =>
    have hc : c = "Reader" := beq_iff_eq.mp h.1
    subst hc
    have q := isiI_ins (st := st) (c := "Reader") (n := "tuple") (ns := ns) (ws := ws) (by decide +kernel)
    simp [rowW, q]
  | _ => first | (cases h.1; done) | simp [rowW]
def rowEr (p : Str) : Exc := ⟨"BadRow", ["part"], [.str p]⟩
def bits (ns : List Int) : W := .tup (ns.map W.int)
def Bits (ns : List Int) : Prop := ∀ n ∈ ns, n = 0 ∨ n = 1
theorem bits_ok (ns : List Int) : okRow (bits ns) = true := by
  simp [okRow, bits, plainW, itemsW]
theorem bits_row {ns : List Int} (h : Bits ns) : rowW (bits ns) = true := by
  show (ns.map W.int).all (betw 0 1) = true
  rw [List.all_map, List.all_eq_true]
  intro n hn
  rcases h n hn with rfl | rfl <;> rfl
@[simp] theorem get_new {st : Sto} {c : Cel} : (st ++ [c])[st.length]? = some c := by simp
@[simp] theorem set_new {st : Sto} {c d : Cel} : (st ++ [c]).set st.length d = st ++ [d] := by simp
theorem take_next {α : Type} {l : List α} {k : Nat} {w : α} (h : l[k]? = some w) : l.take (k + 1) = l.take k ++ [w] := by
  have hk : k < l.length := by
    rcases Nat.lt_or_ge k l.length with q | q
    · exact q
    · rw [List.getElem?_eq_none q] at h; cases h
  rw [List.take_succ, h]; rfl
@[simp] theorem rngW_len {lo c : Int} {n : Nat} : (rngW lo c n).length = n := by simp [rngW]
theorem fz_ints (n : Nat) (f : Nat → Option W) : ∀ ns : List Int, fz0s n f (ns.map W.int) = some (ns.map W.int)
  | [] => rfl
  | a :: l => by rw [List.map_cons, fz0s, fz_ints n f l]; rfl
theorem fz_bits (n : Nat) (f : Nat → Option W) (ns : List Int) : fz0 n f (bits ns) = some (bits ns) := by
  unfold bits fz0; rw [fz_ints]; rfl
theorem ix_mem {ws : List W} {i : Int} (h : 0 ≤ i) (h2 : i < ws.length) : ∃ w, w ∈ ws ∧ ∀ st, oIx (.lst ws) (.int i) st = .ok w st := by
  have hk : i.toNat < ws.length := by omega
  exact ⟨ws[i.toNat], List.getElem_mem hk, fun st => x_ixL h (by simp)⟩
theorem ne_two {a b : Str} {st : Sto} (h : PyData.strOk a = true) (h2 : PyData.strOk b = true) : oNe (.lst [.str a, .str b]) (.lst [.str a, .str b]) st = .ok (.bl false) st := by
  have e : eqW st (.lst [.str a, .str b]) (.lst [.str a, .str b]) = some true := by
    unfold eqW
    have p : pdT st (.lst [.str a, .str b]) = some (.list [.str a, .str b]) := rfl
    rw [p]
    have s : SeqAt.shaped (.list [.str a, .str b]) = true := by
      unfold SeqAt.shaped
      have c : PyData.canLay0 (.list [.str a, .str b]) = true := by simp only [PyData.canLay0, PyData.canLayAll0, h, h2]; rfl
      rw [c]; rfl
    have q : PyData.eqv (.list [.str a, .str b]) (.list [.str a, .str b]) = true := by
      show ((a == a) && ((b == b) && true)) = true
      simp
    simp only [s, q]; rfl
  unfold oNe; rw [e]; rfl
theorem ok_ints (d : Nat) (ns : List Int) : (ns.map W.int).all (okD (d + 1)) = true := by
  rw [List.all_map, List.all_eq_true]; intro n _; rfl
theorem ok_bits (d : Nat) {ns : List Int} (h : ns.length ≤ 1000000) : okD (d + 2) (bits ns) = true := by
  show (decide ((ns.map W.int).length ≤ 1000000) && (ns.map W.int).all (okD (d + 1))) = true
  rw [ok_ints, List.length_map, decide_eq_true h]; rfl
theorem ok_int (d : Nat) (i : Int) : okD (d + 1) (.int i) = true := rfl
theorem ok_told (d : Nat) {s : Str} {w : W} (h : PyData.strOk s = true) (hw : okD (d + 1) w = true) : okD (d + 2) (.lst [.str s, w]) = true := by
  show (decide (2 ≤ 1000000) && (PyData.strOk s && (okD (d + 1) w && true))) = true
  rw [h, hw]; rfl
theorem bits_app {x y : List Int} {st : Sto} (h : x.length + y.length ≤ 1000000) : oAdd (bits x) (bits y) st = .ok (bits (x ++ y)) st := by
  show (if (x.map W.int).length + (y.map W.int).length ≤ LINE then Out.ok (W.tup (x.map W.int ++ y.map W.int)) st else .bad) = _
  rw [if_pos (by simp [LINE]; omega), ← List.map_append]; rfl
abbrev sg (c : Nat) : Str := ⟨#[c]⟩
def SGN : Str := "0123456789abcdefghijklmnopqrstuvwxyz"
def okC (c : Nat) : Prop := c ∈ SGN.cps.toList
theorem okC_lt {c : Nat} (h : okC c) : c < 128 := by
  have z : SGN.cps.toList.all (· < 128) = true := by decide +kernel
  exact of_decide_eq_true (List.all_eq_true.mp z c h)
theorem strOk_sg {c : Nat} (h : c < 128) : PyData.strOk (sg c) = true := by
  unfold PyData.strOk
  simp
  omega
@[simp] theorem len_sg {c : Nat} {st : Sto} : oLen [.str (sg c)] st = .ok (.int 1) st := by
  show (if (sg c).length ≤ LINE then Out.ok (W.int ((sg c).length : Nat)) st else .bad) = _
  have e : (sg c).length = 1 := rfl
  rw [e, if_pos (by decide)]; rfl
@[simp] theorem tpn_is {ws : List W} {st : Sto} : isTpn st (.tpn ws) = true := rfl
def bitsL (P : List (List Int)) : List W := P.map bits
theorem ints_map : ∀ is : List Int, intsW (is.map W.int) = some is
  | [] => rfl
  | i :: is => by rw [List.map_cons, intsW, ints_map is]; rfl
@[simp] theorem at_end {st : Sto} {c : Cel} {r : Sto} : (st ++ c :: r)[st.length]? = some c := by simp
@[simp] theorem at_end1 {st : Sto} {c d : Cel} {r : Sto} : (st ++ c :: d :: r)[st.length + 1]? = some d := by
  rw [List.getElem?_append_right (by omega), show st.length + 1 - st.length = 1 by omega]; rfl
@[simp] theorem set_end {st : Sto} {c d : Cel} {r : Sto} : (st ++ c :: r).set st.length d = st ++ d :: r := by simp
@[simp] theorem set_end1 {st : Sto} {c d e : Cel} {r : Sto} : (st ++ c :: d :: r).set (st.length + 1) e = st ++ c :: e :: r := by
  rw [List.set_append_right _ _ (by omega), show st.length + 1 - st.length = 1 by omega]; rfl
theorem tups_bits : ∀ {P : List (List Int)}, tupsI (bitsL P) = some P
  | [] => rfl
  | r :: P => by
    have ih := tups_bits (P := P)
    unfold bitsL at ih ⊢
    rw [List.map_cons]
    show tupsI (.tup (r.map W.int) :: P.map bits) = _
    unfold tupsI
    simp only [ints_map, ih]
theorem cut_from {T : List W} {a : Nat} (h : a ≤ T.length) : cutW T (some (a : Int)) none = T.drop a := by
  unfold cutW
  rw [HT.sIx_nat, HT.sIx_none, Nat.min_eq_left h, List.take_of_length_le (by simp)]
theorem eqv_ints : ∀ a b : List Int, PyData.eqvAll (a.map .int) (b.map .int) = decide (a = b)
  | [], [] => rfl
  | [], _ :: _ => rfl
  | _ :: _, [] => rfl
  | x :: a, y :: b => by
    show ((x == y) && PyData.eqvAll (a.map .int) (b.map .int)) = _
    rw [eqv_ints a b]
    by_cases h : x = y <;> by_cases h2 : a = b <;> simp [h, h2]
theorem pd_ints : ∀ a : List Int, pdWs (a.map W.int) = some (a.map .int)
  | [] => rfl
  | x :: a => by rw [List.map_cons, pdWs, pd_ints a]; rfl
theorem lay_ints : ∀ a : List Int, PyData.canLayAll0 (a.map .int) = true
  | [] => rfl
  | x :: a => by
    show (PyData.canLay0 (.int x) && PyData.canLayAll0 (a.map .int)) = true
    rw [lay_ints a]; rfl
theorem depth_ints : ∀ a : List Int, PyData.depthAll (a.map .int) = 0
  | [] => rfl
  | x :: a => by
    show max (PyData.depth (.int x)) (PyData.depthAll (a.map .int)) = 0
    rw [depth_ints a]; rfl
theorem cut_mid {T : List W} {a b : Nat} (h : a ≤ b) (hb : b ≤ T.length) : cutW T (some (a : Int)) (some (b : Int)) = (T.drop a).take (b - a) := by
  unfold cutW
  rw [HT.sIx_nat, HT.sIx_nat, Nat.min_eq_left hb, Nat.min_eq_left (by omega)]
def rowN : Nat → Nat → List Int
  | 0, _ => []
  | w + 1, x => rowN w (x / 2) ++ [((x % 2 : Nat) : Int)]
theorem nb {E : Sem} {fr : Fr} {st : Sto} (h : E fr st = .ok (.bl true) st) : bNot (bOf E) fr st = .ok false st := by
  simp only [x_bNot, x_bOf, h, Out.bind_ok]; rfl
theorem lc_fm {α : Type} {x : W} {all : List W} {g : TgF} {t : SemB} {e : Sem} {fr : Fr} {h : α → W} {p : α → Bool} {f : α → W} {st : Sto} (hs : srcOk x all st) : ∀ l : List α, (∀ a ∈ l, ∃ fr1, g (h a) fr st = some fr1 ∧ t fr1 st = .ok (p a) st ∧ (p a = true → e fr1 st = .ok (f a) st)) → lcRun x all g t e fr (l.map h) st = .ok ((l.filter p).map f) st
  | [], _ => by rw [List.map_nil]; unfold lcRun; rw [if_pos hs]; rfl
  | a :: r, q => by
    obtain ⟨fr1, h1, h2, h3⟩ := q a List.mem_cons_self
    have ih := lc_fm hs r fun u hu => q u (List.mem_cons_of_mem _ hu)
    rw [List.map_cons]
    unfold lcRun
    rw [if_pos hs, h1]
    cases e : p a with
    | true => simp only [h2, e, h3 e, ih, List.filter_cons, if_true, List.map_cons]
    | false => simp only [h2, e, ih, List.filter_cons]; rfl
theorem lc_mp {α : Type} {x : W} {all : List W} {g : TgF} {t : SemB} {e : Sem} {fr : Fr} {h : α → W} {f : α → W} {st : Sto} (hs : srcOk x all st) (l : List α) (q : ∀ a ∈ l, ∃ fr1, g (h a) fr st = some fr1 ∧ t fr1 st = .ok true st ∧ e fr1 st = .ok (f a) st) : lcRun x all g t e fr (l.map h) st = .ok (l.map f) st := by
  have z := lc_fm (p := fun _ => true) (f := f) hs l fun a ha => by
    obtain ⟨fr1, h1, h2, h3⟩ := q a ha
    exact ⟨fr1, h1, h2, fun _ => h3⟩
  rw [z, List.filter_eq_self.mpr fun _ _ => rfl]
section
variable {cs : List Nat} {n : Nat} {P : List (List Int)} {s t : List Int} {st : Sto}
end
section
variable {cs : List Nat} {n : Nat} {P : List (List Int)} {s t r : List Int} {st : Sto}
end
section
variable {cs : List Nat} {n : Nat} {P : List (List Int)} {s t r : List Int} {st : Sto}
end
section
variable {ns : List Int} {cs : List Nat} {n : Nat} {P : List (List Int)} {s t : List Int}
end
section
variable {st : Sto} {x y r1 r2 rows : W} {cs cs2 : List Nat} {n n2 : Nat} {P P2 : List (List Int)} {s t s2 t2 : List Int}
end
section
variable {cs : List Nat} {P : List (List Int)} {S : Sto} {m : Nat}
end
section
variable {st : Sto} {x rows : W} {cs : List Nat} {n : Nat} {P : List (List Int)} {s t : List Int}
end
def keyI (l : List Int) : KeyL := l.map Sum.inl
theorem keysW_bits : ∀ l : List Int, keysW (l.map W.int) = some (keyI l)
  | [] => rfl
  | a :: l => by
    rw [List.map_cons]
    unfold keysW
    rw [keysW_bits l]; rfl
theorem keyT_bits (l : List Int) : keyT (bits l) = some (keyI l) := keysW_bits l
theorem keyI_eq : ∀ {a b : List Int}, keyI a = keyI b ↔ a = b
  | [], [] => ⟨fun _ => rfl, fun _ => rfl⟩
  | [], b :: l => ⟨(fun h => by cases h), (fun h => by cases h)⟩
  | a :: l, [] => ⟨(fun h => by cases h), (fun h => by cases h)⟩
  | a :: l, b :: m => by
    constructor
    · intro h
      have h' : (Sum.inl a : Key) :: keyI l = Sum.inl b :: keyI m := h
      injection h' with h1 h2
      rw [Sum.inl.inj h1, keyI_eq.mp h2]
    · intro h; rw [h]
theorem dctT_cell {st : Sto} {n : Nat} : dctT st (.cell n) = match st[n]? with
    | some (.dct ks ws) => (match kindW ks with
      | some (_, .inr kk) => some (kk, ws)
      | _ => none)
    | _ => none := rfl
abbrev Wc := List (List Int × W)
def wget (d : Wc) (k : List Int) : Option W := (d.find? fun p => decide (p.1 = k)).map (·.2)
def wC (d : Wc) : Cel := .dct (.ty "T" :: d.map fun p => bits p.1) (d.map (·.2))
theorem mapO_W : ∀ d : Wc, mapO keyT (d.map fun p => bits p.1) = some (d.map fun p => keyI p.1)
  | [] => rfl
  | p :: d => by rw [List.map_cons, mapO, mapO_W d, keyT_bits]; rfl
theorem val_W (k : List Int) : ∀ d : Wc, valT ((d.map fun p => keyI p.1).zip (d.map (·.2))) (keyI k) = wget d k
  | [] => rfl
  | p :: d => by
    have ih := val_W k d
    show (((keyI p.1, p.2) :: (d.map fun p => keyI p.1).zip (d.map (·.2))).find? _).map _ = _
    unfold valT at ih
    unfold wget at ih ⊢
    by_cases e : p.1 = k
    · rw [List.find?_cons_of_pos (by simp [e]), List.find?_cons_of_pos (by simp [e])]; rfl
    · rw [List.find?_cons_of_neg (by simpa using fun z => e (keyI_eq.mp z)), List.find?_cons_of_neg (by simpa using e)]; exact ih
theorem wget_ok {st : Sto} {n : Nat} {d : Wc} {k : List Int} {v : W} (h : st[n]? = some (wC d)) (hv : wget d k = some v) : oTGet (.cell n) (bits k) st = .ok v st := by
  have a : dctT st (.cell n) = some ((d.map fun p => keyI p.1), (d.map fun p : List Int × W => p.2)) := by
    rw [dctT_cell, h]
    show (match kindW (.ty "T" :: d.map fun p => bits p.1) with | some (_, .inr kk) => some (kk, (d.map fun p : List Int × W => p.2)) | _ => none) = _
    rw [kind_T1 (mapO_W d)]
  unfold oTGet
  rw [a, keyT_bits]
  show (match valT ((d.map fun p => keyI p.1).zip (d.map fun p : List Int × W => p.2)) (keyI k) with | some w => Out.ok w st | none => .bad) = _
  rw [val_W, hv]
def wLk (d : Wc) : Cel := .dct (.ty "TL" :: d.map fun p => bits p.1) (d.map fun p : List Int × W => p.2)
theorem keysW_at {i n : Nat} {d : Wc} {fr : Fr} {st : Sto} (hf : fr[i]? = some (some (.cell n))) (hn : st[n]? = some (wLk d)) (hl : d.length ≤ 1000) : iKeysT i fr st = .ok (.non, d.map fun p => bits p.1) st := by
  have e : iKeysT i fr st = (if "TL" = "TL" then (match mapO keyT (d.map fun p => bits p.1) with | some _ => if (d.map fun p => bits p.1).length ≤ LINE then Out.ok (W.non, d.map fun p => bits p.1) st else .bad | none => .bad) else .bad) := by
    unfold iKeysT
    simp only [hf, hn]
    rfl
  rw [e, if_pos rfl, mapO_W]
  show (if (d.map fun p => bits p.1).length ≤ LINE then Out.ok (W.non, d.map fun p => bits p.1) st else .bad) = _
  rw [if_pos (by rw [List.length_map]; unfold LINE; omega)]
theorem unlkW {n : Nat} {d : Wc} {st : Sto} (hu : st[n]? = some (wLk d)) : unlkT n st = some (st.set n (wC d)) := by
  unfold unlkT
  rw [hu]
  show (if "TL" = "TL" then (match mapO keyT (d.map fun p => bits p.1) with | some _ => some (st.set n (.dct (.ty "T" :: d.map fun p => bits p.1) (d.map fun p : List Int × W => p.2))) | none => none) else none) = _
  rw [if_pos rfl, mapO_W]; rfl
theorem setW_back {α : Type} {n : Nat} {st : List α} {c d : α} (hn : st[n]? = some c) : (st.set n d).set n c = st := by
  have hlt : n < st.length := (List.getElem?_eq_some_iff.mp hn).1
  rw [List.set_set]
  apply List.ext_getElem?
  intro j
  by_cases e : n = j
  · subst e; rw [List.getElem?_set_self hlt, hn]
  · rw [List.getElem?_set_ne e]
theorem lockW {i n : Nat} {d : Wc} {s : SSem} {fr fr2 : Fr} {st : Sto} (hf : fr[i]? = some (some (.cell n))) (hn : st[n]? = some (wC d)) (h : s fr (st.set n (wLk d)) = .nx fr2 (st.set n (wLk d))) : sLockT i s fr st = .nx fr2 st := by
  have hlt : n < st.length := (List.getElem?_eq_some_iff.mp hn).1
  have e : sLockT i s fr st = (if "T" = "T" then (match mapO keyT (d.map fun p => bits p.1) with | some _ => unlTS n (s fr (st.set n (wLk d))) | none => .bad) else s fr st) := by
    unfold sLockT
    simp only [hf, hn]
    rfl
  rw [e, if_pos rfl, mapO_W]
  show unlTS n (s fr (st.set n (wLk d))) = _
  rw [h]
  show (match unlkT n (st.set n (wLk d)) with | some st3 => SOut.nx fr2 st3 | none => .bad) = _
  rw [unlkW (List.getElem?_set_self hlt), setW_back hn]
theorem lockEW {i n : Nat} {d : Wc} {e : Sem} {fr : Fr} {st : Sto} {w : W} (hf : fr[i]? = some (some (.cell n))) (hn : st[n]? = some (wC d)) (h : e fr (st.set n (wLk d)) = .ok w (st.set n (wLk d))) : eLockT i e fr st = .ok w st := by
  have hlt : n < st.length := (List.getElem?_eq_some_iff.mp hn).1
  have e1' : eLockT i e fr st = (if "T" = "T" then (match mapO keyT (d.map fun p => bits p.1) with | some _ => unlTE n (e fr (st.set n (wLk d))) | none => .bad) else e fr st) := by
    unfold eLockT
    simp only [hf, hn]
    rfl
  rw [e1', if_pos rfl, mapO_W]
  show unlTE n (e fr (st.set n (wLk d))) = _
  rw [h]
  show (match unlkT n (st.set n (wLk d)) with | some st3 => Out.ok w st3 | none => .bad) = _
  rw [unlkW (List.getElem?_set_self hlt), setW_back hn]
theorem wget_lk {st : Sto} {n : Nat} {d : Wc} {k : List Int} {v : W} (h : st[n]? = some (wLk d)) (hv : wget d k = some v) : oTGet (.cell n) (bits k) st = .ok v st := by
  have a : dctT st (.cell n) = some ((d.map fun p => keyI p.1), (d.map fun p : List Int × W => p.2)) := by
    rw [dctT_cell, h]
    show (match kindW (.ty "TL" :: d.map fun p => bits p.1) with | some (_, .inr kk) => some (kk, (d.map fun p : List Int × W => p.2)) | _ => none) = _
    rw [kind_TL (mapO_W d)]
  unfold oTGet
  rw [a, keyT_bits]
  show (match valT ((d.map fun p => keyI p.1).zip (d.map fun p : List Int × W => p.2)) (keyI k) with | some w => Out.ok w st | none => .bad) = _
  rw [val_W, hv]
theorem wget_mem {d : Wc} (nd : (d.map (·.1)).Nodup) {p : List Int × W} (h : p ∈ d) : wget d p.1 = some p.2 := by
  induction d with
  | nil => cases h
  | cons q d ih =>
    rw [List.map_cons, List.nodup_cons] at nd
    unfold wget
    rcases List.mem_cons.mp h with rfl | h
    · rw [List.find?_cons_of_pos (by simp)]; rfl
    · have ne : q.1 ≠ p.1 := fun e => nd.1 (by rw [e]; exact List.mem_map_of_mem h)
      rw [List.find?_cons_of_neg (by simpa using ne)]
      exact ih nd.2 h
/-- start, stop or a sign -/
def MkOk (z : Str) : Prop := z = "start" ∨ z = "stop" ∨ ∃ c, okC c ∧ z = sg c
/-- rows of one width with their marks -/
structure KnOk (w : Nat) (d : Wc) : Prop where
  w1 : 1 ≤ w ∧ w ≤ 6
  len : d.length ≤ 100
  row : ∀ p ∈ d, p.1.length = w ∧ Bits p.1
  mark : ∀ p ∈ d, ∃ z, MkOk z ∧ p.2 = .str z
  nd : (d.map (·.1)).Nodup
theorem in_two {z : Str} {st : Sto} : oIn (.str z) (.tup [.str "start", .str "stop"]) st = .ok (.bl (eqF (.str "start") (.str z) || (eqF (.str "stop") (.str z) || false))) st := rfl
theorem is_mark_ok {z : Str} {st : Sto} (h : MkOk z) : F_is_mark [.str z] st = .ok (.bl true) st := by
  refine mk_rt (st1 := st) ?_ rfl
  show B_is_mark [some (.str z)] st = _
  have tp : oTup [.str "start", .str "stop"] st = .ok (.tup [.str "start", .str "stop"]) st := x_tup (by decide)
  unfold B_is_mark
  refine if_no (st1 := st) (st2 := st) (by simp only [x_bNot, x_bOf, x_N, x_aCons, x_aNil, x_var, x_c, fg0, Out.bind_ok, isi_str, tyN_str, Bool.and_self, if_true, subT_str_str, Bool.not_true]) rfl ?_
  rcases h with rfl | rfl | ⟨c, hc, rfl⟩
  · have e : (eqF (.str "start") (.str "start") || (eqF (.str "stop") (.str "start") || false)) = true := by decide +kernel
    simp only [x_ret, x_or, x_2, x_N, x_aCons, x_aNil, x_var, x_c, fg0, Out.bind_ok, tp, in_two, e, if_true, Out.stm_ok]
  · have e : (eqF (.str "start") (.str "stop") || (eqF (.str "stop") (.str "stop") || false)) = true := by decide +kernel
    simp only [x_ret, x_or, x_2, x_N, x_aCons, x_aNil, x_var, x_c, fg0, Out.bind_ok, tp, in_two, e, if_true, Out.stm_ok]
  · have e : oIn (.str (sg c)) (.str "0123456789abcdefghijklmnopqrstuvwxyz") st = .ok (.bl true) st := by
      show Out.ok (W.bl (decide (c ∈ SGN.cps.toList))) st = _
      rw [decide_eq_true (show c ∈ SGN.cps.toList from hc)]
    have l : oLen [.str (sg c)] st = .ok (.int 1) st := rfl
    cases hb : (eqF (.str "start") (.str (sg c)) || (eqF (.str "stop") (.str (sg c)) || false)) with
    | true => simp only [x_ret, x_or, x_2, x_N, x_aCons, x_aNil, x_var, x_c, fg0, Out.bind_ok, tp, in_two, hb, if_true, Out.stm_ok]
    | false => simp only [x_ret, x_or, x_and, x_2, x_N, x_aCons, x_aNil, x_var, x_c, fg0, Out.bind_ok, tp, in_two, hb, Bool.false_eq_true, if_false, l, x_eqI, decide_true, if_true, e, Out.stm_ok]
theorem are_marks_ok {w n : Nat} {d : Wc} {st : Sto} (K : KnOk w d) (hn : st[n]? = some (wC d)) : F_are_marks [.cell n, .int (w : Nat)] st = .ok (.bl true) st := by
  have hlt : n < st.length := (List.getElem?_eq_some_iff.mp hn).1
  have hL : (st.set n (wLk d))[n]? = some (wLk d) := List.getElem?_set_self hlt
  have len := K.len
  have loop : ∃ u, sFor (iKeysT 0) (gNm 2) (sIf (bOr (bNot (bOf (eCall F_is_row (aCons (eVar 2) (aNil))))) (bOr (bOf (e2 oNe (eN oLen (aCons (eVar 2) (aNil))) (eVar 1))) (bNot (bOf (eCall F_is_mark (aCons (e2 oTGet (eVar 0) (eVar 2)) (aNil))))))) (sRet (eC (.bl false))) (sNil)) [some (.cell n), some (.int (w : Nat)), none] (st.set n (wLk d)) = .nx [some (.cell n), some (.int (w : Nat)), u] (st.set n (wLk d)) := by
    obtain ⟨fr', st', e1, u, efr, est⟩ := x_for (f := iKeysT 0) (g := gNm 2) (b := sIf (bOr (bNot (bOf (eCall F_is_row (aCons (eVar 2) (aNil))))) (bOr (bOf (e2 oNe (eN oLen (aCons (eVar 2) (aNil))) (eVar 1))) (bNot (bOf (eCall F_is_mark (aCons (e2 oTGet (eVar 0) (eVar 2)) (aNil))))))) (sRet (eC (.bl false))) (sNil)) (fr := [some (.cell n), some (.int (w : Nat)), none]) (st := st.set n (wLk d)) (st1 := st.set n (wLk d)) (x := .non) (all := d.map fun p => bits p.1) (keysW_at rfl hL (by omega))
      (fun i fr T => ∃ u, fr = [some (.cell n), some (.int (w : Nat)), u] ∧ T = st.set n (wLk d)) ⟨_, rfl, rfl⟩ (fun _ _ _ _ => trivial) (by
        rintro i fr T v ⟨u, rfl, rfl⟩ hv
        rw [List.getElem?_map] at hv
        obtain ⟨p, hp, rfl⟩ := Option.map_eq_some_iff.mp hv
        have pm := List.mem_of_getElem? hp
        obtain ⟨pl, pb⟩ := K.row p pm
        obtain ⟨z, zk, pz⟩ := K.mark p pm
        have r1 := is_row_ok (st := st.set n (wLk d)) (bits_ok p.1)
        rw [bits_row pb] at r1
        have g := wget_lk hL (wget_mem K.nd pm)
        rw [pz] at g
        have mk := is_mark_ok (st := st.set n (wLk d)) zk
        have ol : oLen [bits p.1] (st.set n (wLk d)) = .ok (.int (w : Nat)) (st.set n (wLk d)) := by show oLen [.tup _] _ = _; rw [x_len_tup, List.length_map, pl]
        refine ⟨[some (.cell n), some (.int (w : Nat)), some (bits p.1)], [some (.cell n), some (.int (w : Nat)), some (bits p.1)], st.set n (wLk d), rfl, .inl ?_, _, rfl, rfl⟩
        simp only [x_if, x_bOr, x_bNot, x_bOf, x_call, x_2, x_N, x_aCons, x_aNil, x_var, fg0, fg1, fg2, Out.bind_ok, r1, Bool.not_true, Bool.false_eq_true, if_false, ol, x_neI, decide_true, g, mk, Out.stm_ok, x_nil])
    rw [efr, est] at e1
    exact ⟨u, e1⟩
  obtain ⟨u, loop⟩ := loop
  refine mk_rt (st1 := st) ?_ rfl
  show B_are_marks [some (.cell n), some (.int (w : Nat)), none] st = _
  unfold B_are_marks
  have isd : oIsi [.cell n, .ty "dict"] st = .ok (.bl true) st := by
    have ty : tyW st (.cell n) = some "dict" := by
      show (match st[n]? with | some (Cel.lst _) => some "list" | some (.dct ks _) => if tlK ks = true then none else some "dict" | some (.frz (.lst _)) => some "list" | some (.frz (.tup _)) => some "tuple" | _ => none) = _
      rw [hn]; rfl
    rw [oIsi_eq ty tyN_dict tyN_dict, subT_dict_dict]
  refine if_no (st1 := st) (st2 := st) (by simp only [x_bNot, x_bOf, x_N, x_aCons, x_aNil, x_var, x_c, fg0, Out.bind_ok, isd, Bool.not_true]) rfl ?_
  refine seq_to (lockW rfl hn loop) ?_
  rfl
theorem sortT_bits {L : List (List Int)} {w : Nat} (h1 : 1 ≤ w) (h : ∀ l ∈ L, l.length = w ∧ Bits l) {st : Sto} : oSortT [.lst (L.map bits)] st = .ok (.lst ((sortT L).map bits)) st := by
  show (match (some (L.map bits)).bind tupsI with
    | some L => if dec (∃ (d : Nat) (B : Int), 1 ≤ d ∧ ∀ l ∈ (L : List (List Int)), l.length = d ∧ TS.Bd B l) = true then Out.ok (W.lst ((sortT L).map fun (l : List Int) => W.tup (l.map W.int))) st else .bad
    | none => .bad) = _
  rw [Option.bind_some, show tupsI (L.map bits) = some L from tups_bits]
  have g : ∃ (d : Nat) (B : Int), 1 ≤ d ∧ ∀ l ∈ L, l.length = d ∧ TS.Bd B l := ⟨w, 2, h1, fun l hl => ⟨(h l hl).1, fun m hm => by
    rcases (h l hl).2 m hm with e | e <;> rw [e] <;> omega⟩⟩
  show (if dec _ = true then _ else _) = _
  rw [if_pos (dec_mk g)]
  rfl
/-- the marks by ascending rows -/
def srtW (d : Wc) : Wc := (sortT (d.map (·.1))).map fun r => (r, (wget d r).getD .non)
def rdNs : List Str := ["width", "known"]
theorem reader_init {w n : Nat} {d : Wc} {st : Sto} (K : KnOk w d) (hn : st[n]? = some (wC d)) (ho : st.all (oldW (st.length + 1)) = true) :
    F_Reader___init__ [.cell st.length, .int (w : Nat), .cell n] (st ++ [.ins "Reader" [] []]) = .ok .non (st ++ [.ins "Reader" rdNs [.int (w : Nat), .cell (st.length + 1)], wC (srtW d)]) := by
  have hlt : n < st.length := (List.getElem?_eq_some_iff.mp hn).1
  have hN : ∀ r : Sto, (st ++ r)[n]? = some (wC d) := fun r => by rw [List.getElem?_append_left hlt]; exact hn
  have am := are_marks_ok (st := st ++ [.ins "Reader" [] []]) K (hN _)
  have bt : F_is_between_readers [.int (w : Nat), .int 1, .int 6] (st ++ [.ins "Reader" [] []]) = .ok (.bl true) (st ++ [.ins "Reader" [] []]) := by
    obtain ⟨w1, w6⟩ := K.w1
    refine mk_rt (st1 := st ++ [.ins "Reader" [] []]) ?_ rfl
    show B_is_between_readers [some (.int (w : Nat)), some (.int 1), some (.int 6)] _ = _
    unfold B_is_between_readers
    have e1 : decide ((1 : Int) ≤ (w : Nat)) = true := decide_eq_true (by omega)
    have e2 : decide (((w : Nat) : Int) ≤ 6) = true := decide_eq_true (by omega)
    simp [e1, e2]
  have main : ∃ fr, B_Reader___init__ [some (.cell st.length), some (.int (w : Nat)), some (.cell n), none] (st ++ [.ins "Reader" [] []]) = .nx fr (st ++ [.ins "Reader" rdNs [.int (w : Nat), .cell (st.length + 1)], wC (srtW d)]) := by
    unfold B_Reader___init__
    refine ⟨[some (.cell st.length), some (.int (w : Nat)), some (.cell n), none], ?_⟩
    refine if_no (st1 := st ++ [.ins "Reader" [] []]) (st2 := st ++ [.ins "Reader" [] []]) (by simp only [x_bNot, x_bOf, x_call, x_aCons, x_aNil, x_var, x_c, fg1, Out.bind_ok, bt, Bool.not_true]) rfl ?_
    refine if_no (st1 := st ++ [.ins "Reader" [] []]) (st2 := st ++ [.ins "Reader" [] []]) (by simp only [x_bNot, x_bOf, x_call, x_aCons, x_aNil, x_var, x_c, fg1, fg2, Out.bind_ok, am, Bool.not_true]) rfl ?_
    have s1 : sFldS ["Reader"] "width" (eVar 1) (eVar 0) [some (.cell st.length), some (.int (w : Nat)), some (.cell n), none] (st ++ [.ins "Reader" [] []]) = .nx [some (.cell st.length), some (.int (w : Nat)), some (.cell n), none] (st ++ [.ins "Reader" ["width"] [.int (w : Nat)]]) := by
      unfold sFldS
      simp only [x_var, fg0, fg1, Out.stm_ok, at_end]
      rw [if_pos ⟨rfl, by decide⟩, set_end]; rfl
    refine seq_to s1 ?_
    have lc : eLockT 2 (eLc (iKeysT 2) (gNm 3) [3] (tTrue) (eVar 3)) [some (.cell st.length), some (.int (w : Nat)), some (.cell n), none] (st ++ [.ins "Reader" ["width"] [.int (w : Nat)]]) = .ok (.lst ((d.map (·.1)).map bits)) (st ++ [.ins "Reader" ["width"] [.int (w : Nat)]]) := by
      refine lockEW rfl (hN _) ?_
      have hl2 : n < (st ++ [Cel.ins "Reader" ["width"] [.int (w : Nat)]]).length := by rw [List.length_append]; omega
      refine x_lc (x := .non) (all := d.map fun p => bits p.1) (keysW_at rfl (List.getElem?_set_self hl2) (by have := K.len; omega)) ?_
      rw [List.map_map]
      exact lc_mp (x := .non) trivial d fun p hp => ⟨[some (.cell st.length), some (.int (w : Nat)), some (.cell n), some (bits p.1)], rfl, rfl, rfl⟩
    have so := sortT_bits (L := d.map (·.1)) K.w1.1 (fun l hl => by
      obtain ⟨p, hp, rfl⟩ := List.mem_map.mp hl
      exact K.row p hp) (st := st ++ [.ins "Reader" ["width"] [.int (w : Nat)]])
    have pm : (sortT (d.map (·.1))).Perm (d.map (·.1)) := List.mergeSort_perm _ _
    have dc : (eDcT (iSeq (eN oSortT (aCons (eLockT 2 (eLc (iKeysT 2) (gNm 3) [3] (tTrue) (eVar 3))) (aNil)))) (gNm 3) [3] tTrue (eVar 3) (e2 oTGet (eVar 2) (eVar 3))) [some (.cell st.length), some (.int (w : Nat)), some (.cell n), none] (st ++ [.ins "Reader" ["width"] [.int (w : Nat)]]) = .ok (.cell (st.length + 1)) (st ++ [.ins "Reader" ["width"] [.int (w : Nat)], wC (srtW d)]) := by
      have run := dc_mp (x := .lst ((sortT (d.map (·.1))).map bits)) (all := (sortT (d.map (·.1))).map bits) (g := gNm 3) (t := tTrue) (ek := eVar 3) (ev := e2 oTGet (eVar 2) (eVar 3)) (fr := [some (.cell st.length), some (.int (w : Nat)), some (.cell n), none]) (h := bits) (kf := bits) (vf := fun r => (wget d r).getD .non) (st := st ++ [.ins "Reader" ["width"] [.int (w : Nat)]]) (src_free (by intro k e; cases e)) (sortT (d.map (·.1))) (fun r hr => by
        obtain ⟨p, hp, rfl⟩ := List.mem_map.mp (pm.mem_iff.mp hr)
        have g := wget_mem K.nd hp
        refine ⟨[some (.cell st.length), some (.int (w : Nat)), some (.cell n), some (bits p.1)], rfl, rfl, rfl, ?_⟩
        rw [g]
        simp only [x_2, x_var, fg2, fg3, Out.bind_ok, wget_ok (hN _) g]
        rfl)
      have e := x_dcT (f := iSeq (eN oSortT (aCons (eLockT 2 (eLc (iKeysT 2) (gNm 3) [3] (tTrue) (eVar 3))) (aNil)))) (own := [3]) (fr := [some (.cell st.length), some (.int (w : Nat)), some (.cell n), none]) (st := st ++ [.ins "Reader" ["width"] [.int (w : Nat)]]) (st1 := st ++ [.ins "Reader" ["width"] [.int (w : Nat)]]) (x := .lst ((sortT (d.map (·.1))).map bits)) (all := (sortT (d.map (·.1))).map bits) (by simp only [x_iSeq, x_N, x_aCons, lc, x_aNil, Out.bind_ok, so, x_it_lst]) run (kk := (sortT (d.map (·.1))).map keyI) ?_ ?_
      · rw [e, List.map_map, List.map_map, List.append_assoc]
        have l1 : (st ++ [Cel.ins "Reader" ["width"] [.int (w : Nat)]]).length = st.length + 1 := by rw [List.length_append]; rfl
        rw [l1]
        unfold wC srtW
        rw [List.map_map, List.map_map]
        rfl
      · rw [List.map_map]
        have := mapO_W (srtW d)
        unfold srtW at this
        rw [List.map_map, List.map_map] at this
        exact this
      · have nd : (sortT (d.map (·.1))).Nodup := pm.nodup_iff.mpr K.nd
        rw [List.nodup_iff_pairwise_ne] at nd ⊢
        rw [List.pairwise_map]
        exact nd.imp fun hne e => hne (keyI_eq.mp e)
    unfold sFldS
    rw [dc, Out.stm_ok]
    simp only [x_var, fg0, Out.stm_ok, at_end]
    rw [if_pos ⟨rfl, by decide⟩]
    simp
    exact ⟨rfl, rfl⟩
  obtain ⟨fr, hm⟩ := main
  show (match B_Reader___init__ [some (.cell st.length), some (.int (w : Nat)), some (.cell n), none] (st ++ [.ins "Reader" [] []]) with | .nx _ st1 => Out.ok W.non st1 | .rt w st1 => .ok w st1 | .er x _ st1 => .err x st1 | _ => .bad) = _
  rw [hm]
def kndW (d : Wc) : W := .dct (.ty "T" :: d.map fun p => bits p.1) (d.map fun p : List Int × W => p.2)
def rdr (w : Nat) (d : Wc) : W := .ins "Reader" rdNs [.int (w : Nat), kndW d]
/-- all values are texts -/
def TxV (d : Wc) : Prop := ∀ p ∈ d, ∃ z, p.2 = .str z
theorem fz_tx {d : Wc} (h : TxV d) (n : Nat) (f : Nat → Option W) : fz0s n f (d.map fun p : List Int × W => p.2) = some (d.map fun p : List Int × W => p.2) := by
  induction d with
  | nil => rfl
  | cons p d ih =>
    obtain ⟨z, hz⟩ := h p List.mem_cons_self
    rw [List.map_cons, fz0s, ih fun q hq => h q (List.mem_cons_of_mem _ hq), hz]; rfl
theorem srt_tx {w : Nat} {d : Wc} (K : KnOk w d) : TxV (srtW d) := fun p hp => by
  obtain ⟨r, hr, rfl⟩ := List.mem_map.mp hp
  have pm : (sortT (d.map (·.1))).Perm (d.map (·.1)) := List.mergeSort_perm _ _
  obtain ⟨q, hq, rfl⟩ := List.mem_map.mp (pm.mem_iff.mp hr)
  obtain ⟨z, _, e⟩ := K.mark q hq
  exact ⟨z, by rw [wget_mem K.nd hq, e]; rfl⟩
theorem reader_make {w n : Nat} {d : Wc} {st st0 : Sto} {f : SemL} {fr : Fr} (hf : f fr st0 = .ok [.int (w : Nat), .cell n] st) (K : KnOk w d) (hn : st[n]? = some (wC d)) (ho : ∀ m, st.all (oldW m) = true) :
    eMake "Reader" F_Reader___init__ f fr st0 = .ok (rdr w (srtW d)) st := by
  unfold eMake eMakeG
  rw [hf, Out.bind_ok]
  have hi' : F_Reader___init__ (.cell st.length :: [.int (w : Nat), .cell n]) (st ++ [.ins "Reader" [] []]) = _ := reader_init K hn (ho _)
  rw [hi']
  have tx := srt_tx K
  revert tx
  generalize srtW d = D
  intro tx
  obtain ⟨J, hJ⟩ : ∃ J : Cel, J = .ins "Reader" rdNs [.int (w : Nat), .cell (st.length + 1)] := ⟨_, rfl⟩
  rw [← hJ]
  show leave st.length (.cell st.length) (st ++ [J, wC D]) = _
  unfold leave
  rw [if_neg (by simp)]
  have e : fz0 st.length (fzc st.length (st ++ [J, wC D]) ((st ++ [J, wC D]).length + 1)) (.cell st.length) = some (rdr w D) := by
    have hl : (st ++ [J, wC D]).length = st.length + 2 := by rw [List.length_append]; rfl
    rw [hl]
    unfold fz0
    rw [if_neg (Nat.lt_irrefl _)]
    have c1 : ∀ m, fzc st.length (st ++ [J, wC D]) (m + 1) (st.length + 1) = some (kndW D) := fun m => by
      unfold fzc; simp only [at_end1]
      show (fz0s st.length _ (D.map fun p : List Int × W => p.2)).map (W.dct (.ty "T" :: D.map fun p => bits p.1)) = _
      rw [fz_tx tx]; rfl
    rw [show st.length + 2 + 1 = (st.length + 1 + 1) + 1 by omega]
    unfold fzc
    simp only [at_end, hJ]
    rw [hJ] at c1
    have c2 := c1 st.length
    simp only [fz0s, fz0, if_neg (show ¬ st.length + 1 < st.length by omega), c1]
    rfl
  rw [e]
  simp only [List.take_left, ho, if_true]
section
variable {st : Sto} {x rows : W} {cs : List Nat} {n : Nat} {P : List (List Int)} {s t : List Int}
theorem putW_new {S : Sto} {m : Nat} {d : Wc} {r : List Int} {w : W} (hm : S[m]? = some (wC d)) (h : r ∉ d.map (·.1)) (hl : d.length < 1000) : uDctT (.cell m) (bits r) w S = some (S.set m (wC (d ++ [(r, w)]))) := by
  have e : uDctT (.cell m) (bits r) w S = (match mapO keyT (d.map fun p => bits p.1), keyT (bits r) with
      | some kk, some j => if (d.map fun p => bits p.1).length < LINE then (if (kk.any fun i => decide (i = j)) = true then some (S.set m (.dct (.ty "T" :: d.map fun p => bits p.1) (putT kk (d.map fun p : List Int × W => p.2) j w))) else some (S.set m (.dct (.ty "T" :: ((d.map fun p => bits p.1) ++ [bits r])) ((d.map fun p : List Int × W => p.2) ++ [w])))) else none
      | _, _ => none) := by
    have g : S[m]? = some (.dct (.ty "T" :: d.map fun p => bits p.1) (d.map fun p : List Int × W => p.2)) := hm
    unfold uDctT
    simp only [g]
    rfl
  rw [e, mapO_W, keyT_bits]
  have na : ¬ ((d.map fun p => keyI p.1).any fun i => decide (i = keyI r)) = true := by
    rw [List.any_eq_true]
    rintro ⟨k, hk, q⟩
    obtain ⟨p, hp, rfl⟩ := List.mem_map.mp hk
    exact h (List.mem_map.mpr ⟨p, hp, keyI_eq.mp (by simpa using q)⟩)
  show (if _ then (if _ then _ else _) else _) = _
  rw [if_pos (by rw [List.length_map]; unfold LINE; omega), if_neg na]
  unfold wC
  rw [List.map_append, List.map_append]
  rfl
end
section
variable {st : Sto} {x rows : W} {cs : List Nat} {n : Nat} {P : List (List Int)} {s t : List Int}
theorem fz_rdr {w : Nat} {d : Wc} (h : TxV d) (n : Nat) (f : Nat → Option W) : fz0 n f (rdr w d) = some (rdr w d) := by
  unfold rdr kndW
  simp only [fz0, fz0s, fz_tx h]
  rfl
end
/-- the mark that a reader tells of a row -/
def mkOf (d : Wc) (r : List Int) : W := (wget d r).getD .non
theorem get1_ok {d : Wc} {r : List Int} {w : Nat} {f g : Sem} {fr : Fr} {st : Sto} (hf : f fr st = .ok (kndW d) st) (hg : g fr st = .ok (bits r) st) : eTGet1 f g fr st = .ok (mkOf d r) st := by
  have a : dctT st (kndW d) = some ((d.map fun p => keyI p.1), (d.map fun p : List Int × W => p.2)) := by
    show (match kindW (.ty "T" :: d.map fun p => bits p.1) with | some (_, .inr kk) => some (kk, (d.map fun p : List Int × W => p.2)) | _ => none) = _
    rw [kind_T1 (mapO_W d)]
  unfold eTGet1
  rw [hf, Out.bind_ok]
  simp only [a, Option.isSome_some, if_true, hg, Out.bind_ok, keyT_bits]
  unfold mkOf
  rw [← val_W]
section
variable {ns : List Int} {p b n s v : Int} {r : Sto}
end
def bgW (a b k : Int) : Cel := .lst [.int a, .int b, .int k]
section
variable {a b k v : Int} {r : Sto}
@[simp] theorem bg0 : oIx (.cell 0) (.int 0) (bgW a b k :: r) = .ok (.int a) (bgW a b k :: r) := rfl
@[simp] theorem bg1 : oIx (.cell 0) (.int 1) (bgW a b k :: r) = .ok (.int b) (bgW a b k :: r) := rfl
@[simp] theorem bg2 : oIx (.cell 0) (.int 2) (bgW a b k :: r) = .ok (.int k) (bgW a b k :: r) := rfl
@[simp] theorem bs0 : uLst (.cell 0) (.int 0) (.int v) (bgW a b k :: r) = some (bgW v b k :: r) := rfl
@[simp] theorem bs2 : uLst (.cell 0) (.int 2) (.int v) (bgW a b k :: r) = some (bgW a b v :: r) := rfl
end
def Bag (c : Cel) : Prop := ∃ a b k, c = bgW a b k
theorem bag_old {c : Cel} {n : Nat} (h : Bag c) : oldW n c = true := by
  obtain ⟨a, b, k, rfl⟩ := h; rfl
theorem alike_items {d : Nat} {ws : List W} {st : Sto} {c : List W → W} (hc : c = W.tup ∨ c = W.lst) (hn : ws.length ≤ 1000000) (ih : ∀ w ∈ ws, F_law_alike d [w, w] st = .ok (.bl true) st) : (eLc (iRng rg1 (aCons (eN oLen (aCons (eVar 1) (aNil))) (aNil))) (gNm 2) [2] (bNot (bOf (eCall ((F_law_alike d)) (aCons (e2 oIx (eVar 0) (eVar 2)) (aCons (e2 oIx (eVar 1) (eVar 2)) (aNil)))))) (eVar 2)) [some (c ws), some (c ws), none] st = .ok (.lst []) st := by
  have hl : oLen [c ws] st = .ok (.int ws.length) st := by rcases hc with rfl | rfl <;> rfl
  refine x_lc (st1 := st) (all := rngW 0 1 ws.length) (x := .non) (x_rng1 (j := ws.length) (by simp [hl]) (by omega) (by omega)) ?_
  rw [lc_filter (x := .non) (p := fun _ => false) (f := id) trivial]
  · rw [nil_all fun _ _ => rfl]
  · intro w hw
    obtain ⟨k, hk, rfl⟩ := rng_mem hw
    have e1 : ws[k]? = some (ws[k]) := by simp [hk]
    have hi : oIx (c ws) (.int ((0 : Int) + (k : Int) * 1)) st = .ok (ws[k]) st := by
      have z : ((0 : Int) + (k : Int) * 1) = k := by omega
      rw [z]
      rcases hc with rfl | rfl
      · exact x_ixT (by omega) (by simp)
      · exact x_ixL (by omega) (by simp)
    refine ⟨_, rfl, ?_, fun z => by cases z⟩
    simp [wipeF] at hi ⊢
    simp [hi, ih _ (List.getElem_mem hk)]
theorem alike_refl : ∀ (d : Nat) (w : W) (st : Sto), okD d w = true → F_law_alike d [w, w] st = .ok (.bl true) st
  | 0, _, _, h => by cases h
  | d + 1, w, st, h => by
    have nb : ∀ b : Bool, oNe (.bl b) (.bl b) st = .ok (.bl false) st := fun b => by cases b <;> rfl
    have ni : ∀ i : Int, oNe (.int i) (.int i) st = .ok (.bl false) st := fun i => by simp
    cases w with
    | non => exact mk_rt (st1 := st) (by simp [B_law_alike, nb]; rfl) rfl
    | bl b => exact mk_rt (st1 := st) (by simp [B_law_alike, nb]) rfl
    | int i => exact mk_rt (st1 := st) (by simp [B_law_alike, nb]) rfl
    | str z => exact mk_rt (st1 := st) (by simp [B_law_alike, nb, eq_str h]) rfl
    | tup ws =>
      have h' : (decide (ws.length ≤ 1000000) && ws.all (okD d)) = true := h
      rw [Bool.and_eq_true] at h'
      have z := alike_items (d := d) (ws := ws) (st := st) (.inl rfl) (of_decide_eq_true h'.1) fun w hw => alike_refl d w st (List.all_eq_true.mp h'.2 w hw)
      refine mk_rt (st1 := st) ?_ rfl
      show B_law_alike (F_law_alike d) [some (.tup ws), some (.tup ws), none] st = _
      unfold B_law_alike
      simp [nb, z]
    | lst ws =>
      have h' : (decide (ws.length ≤ 1000000) && ws.all (okD d)) = true := h
      rw [Bool.and_eq_true] at h'
      have z := alike_items (d := d) (ws := ws) (st := st) (.inr rfl) (of_decide_eq_true h'.1) fun w hw => alike_refl d w st (List.all_eq_true.mp h'.2 w hw)
      refine mk_rt (st1 := st) ?_ rfl
      show B_law_alike (F_law_alike d) [some (.lst ws), some (.lst ws), none] st = _
      unfold B_law_alike
      simp [nb, z]
    | _ => cases h
section
variable {κ : Type} [DecidableEq κ]
end
section
variable {ms : List (List Mv)} {i j a b : Int}
end
section
variable {st : Sto} {n : Nat} {d : Tc}
end
section
variable {ms : List (List Mv)} {x y : List Int} {a : Int} {at_ n : Nat}
end
section
variable {ms : List (List Mv)} {x y : List Int} {a : Int} {at_ n : Nat}
end
section
variable {ms : List (List Mv)} {x y : List Int}
end
section
variable {ms : List (List Mv)} {x y : List Int}
end
section
variable {a c w : W} {S : Sto}
end
def seqR (b : Bool) (xs : List (List Int)) : W := if b = true then .lst (xs.map bits) else .tup (xs.map bits)
theorem eqv_rows : ∀ R : List (List Int), PyData.eqvAll (R.map fun r => .tuple (r.map .int)) (R.map fun r => .tuple (r.map .int)) = true
  | [] => rfl
  | a :: R => by
    show (PyData.eqvAll (a.map .int) (a.map .int) && PyData.eqvAll (R.map fun r => .tuple (r.map .int)) (R.map fun r => .tuple (r.map .int))) = true
    rw [eqv_rows R, eqv_ints]; simp
theorem ne_rows {R : List (List Int)} {S : Sto} : oNe (seqR true R) (seqR true R) S = .ok (.bl false) S := by
  have pR : ∀ R : List (List Int), pdWs (R.map bits) = some (R.map fun r => .tuple (r.map .int)) := fun R => by
    induction R with
    | nil => rfl
    | cons a l ih =>
      have e : pdW (bits a) = some (.tuple (a.map .int)) := by
        show (pdWs (a.map W.int)).map PyData.tuple = _
        rw [pd_ints]; rfl
      rw [List.map_cons, pdWs, ih, e]; rfl
  have lR : ∀ R : List (List Int), PyData.canLayAll0 (R.map fun r => .tuple (r.map .int)) = true ∧ PyData.depthAll (R.map fun r => .tuple (r.map .int)) ≤ 1 := fun R => by
    induction R with
    | nil => exact ⟨rfl, Nat.zero_le _⟩
    | cons a l ih =>
      refine ⟨?_, ?_⟩
      · show (PyData.canLay0 (.tuple (a.map .int)) && _) = true
        rw [ih.1]
        simp only [PyData.canLay0, lay_ints]; rfl
      · show max (PyData.depth (.tuple (a.map .int))) _ ≤ 1
        simp only [PyData.depth, depth_ints]
        omega
  have p2 : pdT S (seqR true R) = some (.list (R.map fun r => .tuple (r.map .int))) := by
    show (pdWs (R.map bits)).map PyData.list = _
    rw [pR]; rfl
  have s2 : SeqAt.shaped (.list (R.map fun r => .tuple (r.map .int))) = true := by
    unfold SeqAt.shaped
    have e1 : PyData.canLay0 (.list (R.map fun r => .tuple (r.map .int))) = true := by simp only [PyData.canLay0]; exact (lR R).1
    have e2 : PyData.depth (.list (R.map fun r => .tuple (r.map .int))) ≤ 64 := by
      have := (lR R).2
      simp only [PyData.depth]; omega
    rw [e1, decide_eq_true e2]; rfl
  have q : PyData.eqv (.list (R.map fun r => .tuple (r.map .int))) (.list (R.map fun r => .tuple (r.map .int))) = true := eqv_rows R
  unfold oNe eqW
  simp only [p2, s2, Bool.and_self, if_true, q]
  rfl

end SL
namespace SL
open PySem PySem.Spec PyProof.Rows L2
/-! ## the bag: a cell at any place -/
section
variable {st : Sto} {n : Nat} {a b k v : Int}
theorem ba0 (h : st[n]? = some (bgW a b k)) : oIx (.cell n) (.int 0) st = .ok (.int a) st := x_ixC h (by decide) rfl
theorem ba1 (h : st[n]? = some (bgW a b k)) : oIx (.cell n) (.int 1) st = .ok (.int b) st := x_ixC h (by decide) rfl
theorem ba2 (h : st[n]? = some (bgW a b k)) : oIx (.cell n) (.int 2) st = .ok (.int k) st := x_ixC h (by decide) rfl
theorem ua0 (h : st[n]? = some (bgW a b k)) : uLst (.cell n) (.int 0) (.int v) st = some (st.set n (bgW v b k)) := by
  rw [x_uLst, h]; rfl
theorem ua2 (h : st[n]? = some (bgW a b k)) : uLst (.cell n) (.int 2) (.int v) st = some (st.set n (bgW a b v)) := by
  rw [x_uLst, h]; rfl
end
theorem pick_at {c : Cel} {n : Nat} {m : Int} (hp : Bag c) (h : 0 < m) (h2 : m.natAbs.log2 < 9000) : ∃ q c', Bag c' ∧ 0 ≤ q ∧ q < m ∧ ∀ st : Sto, st[n]? = some c → F_law_pick [.cell n, .int m] st = .ok (.int q) (st.set n c') := by
  obtain ⟨a, b, k, rfl⟩ := hp
  by_cases ha : 0 < a
  · refine ⟨a % m, bgW (a / m) b k, ⟨_, _, _, rfl⟩, Int.emod_nonneg _ (by omega), Int.emod_lt_of_pos _ h, fun st hs => mk_rt (st1 := st.set n (bgW (a / m) b k)) ?_ (by simp)⟩
    show B_law_pick [some (.cell n), some (.int m), none, none] st = _
    unfold B_law_pick
    simp [ha, x_mod h, x_div h h2, ba0 hs, ua0 hs]
  · generalize hx : ((b + 32452843 * (k + 1)) * 69621) % 2147483647 = x
    generalize hy : (x * (x / 1021 + 48271)) % 2147483647 = y
    generalize hw : (y * (y / 2027 + 40014)) % 2147483563 = z
    have x1 : -(2 ^ 64) < x ∧ x < 2 ^ 64 := by omega
    have y1 : -(2 ^ 64) < y ∧ y < 2 ^ 64 := by
      have := Int.emod_nonneg (x * (x / 1021 + 48271)) (b := 2147483647) (by omega)
      have := Int.emod_lt_of_pos (x * (x / 1021 + 48271)) (b := 2147483647) (by omega)
      omega
    have c1 : mulOk 32452843 (k + 1) = true := by unfold mulOk; rw [Bool.or_eq_true]; exact .inl (dec_mk (.inl (by omega)))
    have c2 : mulOk (b + 32452843 * (k + 1)) 69621 = true := by unfold mulOk; rw [Bool.or_eq_true]; exact .inl (dec_mk (.inr (by omega)))
    refine ⟨(z / 64) % m, bgW a b (k + 1), ⟨_, _, _, rfl⟩, Int.emod_nonneg _ (by omega), Int.emod_lt_of_pos _ h, fun st hs => mk_rt (st1 := st.set n (bgW a b (k + 1))) ?_ (by simp)⟩
    have lt : n < st.length := (List.getElem?_eq_some_iff.mp hs).1
    have hs2 : (st.set n (bgW a b (k + 1)))[n]? = some (bgW a b (k + 1)) := List.getElem?_set_self lt
    show B_law_pick [some (.cell n), some (.int m), none, none] st = _
    unfold B_law_pick
    simp [ha, x_mod h, x_mul c1, x_mul c2, hx, x_mulL x1, hy, x_mulL y1, hw, ba0 hs, ba1 hs, ba2 hs, ua2 hs, ba1 hs2, ba2 hs2]
theorem bag_at (ns : List Int) (j : Nat) (hj : j ≤ 1000) {st : Sto} (ho : ∀ m, st.all (oldW m) = true) : ∃ c, Bag c ∧ F_law_bag [.ro (ns.map W.int), .int (j : Nat)] st = .ok (.cell st.length) (st ++ [c]) := by
  obtain ⟨v, hv⟩ : ∃ v : Int, e2 oIx (e2 oAdd (eSl (eVar 0) (pYes (eVar 1)) (pYes (e2 oAdd (eVar 1) (eC (.int 1))))) (eN oLst (aCons (eC (.int 0)) (aNil)))) (eC (.int 0)) [some (.ro (ns.map W.int)), some (.int (j : Nat)), none, none] st = .ok (.int v) st := by
    have l1 : oLst [.int 0] st = .ok (.lst [.int 0]) st := x_lst (by simp)
    by_cases h : j < ns.length
    · have s1 : oSl (.ro (ns.map W.int)) (some (j : Int)) (some ((j : Int) + 1)) st = .ok (.lst [.int ns[j]]) st := by
        have e : cutW (ns.map W.int) (some (j : Int)) (some ((j : Int) + 1)) = [.int ns[j]] := by
          rw [show ((j : Int) + 1) = ((j + 1 : Nat) : Int) by omega, cut_mid (by omega) (by rw [List.length_map]; omega), show j + 1 - j = 1 by omega, ← List.map_drop, List.drop_eq_getElem_cons h]
          rfl
        rw [← e]; rfl
      have ad : oAdd (.lst [.int ns[j]]) (.lst [.int 0]) st = .ok (.lst [.int ns[j], .int 0]) st := by
        show (if 1 + 1 ≤ LINE then Out.ok (W.lst ([.int ns[j]] ++ [.int 0])) st else .bad) = _
        rw [if_pos (by unfold LINE; omega)]; rfl
      refine ⟨ns[j], ?_⟩
      simp only [x_2, x_sl, x_var, fg0, fg1, x_pYes, x_c, x_N, x_aCons, x_aNil, Out.bind_ok, x_add, s1, l1, ad]
      rfl
    · have s1 : oSl (.ro (ns.map W.int)) (some (j : Int)) (some ((j : Int) + 1)) st = .ok (.lst []) st := by
        have e : cutW (ns.map W.int) (some (j : Int)) (some ((j : Int) + 1)) = [] := by
          unfold cutW
          rw [HT.sIx_nat, List.drop_eq_nil_of_le (by rw [List.length_map]; omega), List.take_nil]
        rw [← e]; rfl
      have ad : oAdd (.lst []) (.lst [.int 0]) st = .ok (.lst [.int 0]) st := by
        show (if 0 + 1 ≤ LINE then Out.ok (W.lst ([] ++ [.int 0])) st else .bad) = _
        rw [if_pos (by unfold LINE; omega)]; rfl
      refine ⟨0, ?_⟩
      simp only [x_2, x_sl, x_var, fg0, fg1, x_pYes, x_c, x_N, x_aCons, x_aNil, Out.bind_ok, x_add, s1, l1, ad]
      rfl
  have c2 : mulOk 41 (j : Int) = true := by unfold mulOk; rw [Bool.or_eq_true]; exact .inl (dec_mk (.inl (by omega)))
  obtain ⟨C, hC, bC⟩ : ∃ C, C = bgW (if v ≥ 1000000000000000000 then v else 0) (v % 2147483549 + 41 * (j : Int) + 1) 0 ∧ Bag C := ⟨_, rfl, _, _, _, rfl⟩
  refine ⟨C, bC, ?_⟩
  have hB : B_law_bag [some (.ro (ns.map W.int)), some (.int (j : Nat)), none, none] st = .rt (.cell st.length) (st ++ [C]) := by
    rw [hC]
    unfold B_law_bag
    refine asg_to hv ?_
    simp only [fs2]
    refine asg_to (w := .int (v % 2147483549 + 41 * (j : Int) + 1)) (st1 := st) ?_ ?_
    · have oi : ∀ st, oInt [.int v] st = .ok (.int v) st := fun st => rfl
      simp only [x_2, x_N, x_aCons, x_aNil, x_var, fg1, fg2, x_c, Out.bind_ok, oi, x_mod (show (0 : Int) < 2147483549 by omega), x_mul c2, x_add]
    simp only [fs3]
    have pw : ∀ st, oPow (.int 10) (.int 18) st = .ok (.int 1000000000000000000) st := fun st => x_pow (by omega)
    have ce : ∀ (x y z : W) st, oCell [x, y, z] st = .ok (.cell st.length) (st ++ [.lst [x, y, z]]) := fun x y z st => x_cell (by simp)
    by_cases e : v ≥ 1000000000000000000
    · simp only [x_seq, x_if, x_bOf, x_ret, x_N, x_aCons, x_aNil, x_2, x_var, fg2, fg3, x_c, Out.bind_ok, pw, x_ge, decide_eq_true e, ce, Out.stm_ok, if_pos e]
      rfl
    · simp only [x_seq, x_if, x_bOf, x_ret, x_N, x_aCons, x_aNil, x_2, x_var, fg2, fg3, x_c, Out.bind_ok, pw, x_ge, decide_eq_false e, ce, Out.stm_ok, if_neg e, x_nil]
      rfl
  unfold F_law_bag mkFnC mkFnG
  show (match B_law_bag [some (.ro (ns.map W.int)), some (.int (j : Nat)), none, none] st with
    | .nx _ st1 => leave st.length .non st1 | .rt w st1 => leaveC st.length w st1 | .er x _ st1 => leaveX st.length x st1 | _ => .bad) = _
  rw [hB]
  show leaveC st.length (.cell st.length) (st ++ [C]) = _
  have lv : C.live = true := by rw [hC]; rfl
  unfold leaveC
  simp only [if_pos (Nat.le_refl st.length), get_new, bag_old bC, lv, List.take_left, ho, and_self, if_true]

end SL
namespace SL
open PySem PySem.Spec PyProof.Rows L2
theorem bits_join {x y : List Int} (h : Bits x) (h2 : Bits y) : Bits (x ++ y) := fun n hn => by
  rcases List.mem_append.mp hn with q | q
  · exact h n q
  · exact h2 n q
def rowsL : Nat → List (List Int)
  | 0 => [[]]
  | n + 1 => (rowsL n).map (fun l => l ++ [0]) ++ (rowsL n).map (fun l => l ++ [1])
theorem rowsL_len : ∀ n, (rowsL n).length = 2 ^ n
  | 0 => rfl
  | n + 1 => by
    rw [rowsL, List.length_append, List.length_map, List.length_map, rowsL_len n, Nat.pow_succ]; omega
theorem rowsL_ok : ∀ n, ∀ l ∈ rowsL n, l.length = n ∧ Bits l
  | 0, l, h => by
    rw [rowsL, List.mem_singleton] at h
    subst h
    exact ⟨rfl, fun _ h => (nomatch h)⟩
  | n + 1, l, h => by
    rw [rowsL, List.mem_append] at h
    rcases h with h | h <;> obtain ⟨k, hk, rfl⟩ := List.mem_map.mp h <;> obtain ⟨h1, h2⟩ := rowsL_ok n k hk
    · exact ⟨by simp [h1], bits_join h2 fun z hz => .inl (List.mem_singleton.mp hz)⟩
    · exact ⟨by simp [h1], bits_join h2 fun z hz => .inr (List.mem_singleton.mp hz)⟩
theorem intsW_map : ∀ l : List Int, intsW (l.map W.int) = some l
  | [] => rfl
  | a :: l => by rw [List.map_cons, intsW, intsW_map l]; rfl
theorem tupsI_map : ∀ L : List (List Int), tupsI (L.map bits) = some L
  | [] => rfl
  | a :: L => by
    rw [List.map_cons]
    show (match intsW (a.map W.int), tupsI (L.map bits) with
      | some n, some l => some (n :: l)
      | _, _ => none) = _
    rw [intsW_map, tupsI_map L]
def addW (b : Int) : W → W
  | .tup ws => .tup (ws ++ [.int b])
  | w => w
theorem add_rows (b : Int) (L : List (List Int)) : (L.map bits).map (addW b) = (L.map fun l => l ++ [b]).map bits := by
  rw [List.map_map, List.map_map]
  apply List.map_congr_left
  intro l _
  show W.tup (l.map W.int ++ [.int b]) = bits (l ++ [b])
  unfold bits
  rw [List.map_append]; rfl
theorem rows_sorted {n : Nat} {st : Sto} (h0 : 1 ≤ n) (h1 : n ≤ 7) : F_law_rows [.int n] st = .ok (.lst ((sortT (rowsL n)).map bits)) st := by
  refine mk_rt (st1 := st) ?_ rfl
  show B_law_rows [some (.int n), none, none, none] st = _
  unfold B_law_rows
  obtain ⟨fr', st', e1, u, rfl, rfl⟩ := x_for (f := iRng rg1 (aCons (eVar 0) (aNil))) (g := gNm 2) (b := sAsg (e2 oAdd (eLc (iSeq (eVar 1)) (gNm 3) [3] (tTrue) (e2 oAdd (eVar 3) (eN oTup (aCons (eC (.int 0)) (aNil))))) (eLc (iSeq (eVar 1)) (gNm 3) [3] (tTrue) (e2 oAdd (eVar 3) (eN oTup (aCons (eC (.int 1)) (aNil)))))) (gNm 1))
    (fr := [some (.int n), some (.lst ((rowsL 0).map bits)), none, none]) (st := st) (st1 := st) (x := .non) (all := rngW 0 1 n)
    (x_rng1 (j := n) (by simp) (by omega) (by omega)) (fun k fr s => ∃ u : Option W, fr = [some (.int n), some (.lst ((rowsL k).map bits)), u, none] ∧ s = st) ⟨none, rfl, rfl⟩ (fun _ _ _ _ => trivial) (by
      rintro k fr s z ⟨u, rfl, rfl⟩ hw
      obtain ⟨hk, rfl⟩ := rngW_at hw
      refine ⟨_, [some (.int n), some (.lst ((rowsL (k + 1)).map bits)), some (.int (0 + (k : Int) * 1)), none], _, rfl, .inl ?_, some (.int (0 + (k : Int) * 1)), rfl, rfl⟩
      have lc : ∀ b : Int, eLc (iSeq (eVar 1)) (gNm 3) [3] (tTrue) (e2 oAdd (eVar 3) (eN oTup (aCons (eC (.int b)) (aNil)))) [some (.int n), some (.lst ((rowsL k).map bits)), some (.int (0 + (k : Int) * 1)), none] s = .ok (.lst (((rowsL k).map fun l => l ++ [b]).map bits)) s := fun b => by
        refine x_lc (st1 := s) (x := .lst ((rowsL k).map bits)) (all := (rowsL k).map bits) (by simp) ?_
        rw [← add_rows]
        refine lc_map (x := .lst ((rowsL k).map bits)) trivial _ fun w hw => ?_
        obtain ⟨l, hl, rfl⟩ := List.mem_map.mp hw
        refine ⟨_, rfl, rfl, ?_⟩
        have t : W.tup [.int b] = bits [b] := rfl
        have j := bits_app (x := l) (y := [b]) (st := s) (by have := (rowsL_ok k l hl).1; simp; omega)
        have a : addW b (bits l) = bits (l ++ [b]) := by
          show W.tup (l.map W.int ++ [.int b]) = bits (l ++ [b])
          unfold bits
          rw [List.map_append]; rfl
        simp [wipeF, x_tup, t, j, a]
      have hp : (2 : Nat) ^ k ≤ 2 ^ 7 := Nat.pow_le_pow_right (by decide) (by omega)
      have ad : oAdd (.lst (((rowsL k).map fun l => l ++ [0]).map bits)) (.lst (((rowsL k).map fun l => l ++ [1]).map bits)) s = .ok (.lst ((rowsL (k + 1)).map bits)) s := by
        show (if (((rowsL k).map fun l => l ++ [0]).map bits).length + (((rowsL k).map fun l => l ++ [1]).map bits).length ≤ LINE then Out.ok (W.lst (((rowsL k).map fun l => l ++ [0]).map bits ++ ((rowsL k).map fun l => l ++ [1]).map bits)) s else .bad) = _
        rw [if_pos (by simp [rowsL_len, LINE]; omega), ← List.map_append]; rfl
      simp only [gNm, fs2, x_asgN, x_2, lc 0, lc 1, Out.bind_ok, ad, Out.stm_ok, fs1])
  rw [rngW_len] at e1
  refine asg_to (w := .lst ((rowsL 0).map bits)) (st1 := st') (by simp [x_tup, x_lst]; rfl) ?_
  simp only [fs1]
  refine seq_to e1 ?_
  have so : oSortT [.lst ((rowsL n).map bits)] st' = .ok (.lst ((sortT (rowsL n)).map bits)) st' := by
    show (match (some ((rowsL n).map bits)).bind tupsI with
      | some L => if dec (∃ (d : Nat) (B : Int), 1 ≤ d ∧ ∀ l ∈ (L : List (List Int)), l.length = d ∧ TS.Bd B l) = true then Out.ok (W.lst ((sortT L).map fun (l : List Int) => W.tup (l.map W.int))) st' else .bad
      | none => .bad) = _
    rw [Option.bind_some, tupsI_map]
    have g : ∃ (d : Nat) (B : Int), 1 ≤ d ∧ ∀ l ∈ rowsL n, l.length = d ∧ TS.Bd B l := ⟨n, 2, h0, fun l hl => ⟨(rowsL_ok n l hl).1, fun m hm => by
      rcases (rowsL_ok n l hl).2 m hm with rfl | rfl <;> decide⟩⟩
    show (if dec _ = true then _ else _) = _
    rw [if_pos (dec_mk g)]
    rfl
  simp [so]
theorem sort_mem {L : List (List Int)} {l : List Int} (h : l ∈ sortT L) : l ∈ L := (List.mergeSort_perm L _).mem_iff.mp h
theorem sort_len (L : List (List Int)) : (sortT L).length = L.length := (List.mergeSort_perm L _).length_eq

end SL
namespace SL
open PySem PySem.Spec PyProof.Rows L2
/-! ## the marks drawn -/
def kinds : List Str := ["a", "z", "0", "9", "start", "stop"]
theorem kinds_mk {z : Str} (h : z ∈ kinds) : MkOk z := by
  unfold kinds at h
  simp only [List.mem_cons, List.not_mem_nil, or_false] at h
  rcases h with rfl | rfl | rfl | rfl | rfl | rfl
  · exact .inr (.inr ⟨97, (by unfold okC; decide +kernel), rfl⟩)
  · exact .inr (.inr ⟨122, (by unfold okC; decide +kernel), rfl⟩)
  · exact .inr (.inr ⟨48, (by unfold okC; decide +kernel), rfl⟩)
  · exact .inr (.inr ⟨57, (by unfold okC; decide +kernel), rfl⟩)
  · exact .inl rfl
  · exact .inr (.inl rfl)
theorem rowsL_nodup : ∀ n, (rowsL n).Nodup
  | 0 => by rw [rowsL]; simp
  | n + 1 => by
    rw [rowsL, List.nodup_append]
    have inj : ∀ b : Int, ((rowsL n).map fun l => l ++ [b]).Nodup := fun b => SLf.map_nodup (rowsL_nodup n) fun x _ y _ e => List.append_cancel_right e
    refine ⟨inj 0, inj 1, fun x hx y hy e => ?_⟩
    obtain ⟨l, _, rfl⟩ := List.mem_map.mp hx
    obtain ⟨m, _, rfl⟩ := List.mem_map.mp hy
    have := congrArg List.getLast? e
    simp at this
theorem old_setB {st : Sto} {n : Nat} {c : Cel} (ho : ∀ m, st.all (oldW m) = true) (hc : ∀ m, oldW m c = true) : ∀ m, (st.set n c).all (oldW m) = true := fun m => by
  rw [List.all_eq_true]
  intro x hx
  rcases List.mem_or_eq_of_mem_set hx with h | rfl
  · exact List.all_eq_true.mp (ho m) x h
  · exact hc m
theorem drawn_ok {n : Nat} {st : Sto} {c : Cel} (hb : st[n]? = some c) (bc : Bag c) : ∃ (w : Nat) (d : Wc) (c' : Cel), 1 ≤ w ∧ w ≤ 4 ∧ KnOk w d ∧ Bag c' ∧ F_law_drawn [.cell n] st = .ok (.lst [.int (w : Nat), .cell st.length]) (st.set n c' ++ [wC d]) := by
  have hn : n < st.length := (List.getElem?_eq_some_iff.mp hb).1
  obtain ⟨q, c1, b1, q0, q4, pk⟩ := pick_at (n := n) (m := 4) bc (by decide) (by decide +kernel)
  obtain ⟨w, hw⟩ : ∃ w : Nat, 1 + q = (w : Int) := ⟨(1 + q).toNat, by omega⟩
  have w1 : 1 ≤ w := by omega
  have w4 : w ≤ 4 := by omega
  let L := (sortT (rowsL w)).reverse
  have Lok : ∀ l ∈ L, l.length = w ∧ Bits l := fun l hl => rowsL_ok w l (sort_mem (List.mem_reverse.mp hl))
  have Lnd : L.Nodup := (List.reverse_perm _).nodup_iff.mpr ((List.mergeSort_perm (rowsL w) _).nodup_iff.mpr (rowsL_nodup w))
  have Llen : L.length ≤ 16 := by
    show (sortT (rowsL w)).reverse.length ≤ 16
    rw [List.length_reverse, sort_len, rowsL_len]
    calc 2 ^ w ≤ 2 ^ 4 := Nat.pow_le_pow_right (by decide) w4
      _ = 16 := rfl
  have rows : ∀ T : Sto, F_law_rows [.int (w : Nat)] T = .ok (.lst ((sortT (rowsL w)).map bits)) T := fun T => rows_sorted w1 (by omega)
  obtain ⟨fr', st', e1, ⟨d, c2, u, b2, rfl, rfl, dm, dn, dk, dl⟩⟩ := x_for (f := iSeq (eRevL (eCall F_law_rows (aCons (eVar 1) (aNil))))) (g := gNm 4) (b := sIf (bOf (e2 oGt (eCall F_law_pick (aCons (eVar 0) (aCons (eC (.int 3)) (aNil)))) (eC (.int 0)))) (sSub uDctT (e2 oIx (eVar 2) (eCall F_law_pick (aCons (eVar 0) (aCons (eC (.int 6)) (aNil))))) (eVar 3) (eVar 4)) (sNil))
    (fr := [some (.cell n), some (.int (w : Nat)), some (.lst (kinds.map W.str)), some (.cell st.length), none]) (st := st.set n c1 ++ [wC []]) (st1 := st.set n c1 ++ [wC []]) (x := .lst (L.map bits)) (all := L.map bits)
    (by
      have e : eRevL (eCall F_law_rows (aCons (eVar 1) (aNil))) [some (.cell n), some (.int (w : Nat)), some (.lst (kinds.map W.str)), some (.cell st.length), none] (st.set n c1 ++ [wC []]) = .ok (.lst (L.map bits)) (st.set n c1 ++ [wC []]) := by
        unfold eRevL
        simp only [x_call, x_aCons, x_aNil, x_var, fg1, Out.bind_ok, rows]
        show Out.ok (W.lst ((sortT (rowsL w)).map bits).reverse) _ = _
        rw [← List.map_reverse]
      unfold iSeq
      rw [e]
      rfl)
    (fun k fr T => ∃ (d : Wc) (c2 : Cel) (u : Option W), Bag c2 ∧ fr = [some (.cell n), some (.int (w : Nat)), some (.lst (kinds.map W.str)), some (.cell st.length), u] ∧ T = st.set n c2 ++ [wC d] ∧ (∀ p ∈ d, p.1 ∈ L.take k) ∧ (d.map (·.1)).Nodup ∧ (∀ p ∈ d, ∃ z, MkOk z ∧ p.2 = .str z) ∧ d.length ≤ k)
    ⟨[], c1, none, b1, rfl, rfl, (fun p h => by cases h), .nil, (fun p h => by cases h), Nat.le_refl _⟩ (fun _ _ _ _ => trivial) (by
      rintro k fr T v ⟨d, c2, u, b2, rfl, rfl, dm, dn, dk, dl⟩ hv
      rw [List.getElem?_map] at hv
      obtain ⟨r, hr, rfl⟩ := Option.map_eq_some_iff.mp hv
      have hk : k < L.length := (List.getElem?_eq_some_iff.mp hr).1
      have tk : L.take (k + 1) = L.take k ++ [r] := take_next hr
      have len2 : (st.set n c2).length = st.length := by simp
      have at2 : ∀ (x : Cel) (D : Wc), (st.set n x ++ [wC D])[n]? = some x := fun x D => by
        rw [List.getElem?_append_left (by simpa using hn), List.getElem?_set_self hn]
      have set2 : ∀ (x y : Cel) (D : Wc), (st.set n x ++ [wC D]).set n y = st.set n y ++ [wC D] := fun x y D => by
        rw [List.set_append_left _ _ (by simpa using hn), List.set_set]
      obtain ⟨q, c3, b3, q0, q3, pk⟩ := pick_at (n := n) (m := 3) b2 (by decide) (by decide +kernel)
      have p3 := pk _ (at2 c2 d)
      rw [set2] at p3
      by_cases hq : 0 < q
      · obtain ⟨i, c4, b4, i0, i6, pk2⟩ := pick_at (n := n) (m := 6) b3 (by decide) (by decide +kernel)
        have p6 := pk2 _ (at2 c3 d)
        rw [set2] at p6
        obtain ⟨x, hx, ix⟩ := ix_mem (ws := kinds.map W.str) i0 (by simpa [kinds] using i6)
        obtain ⟨z, hz, rfl⟩ := List.mem_map.mp hx
        have rn : r ∉ d.map (·.1) := fun h => by
          obtain ⟨p, hp, e⟩ := List.mem_map.mp h
          have h1 := dm p hp
          rw [e] at h1
          have nd := (List.take_sublist (k + 1) L).nodup Lnd
          rw [tk, List.nodup_append] at nd
          exact nd.2.2 r h1 r (List.mem_singleton.mpr rfl) rfl
        have put := putW_new (S := st.set n c4 ++ [wC d]) (m := st.length) (d := d) (r := r) (w := .str z) (by rw [List.getElem?_append_right (by simp)]; simp) rn (by omega)
        have set3 : (st.set n c4 ++ [wC d]).set st.length (wC (d ++ [(r, .str z)])) = st.set n c4 ++ [wC (d ++ [(r, .str z)])] := by
          rw [List.set_append_right _ _ (by simp)]; simp
        rw [set3] at put
        refine ⟨_, [some (.cell n), some (.int (w : Nat)), some (.lst (kinds.map W.str)), some (.cell st.length), some (bits r)], _, rfl, .inl ?_, d ++ [(r, .str z)], c4, some (bits r), b4, rfl, rfl, ?_, ?_, ?_, by rw [List.length_append]; exact Nat.succ_le_succ dl⟩
        · have hd : decide (q > 0) = true := decide_eq_true hq
          unfold sSub
          simp only [gNm, fs4, x_if, x_bOf, x_2, x_call, x_aCons, x_aNil, x_var, x_c, fg0, fg2, fg3, fg4, Out.bind_ok, p3, x_gt, hd, Out.stm_ok, p6, ix, put, if_true]
        · intro p hp
          rw [tk]
          rcases List.mem_append.mp hp with hp | hp
          · exact List.mem_append_left _ (dm p hp)
          · rw [List.mem_singleton.mp hp]
            exact List.mem_append_right _ (List.mem_singleton.mpr rfl)
        · rw [List.map_append, List.nodup_append]
          refine ⟨dn, by simp, fun a ha b hb e => rn ?_⟩
          have e2 : a = r := e.trans (List.mem_singleton.mp hb)
          rw [e2] at ha
          exact ha
        · intro p hp
          rcases List.mem_append.mp hp with hp | hp
          · exact dk p hp
          · rw [List.mem_singleton.mp hp]
            exact ⟨z, kinds_mk hz, rfl⟩
      · refine ⟨_, [some (.cell n), some (.int (w : Nat)), some (.lst (kinds.map W.str)), some (.cell st.length), some (bits r)], _, rfl, .inl ?_, d, c3, some (bits r), b3, rfl, rfl, ?_, dn, dk, Nat.le_succ_of_le dl⟩
        · have hd : decide (q > 0) = false := decide_eq_false hq
          simp only [gNm, fs4, x_if, x_bOf, x_2, x_call, x_aCons, x_aNil, x_var, x_c, fg0, Out.bind_ok, p3, x_gt, hd, Out.stm_ok, x_nil, Bool.false_eq_true, if_false]
        · intro p hp
          rw [tk]
          exact List.mem_append_left _ (dm p hp))
  have hK : KnOk w d := by
    have sub : ∀ p ∈ d, p.1 ∈ L := fun p hp => List.mem_of_mem_take (dm p hp)
    refine ⟨⟨w1, by omega⟩, ?_, fun p hp => Lok p.1 (sub p hp), dk, dn⟩
    have : d.length ≤ (L.map bits).length := dl
    rw [List.length_map] at this
    omega
  refine ⟨w, d, c2, w1, w4, hK, b2, mkA_rt ?_⟩
  show B_law_drawn [some (.cell n), none, none, none, none] st = _
  unfold B_law_drawn
  have p4 := pk st hb
  refine asg_to (w := .int (w : Nat)) (st1 := st.set n c1) ?_ ?_
  · simp only [x_2, x_c, x_call, x_aCons, x_aNil, x_var, fg0, Out.bind_ok, p4, x_add, hw]
  simp only [fs1]
  refine asg_to (w := .lst (kinds.map W.str)) (st1 := st.set n c1) (by simp only [x_N, x_aCons, x_aNil, x_c, Out.bind_ok]; exact x_lst (by simp)) ?_
  simp only [fs2]
  refine asg_to (w := .cell st.length) (st1 := st.set n c1 ++ [wC []]) (by
    show Out.ok (W.cell (st.set n c1).length) _ = _
    rw [List.length_set]; rfl) ?_
  simp only [fs3]
  refine seq_to e1 ?_
  simp only [x_ret, x_N, x_aCons, x_aNil, x_var, fg1, fg3, Out.bind_ok, x_lst (show [W.int (w : Nat), W.cell st.length].length ≤ 1000 by simp), Out.stm_ok]

end SL
namespace SL
open PySem PySem.Spec PyProof.Rows L2
/-! ## a dict of marks, as data and as a cell -/
def HasD (st : Sto) (w : W) (d : Wc) : Prop := dctT st w = some ((d.map fun p => keyI p.1), (d.map fun p : List Int × W => p.2))
theorem hasC {st : Sto} {n : Nat} {d : Wc} (h : st[n]? = some (wC d)) : HasD st (.cell n) d := by
  show dctT st (.cell n) = _
  rw [dctT_cell, h]
  show (match kindW (.ty "T" :: d.map fun p => bits p.1) with | some (_, .inr kk) => some (kk, (d.map fun p : List Int × W => p.2)) | _ => none) = _
  rw [kind_T1 (mapO_W d)]
theorem hasK {st : Sto} {d : Wc} : HasD st (kndW d) d := by
  show (match kindW (.ty "T" :: d.map fun p => bits p.1) with | some (_, .inr kk) => some (kk, (d.map fun p : List Int × W => p.2)) | _ => none) = _
  rw [kind_T1 (mapO_W d)]
def stO : W → Str
  | .str z => z
  | _ => ""
def TxS (d : Wc) : List (KeyL × Str) := d.map fun p => (keyI p.1, stO p.2)
theorem txt_vals : ∀ {d : Wc}, TxV d → txtsW (d.map fun p : List Int × W => p.2) = some (d.map fun p => stO p.2)
  | [], _ => rfl
  | p :: d, h => by
    obtain ⟨z, hz⟩ := h p List.mem_cons_self
    rw [List.map_cons, List.map_cons, hz, txtsW, txt_vals fun q hq => h q (List.mem_cons_of_mem _ hq)]
    rfl
theorem zip_two {α β γ : Type} (f : α → β) (g : α → γ) : ∀ l : List α, (l.map f).zip (l.map g) = l.map fun a => (f a, g a)
  | [] => rfl
  | a :: l => by rw [List.map_cons, List.map_cons, List.zip_cons_cons, zip_two f g l]; rfl
theorem HasD.td {st : Sto} {w : W} {d : Wc} (h : HasD st w d) (t : TxV d) : tdW st w = some (TxS d) := by
  unfold tdW
  rw [show dctT st w = _ from h]
  show (txtsW (d.map fun p : List Int × W => p.2)).map _ = _
  rw [txt_vals t, Option.map_some, zip_two]
  rfl
theorem HasD.eq {st : Sto} {x y : W} {d e : Wc} (h : HasD st x d) (k : HasD st y e) (t : TxV d) (u : TxV e) : oEqT x y st = .ok (.bl (sameT (TxS d) (TxS e))) st := by
  unfold oEqT
  rw [h.td t, k.td u]
theorem HasD.ne {st : Sto} {x y : W} {d e : Wc} (h : HasD st x d) (k : HasD st y e) (t : TxV d) (u : TxV e) : oNeT x y st = .ok (.bl (!sameT (TxS d) (TxS e))) st := by
  unfold oNeT
  rw [h.td t, k.td u]
theorem keyTO_I (l : List Int) : keyTO (keyI l) = bits l := keyTO_int l
theorem keys_TO (d : Wc) : (d.map fun p => keyI p.1).map keyTO = d.map fun p => bits p.1 := by
  rw [List.map_map]
  exact List.map_congr_left fun p _ => keyTO_I p.1
theorem HasD.lst {st : Sto} {x : W} {d : Wc} (h : HasD st x d) : oListDT [x] st = .ok (.lst (d.map fun p => bits p.1)) st := by
  show (match dctT st x with | some (kk, _) => Out.ok (W.lst (kk.map keyTO)) st | none => .bad) = _
  rw [show dctT st x = _ from h]
  show Out.ok (W.lst ((d.map fun p => keyI p.1).map keyTO)) st = _
  rw [keys_TO]
theorem bitKB_I {l : List Int} (h6 : l.length ≤ 6) (h : Bits l) : bitKB (keyI l) = true := by
  unfold bitKB keyI
  rw [List.length_map, decide_eq_true h6, Bool.true_and, List.all_map, List.all_eq_true]
  intro x hx
  exact decide_eq_true (h x hx)
theorem HasD.copy {st : Sto} {x : W} {d : Wc} {w : Nat} (h : HasD st x d) (hr : ∀ p ∈ d, p.1.length = w ∧ Bits p.1) (h6 : w ≤ 6) : oDictCT [x] st = .ok (.cell st.length) (st ++ [wC d]) := by
  show (match dctT st x with | some (kk, us) => if (kk.all bitKB) = true then Out.ok (W.cell st.length) (st ++ [Cel.dct (.ty "T" :: kk.map keyTO) us]) else .bad | none => .bad) = _
  rw [show dctT st x = _ from h]
  show (if ((d.map fun p => keyI p.1).all bitKB) = true then Out.ok (W.cell st.length) (st ++ [Cel.dct (.ty "T" :: (d.map fun p => keyI p.1).map keyTO) (d.map fun p : List Int × W => p.2)]) else .bad) = _
  have e : ((d.map fun p => keyI p.1).all bitKB) = true := by
    rw [List.all_map, List.all_eq_true]
    intro p hp
    exact bitKB_I (by rw [(hr p hp).1]; exact h6) (hr p hp).2
  rw [if_pos e, keys_TO]
  rfl
theorem ints_keys : ∀ d : Wc, mapO intsK (d.map fun p => keyI p.1) = some (d.map (·.1))
  | [] => rfl
  | p :: d => by
    have e : intsK (keyI p.1) = some p.1 := by
      have : ∀ l : List Int, intsK (keyI l) = some l := by
        intro l
        induction l with
        | nil => rfl
        | cons a l ih =>
          show (intsK (keyI l)).map (a :: ·) = _
          rw [ih]; rfl
      exact this p.1
    rw [List.map_cons, mapO, ints_keys d, e]
    rfl
theorem HasD.sort {st : Sto} {x : W} {d : Wc} {w : Nat} (h : HasD st x d) (hr : ∀ p ∈ d, p.1.length = w ∧ Bits p.1) (h1 : 1 ≤ w) : oSortDT [x] st = .ok (.lst ((sortT (d.map (·.1))).map bits)) st := by
  show (match dctT st x with | some (kk, _) => (match mapO intsK kk with | some L => (if dec (∃ (d : Nat) (B : Int), 1 ≤ d ∧ ∀ l ∈ (L : List (List Int)), l.length = d ∧ TS.Bd B l) = true then Out.ok (W.lst ((sortT L).map tupOf)) st else .bad) | none => .bad) | none => .bad) = _
  rw [show dctT st x = _ from h]
  show (match mapO intsK (d.map fun p => keyI p.1) with
    | some L => (if dec (∃ (d : Nat) (B : Int), 1 ≤ d ∧ ∀ l ∈ (L : List (List Int)), l.length = d ∧ TS.Bd B l) = true then Out.ok (W.lst ((sortT L).map tupOf)) st else .bad)
    | none => .bad) = _
  rw [ints_keys]
  have g : ∃ (e : Nat) (B : Int), 1 ≤ e ∧ ∀ l ∈ (d.map (·.1)), l.length = e ∧ TS.Bd B l := ⟨w, 2, h1, fun l hl => by
    obtain ⟨p, hp, rfl⟩ := List.mem_map.mp hl
    exact ⟨(hr p hp).1, fun m hm => by rcases (hr p hp).2 m hm with e | e <;> rw [e] <;> omega⟩⟩
  show (if dec _ = true then _ else _) = _
  rw [if_pos (dec_mk g)]
  rfl
theorem HasD.get {st : Sto} {d : Wc} {r : List Int} {x : W} {f g : Sem} {fr : Fr} (h : HasD st x d) (hf : f fr st = .ok x st) (hg : g fr st = .ok (bits r) st) : eTGet1 f g fr st = .ok (mkOf d r) st := by
  unfold eTGet1
  rw [hf, Out.bind_ok]
  have h' : dctT st x = some ((d.map fun p => keyI p.1), (d.map fun p : List Int × W => p.2)) := h
  simp only [h', Option.isSome_some, if_true, hg, Out.bind_ok, keyT_bits]
  unfold mkOf
  rw [← val_W]
/-! ## the same marks in another order -/
theorem wget_perm {d e : Wc} (p : d.Perm e) (nd : (d.map (·.1)).Nodup) (r : List Int) : wget d r = wget e r := by
  have ne : (e.map (·.1)).Nodup := (p.map _).nodup_iff.mp nd
  cases h : wget d r with
  | some v =>
    unfold wget at h
    obtain ⟨q, hq, rfl⟩ := Option.map_eq_some_iff.mp h
    have h1 := List.mem_of_find?_eq_some hq
    have h2 : q.1 = r := by simpa using List.find?_some hq
    rw [← h2, wget_mem ne (p.mem_iff.mp h1)]
  | none =>
    cases h2 : wget e r with
    | none => rfl
    | some v =>
      unfold wget at h2
      obtain ⟨q, hq, rfl⟩ := Option.map_eq_some_iff.mp h2
      have h3 := List.mem_of_find?_eq_some hq
      have h4 : q.1 = r := by simpa using List.find?_some hq
      rw [← h4, wget_mem nd (p.mem_iff.mpr h3)] at h
      cases h
theorem srt_perm {d : Wc} (nd : (d.map (·.1)).Nodup) : (srtW d).Perm d := by
  have h : (srtW d).Perm ((d.map (·.1)).map fun r => (r, (wget d r).getD .non)) := by
    unfold srtW sortT
    exact (List.mergeSort_perm (d.map (·.1)) _).map _
  have e : ((d.map (·.1)).map fun r => (r, (wget d r).getD .non)) = d := by
    rw [List.map_map]
    refine (List.map_congr_left fun p hp => ?_).trans (List.map_id d)
    show (p.1, (wget d p.1).getD .non) = p
    rw [wget_mem nd hp]
    rfl
  rw [e] at h
  exact h
theorem srt_get {d : Wc} (nd : (d.map (·.1)).Nodup) (r : List Int) : mkOf (srtW d) r = mkOf d r := by
  unfold mkOf
  rw [wget_perm (srt_perm nd) (((srt_perm nd).map _).nodup_iff.mpr nd)]
theorem TxS_nodup {d : Wc} (nd : (d.map (·.1)).Nodup) : ((TxS d).map (·.1)).Nodup := by
  unfold TxS
  rw [List.map_map]
  have h := SLf.map_nodup (f := keyI) nd fun a _ b _ e => keyI_eq.mp e
  rw [List.map_map] at h
  exact h
theorem valT_mem {ls : List (KeyL × Str)} {k : KeyL} {z : Str} (h : valT ls k = some z) : (k, z) ∈ ls := by
  unfold valT at h
  obtain ⟨q, hq, rfl⟩ := Option.map_eq_some_iff.mp h
  have h1 := List.mem_of_find?_eq_some hq
  have h2 : q.1 = k := by simpa using List.find?_some hq
  rw [← h2]
  exact h1
theorem sub_all {α : Type} [DecidableEq α] : ∀ {a b : List α}, a.Nodup → (∀ x ∈ a, x ∈ b) → b.length ≤ a.length → ∀ y ∈ b, y ∈ a
  | [], b, _, _, hl, y, hy => by
    have : b = [] := List.eq_nil_of_length_eq_zero (Nat.le_zero.mp hl)
    rw [this] at hy
    cases hy
  | x :: a, b, hn, hs, hl, y, hy => by
    rw [List.nodup_cons] at hn
    have hx := hs x List.mem_cons_self
    by_cases e : y = x
    · rw [e]; exact List.mem_cons_self
    · have l1 := List.length_erase_of_mem hx
      have pos := List.length_pos_of_mem hx
      rw [List.length_cons] at hl
      refine List.mem_cons_of_mem _ (sub_all (b := b.erase x) hn.2 (fun z hz => ?_) (by omega) y ((List.mem_erase_of_ne e).mpr hy))
      exact (List.mem_erase_of_ne fun q => hn.1 (by rw [← q]; exact hz)).mpr (hs z (List.mem_cons_of_mem _ hz))
/-- equal just if they have the same pairs -/
theorem sameT_iff {a b : List (KeyL × Str)} (na : (a.map (·.1)).Nodup) (nb : (b.map (·.1)).Nodup) : sameT a b = true ↔ (∀ p, p ∈ a ↔ p ∈ b) := by
  have da : a.Nodup := by
    rw [List.nodup_iff_pairwise_ne] at na ⊢
    rw [List.pairwise_map] at na
    exact na.imp fun h e => h (congrArg _ e)
  have db : b.Nodup := by
    rw [List.nodup_iff_pairwise_ne] at nb ⊢
    rw [List.pairwise_map] at nb
    exact nb.imp fun h e => h (congrArg _ e)
  unfold sameT
  rw [Bool.and_eq_true, beq_iff_eq, List.all_eq_true]
  constructor
  · rintro ⟨hl, h⟩ p
    have sub : ∀ x ∈ a, x ∈ b := fun x hx => valT_mem (of_decide_eq_true (h x hx))
    exact ⟨sub p, sub_all da sub (by omega) p⟩
  · intro h
    refine ⟨((List.perm_ext_iff_of_nodup da db).mpr h).length_eq, fun p hp => decide_eq_true (valT_self nb p ((h p).mp hp))⟩
theorem sameT_perm {a b a' b' : List (KeyL × Str)} (na : (a.map (·.1)).Nodup) (nb : (b.map (·.1)).Nodup) (pa : a.Perm a') (pb : b.Perm b') : sameT a b = sameT b' a' := by
  have na' : (a'.map (·.1)).Nodup := (pa.map _).nodup_iff.mp na
  have nb' : (b'.map (·.1)).Nodup := (pb.map _).nodup_iff.mp nb
  rw [Bool.eq_iff_iff, sameT_iff na nb, sameT_iff nb' na']
  constructor
  · intro h p
    rw [← pb.mem_iff, ← pa.mem_iff]
    exact (h p).symm
  · intro h p
    have := h p
    rw [← pb.mem_iff, ← pa.mem_iff] at this
    exact this.symm
theorem sameT_refl {a b : List (KeyL × Str)} (na : (a.map (·.1)).Nodup) (pa : a.Perm b) : sameT a b = true := (sameT_iff na ((pa.map _).nodup_iff.mp na)).mpr fun p => pa.mem_iff
/-! ## two readers are equal -/
theorem rdr_eq {w w2 : Nat} {d d2 : Wc} {st : Sto} (t : TxV d) (t2 : TxV d2) : oEqO "Reader" F_Reader___eq__ (rdr w d) (rdr w2 d2) st = .ok (.bl (decide (w = w2) && sameT (TxS d) (TxS d2))) st := by
  have e : F_Reader___eq__ [rdr w d, rdr w2 d2] st = .ok (.bl (decide (w = w2) && sameT (TxS d) (TxS d2))) st := by
    refine mk_rt (st1 := st) ?_ rfl
    show B_Reader___eq__ [some (rdr w d), some (rdr w2 d2)] st = _
    unfold B_Reader___eq__
    have c : oIsC "Reader" [rdr w2 d2, .cls "Reader"] st = .ok (.bl true) st := rfl
    have a1 : eFld ["Reader"] "width" (eVar 0) [some (rdr w d), some (rdr w2 d2)] st = .ok (.int (w : Nat)) st := rfl
    have a2 : eFld ["Reader"] "width" (eVar 1) [some (rdr w d), some (rdr w2 d2)] st = .ok (.int (w2 : Nat)) st := rfl
    have b1 : eFld ["Reader"] "known" (eVar 0) [some (rdr w d), some (rdr w2 d2)] st = .ok (kndW d) st := rfl
    have b2 : eFld ["Reader"] "known" (eVar 1) [some (rdr w d), some (rdr w2 d2)] st = .ok (kndW d2) st := rfl
    have q := HasD.eq (st := st) (hasK (d := d)) (hasK (d := d2)) t t2
    simp only [x_ret, x_and, x_2, x_N, x_aCons, x_aNil, x_var, fg1, x_c, a1, a2, b1, b2, Out.bind_ok, c, x_eqI, q, if_true]
    by_cases z : w = w2
    · simp [z]
    · have z2 : ¬ ((w : Int) = (w2 : Int)) := fun q => z (by omega)
      simp [z, z2]
  have i1 : insW st (rdr w d) = some (("Reader" : Str), rdNs, [.int (w : Nat), kndW d]) := rfl
  have i2 : insW st (rdr w2 d2) = some (("Reader" : Str), rdNs, [.int (w2 : Nat), kndW d2]) := rfl
  unfold oEqO
  simp only [i1, i2, and_self, if_true, e]

end SL
namespace SL
open PySem PySem.Spec PyProof.Rows L2
theorem old_wC {d : Wc} (h : TxV d) (m : Nat) : oldW m (wC d) = true := by
  show (fz0s m _ (d.map fun p : List Int × W => p.2)).isSome = true
  rw [fz_tx h]; rfl
theorem kn_tx {w : Nat} {d : Wc} (K : KnOk w d) : TxV d := fun p hp => by
  obtain ⟨z, _, hz⟩ := K.mark p hp
  exact ⟨z, hz⟩
theorem all_app {st ex : Sto} (h : ∀ m, st.all (oldW m) = true) (h2 : ∀ m, ex.all (oldW m) = true) : ∀ m, (st ++ ex).all (oldW m) = true := fun m => by
  rw [List.all_append, h m, h2 m]; rfl
/-! ## what a reader tells -/
theorem marks_prop {w : Nat} {d : Wc} {st : Sto} {f : Sem} {fr : Fr} (hf : f fr st = .ok (rdr w d) st) (hr : ∀ p ∈ d, p.1.length = w ∧ Bits p.1) (h6 : w ≤ 6) (t : TxV d) (ho : ∀ m, st.all (oldW m) = true) : eProp "Reader" "marks" F_Reader_marks f fr st = .ok (.cell st.length) (st ++ [wC d]) := by
  have e : F_Reader_marks [rdr w d] st = .ok (.cell st.length) (st ++ [wC d]) := by
    have hB : B_Reader_marks [some (rdr w d)] st = .rt (.cell st.length) (st ++ [wC d]) := by
      unfold B_Reader_marks
      have a1 : eFld ["Reader"] "known" (eVar 0) [some (rdr w d)] st = .ok (kndW d) st := rfl
      simp only [x_ret, x_N, x_aCons, x_aNil, a1, Out.bind_ok, (hasK (st := st)).copy hr h6, Out.stm_ok]
    unfold F_Reader_marks mkFnC mkFnG
    show (match B_Reader_marks [some (rdr w d)] st with
      | .nx _ st1 => leave st.length .non st1 | .rt w st1 => leaveC st.length w st1 | .er x _ st1 => leaveX st.length x st1 | _ => .bad) = _
    rw [hB]
    show leaveC st.length (.cell st.length) (st ++ [wC d]) = _
    have lv : (wC d).live = true := rfl
    unfold leaveC
    simp only [if_pos (Nat.le_refl st.length), get_new, old_wC t, lv, List.take_left, ho, and_self, if_true]
  unfold eProp
  rw [hf, Out.bind_ok]
  show (if ("Reader" : Str) = "Reader" then (match F_Reader_marks [rdr w d] st with | .ok u st2 => Out.ok u st2 | _ => .bad) else .bad) = _
  rw [if_pos rfl, e]
theorem mark_ok {w : Nat} {d : Wc} {r : List Int} {st : Sto} (hb : Bits r) (hl : r.length = w) : F_Reader_mark [rdr w d, bits r] st = .ok (mkOf d r) st := by
  refine mk_rt (st1 := st) ?_ rfl
  show B_Reader_mark [some (rdr w d), some (bits r)] st = _
  unfold B_Reader_mark
  have r1 := is_row_ok (st := st) (bits_ok r)
  rw [bits_row hb] at r1
  have ol : oLen [bits r] st = .ok (.int (w : Nat)) st := by show oLen [.tup _] _ = _; rw [x_len_tup, List.length_map, hl]
  have a1 : eFld ["Reader"] "width" (eVar 0) [some (rdr w d), some (bits r)] st = .ok (.int (w : Nat)) st := rfl
  have g := (hasK (st := st) (d := d)).get (f := eFld ["Reader"] "known" (eVar 0)) (g := eVar 1) (fr := [some (rdr w d), some (bits r)]) rfl rfl
  simp only [x_seq, x_if, x_bOr, x_bNot, x_bOf, x_call, x_2, x_N, x_aCons, x_aNil, x_var, fg1, Out.bind_ok, r1, Bool.not_true, Bool.false_eq_true, if_false, ol, a1, x_neI, decide_true, x_nil, Out.stm_ok, x_ret, g]
theorem mark_bad {w : Nat} {d : Wc} {o : W} {st : Sto} (ho : okRow o = true) (h : rowW o = false ∨ ∃ k : Int, oLen [o] st = .ok (.int k) st ∧ k ≠ (w : Nat)) : F_Reader_mark [rdr w d, o] st = .err (rowEr "row") st := by
  refine mk_er (st1 := st) (fr := [some (rdr w d), some o]) ?_ rfl
  show B_Reader_mark [some (rdr w d), some o] st = _
  unfold B_Reader_mark
  have r1 := is_row_ok (st := st) ho
  have a1 : eFld ["Reader"] "width" (eVar 0) [some (rdr w d), some o] st = .ok (.int (w : Nat)) st := rfl
  have rz : sRaise "BadRow" ["part"] (aCons (eC (.str "row")) (aNil)) [some (rdr w d), some o] st = .er (rowEr "row") [some (rdr w d), some o] st := by simp [sRaise]; rfl
  cases hr : rowW o with
  | false =>
    rw [hr] at r1
    simp only [x_seq, x_if, x_bOr, x_bNot, x_bOf, x_call, x_aCons, x_aNil, x_var, fg1, Out.bind_ok, r1, Bool.not_false, if_true, rz, Out.stm_ok]
  | true =>
    rw [hr] at r1
    rcases h with h | ⟨k, hk, ne⟩
    · rw [hr] at h; cases h
    · simp only [x_seq, x_if, x_bOr, x_bNot, x_bOf, x_call, x_2, x_N, x_aCons, x_aNil, x_var, fg1, Out.bind_ok, r1, Bool.not_true, Bool.false_eq_true, if_false, hk, a1, x_neI, decide_eq_false ne, Bool.not_false, if_true, rz, Out.stm_ok]
theorem meth_ok {w : Nat} {d : Wc} {f g : Sem} {fr : Fr} {st : Sto} {x : W} (hf : f fr st = .ok (rdr w d) st) (hg : g fr st = .ok x st) : eMeth "Reader" "mark" F_Reader_mark f (aCons g (aNil)) fr st = F_Reader_mark [rdr w d, x] st := by
  unfold eMeth
  rw [hf, Out.bind_ok]
  show (if ("Reader" : Str) = "Reader" ∧ ("mark" : Str) ∉ rdNs then ((aCons g (aNil)) fr st).bind (fun ws st2 => F_Reader_mark (rdr w d :: ws) st2) else .bad) = _
  rw [if_pos ⟨rfl, by decide⟩]
  simp only [x_aCons, x_aNil, hg, Out.bind_ok]
theorem asked_ok {w : Nat} {d : Wc} {x v : W} {st : Sto} (h : F_Reader_mark [rdr w d, x] st = .ok v st) : F_law_asked [rdr w d, x] st = .ok (.lst [.str "", v]) st := by
  refine mk_rt (st1 := st) ?_ rfl
  show B_law_asked [some (rdr w d), some x, none, none] st = _
  unfold B_law_asked
  have m := meth_ok (w := w) (d := d) (f := eVar 0) (g := eVar 1) (fr := [some (rdr w d), some x, none, none]) (st := st) (x := x) rfl rfl
  rw [h] at m
  simp only [x_seq, sTry, x_asgN, x_N, x_aCons, x_aNil, x_c, m, Out.bind_ok, x_lst (show [W.str "", v].length ≤ 1000 by simp), Out.stm_ok, fs2, x_ret, x_var, fg2]
theorem asked_bad {w : Nat} {d : Wc} {x : W} {st : Sto} (h : F_Reader_mark [rdr w d, x] st = .err (rowEr "row") st) : F_law_asked [rdr w d, x] st = .ok (.lst [.str "bad", .str "row"]) st := by
  refine mk_rt (st1 := st) ?_ rfl
  show B_law_asked [some (rdr w d), some x, none, none] st = _
  unfold B_law_asked
  have m := meth_ok (w := w) (d := d) (f := eVar 0) (g := eVar 1) (fr := [some (rdr w d), some x, none, none]) (st := st) (x := x) rfl rfl
  rw [h] at m
  have t : exT "BadRow" "LabelError" = some true := by decide +kernel
  have t1 : isT "BadRow" "BadRow" = some true := by decide +kernel
  have t2 : isV "BadRow" = true := by decide +kernel
  simp [sTry, m, rowEr, hRun, t, t1, t2, slOk, clrF, SOut.clr, eXf, eIsX, eIsV, lkp, x_lst]

end SL
namespace SL
open PySem PySem.Spec PyProof.Rows L2
/-! ## what is no row of the width -/
def zrs (w : Nat) : List Int := List.replicate w 0
theorem zrs_bits (w : Nat) : Bits (zrs w) := fun n hn => .inl (List.eq_of_mem_replicate hn)
theorem zrs_len (w : Nat) : (zrs w).length = w := List.length_replicate
def deepW : Nat → W
  | 0 => .lst []
  | k + 1 => .lst [deepW k]
theorem deep_lst : ∀ k, ∃ l, deepW k = .lst l ∧ l.length ≤ 1
  | 0 => ⟨[], rfl, Nat.zero_le _⟩
  | k + 1 => ⟨[deepW k], rfl, Nat.le_refl _⟩
def oddA (w : Nat) : List W := [.non, .lst ((zrs w).map W.int), bits (zrs w ++ [0]), bits ((zrs w).drop 1), .tup (((zrs w).drop 1).map W.int ++ [.int 2]), .tup (((zrs w).drop 1).map W.int ++ [.bl true]), .str (Txt.mul "0" (w : Nat)), .int 0, .tup [bits (zrs w)], .dct [] []]
def oddB (w : Nat) (R : W) : List W := [.tup (List.replicate w (.lst [.int 0])), .tup ([.tup [], .lst [.lst []]] ++ (zrs w).map W.int), .tup (List.replicate w (deepW 27)), deepW 27, R, .tup (((zrs w).drop 1).map W.int ++ [.lst []]), .tup (((zrs w).drop 1).map W.int ++ [.dct [] []])]
theorem ok_tup {l : List W} (h : l.all plainW = true) : okRow (.tup l) = true := by
  unfold okRow itemsW
  rw [plain_tup, h]; rfl
theorem no_snoc {l : List W} {x : W} (h : betw 0 1 x = false) : rowW (.tup (l ++ [x])) = false := by
  show (l ++ [x]).all (betw 0 1) = false
  rw [List.all_append, List.all_cons, h, Bool.false_and, Bool.and_false]
theorem no_cons {l : List W} {x : W} (h : betw 0 1 x = false) : rowW (.tup (x :: l)) = false := by
  show (x :: l).all (betw 0 1) = false
  rw [List.all_cons, h, Bool.false_and]
theorem plain_ints (l : List Int) : (l.map W.int).all plainW = true := by
  rw [List.all_map, List.all_eq_true]
  exact fun _ _ => plain_int
theorem plain_snoc {l : List Int} {x : W} (h : plainW x = true) : (l.map W.int ++ [x]).all plainW = true := by
  rw [List.all_append, plain_ints, List.all_cons, h]; rfl
theorem plain_rep {w : Nat} {x : W} (h : plainW x = true) : (List.replicate w x).all plainW = true := by
  rw [List.all_eq_true]
  intro y hy
  rw [List.eq_of_mem_replicate hy]; exact h
def NoRow (w : Nat) (o : W) (st : Sto) : Prop := okRow o = true ∧ (rowW o = false ∨ ∃ k : Int, oLen [o] st = .ok (.int k) st ∧ k ≠ (w : Nat))
theorem no_bits {w : Nat} {r : List Int} {st : Sto} (h : r.length ≠ w) : NoRow w (bits r) st := ⟨bits_ok r, .inr ⟨(r.length : Nat), by show oLen [.tup _] _ = _; rw [x_len_tup, List.length_map], by omega⟩⟩
theorem no_rep {w : Nat} {x : W} {st : Sto} (h1 : 1 ≤ w) (h : plainW x = true) (h2 : betw 0 1 x = false) : NoRow w (.tup (List.replicate w x)) st := by
  obtain ⟨m, rfl⟩ : ∃ m, w = m + 1 := ⟨w - 1, by omega⟩
  exact ⟨ok_tup (plain_rep h), .inl (by rw [List.replicate_succ]; exact no_cons h2)⟩
theorem plain_deep (k : Nat) : plainW (deepW k) = true := by
  obtain ⟨l, e, _⟩ := deep_lst k
  rw [e]; exact plain_lst
theorem betw_deep (k : Nat) : betw 0 1 (deepW k) = false := by
  obtain ⟨l, e, _⟩ := deep_lst k
  rw [e]; rfl
theorem ok_oth {o : W} (h : plainW o = true) (hi : itemsW o = []) : okRow o = true := by
  unfold okRow
  rw [h, hi]; rfl
theorem odd_bad {w : Nat} {d : Wc} {st : Sto} (h1 : 1 ≤ w) : ∀ o ∈ oddA w ++ oddB w (rdr w d), NoRow w o st := by
  intro o ho
  have e : oddA w ++ oddB w (rdr w d) = [.non, .lst ((zrs w).map W.int), bits (zrs w ++ [0]), bits ((zrs w).drop 1), .tup (((zrs w).drop 1).map W.int ++ [.int 2]), .tup (((zrs w).drop 1).map W.int ++ [.bl true]), .str (Txt.mul "0" (w : Nat)), .int 0, .tup [bits (zrs w)], .dct [] [], .tup (List.replicate w (.lst [.int 0])), .tup ([.tup [], .lst [.lst []]] ++ (zrs w).map W.int), .tup (List.replicate w (deepW 27)), deepW 27, rdr w d, .tup (((zrs w).drop 1).map W.int ++ [.lst []]), .tup (((zrs w).drop 1).map W.int ++ [.dct [] []])] := rfl
  rw [e] at ho
  simp only [List.mem_cons, List.not_mem_nil, or_false] at ho
  rcases ho with rfl | rfl | rfl | rfl | rfl | rfl | rfl | rfl | rfl | rfl | rfl | rfl | rfl | rfl | rfl | rfl | rfl
  · exact ⟨ok_oth rfl rfl, .inl rfl⟩
  · exact ⟨ok_oth plain_lst rfl, .inl rfl⟩
  · exact no_bits (by rw [List.length_append, zrs_len]; simp)
  · exact no_bits (by rw [List.length_drop, zrs_len]; omega)
  · exact ⟨ok_tup (plain_snoc rfl), .inl (no_snoc rfl)⟩
  · exact ⟨ok_tup (plain_snoc rfl), .inl (no_snoc rfl)⟩
  · exact ⟨ok_oth plain_str rfl, .inl rfl⟩
  · exact ⟨ok_oth plain_int rfl, .inl rfl⟩
  · exact ⟨ok_tup (by rw [List.all_cons, show plainW (bits (zrs w)) = true from plain_tup]; rfl), .inl (no_cons rfl)⟩
  · exact ⟨ok_oth rfl rfl, .inl rfl⟩
  · exact no_rep h1 plain_lst rfl
  · exact ⟨ok_tup (by rw [List.all_append, plain_ints]; rfl), .inl (no_cons rfl)⟩
  · exact no_rep h1 (plain_deep 27) (betw_deep 27)
  · obtain ⟨l, e, _⟩ := deep_lst 27
    rw [e]
    exact ⟨ok_oth plain_lst rfl, .inl rfl⟩
  · exact ⟨ok_oth rfl rfl, .inl rfl⟩
  · exact ⟨ok_tup (plain_snoc rfl), .inl (no_snoc rfl)⟩
  · exact ⟨ok_tup (plain_snoc rfl), .inl (no_snoc rfl)⟩
/-- the odd values as the law makes them -/
theorem flat_rep {α : Type} (x : α) : ∀ w : Nat, (List.replicate w [x]).flatten = List.replicate w x
  | 0 => rfl
  | w + 1 => by rw [List.replicate_succ, List.flatten_cons, flat_rep x w, List.replicate_succ]; rfl
theorem mulX_one {w : Nat} {x : W} {st : Sto} (h : w ≤ 4) : oMulX (.tup [x]) (.int (w : Nat)) st = .ok (.tup (List.replicate w x)) st := by
  show (if [x] = [] then Out.bad else if dec (-1000 ≤ ((w : Nat) : Int) ∧ ((w : Nat) : Int) ≤ 1000 ∧ [x].length ≤ 1000) = true then Out.ok (W.tup (List.replicate ((w : Nat) : Int).toNat [x]).flatten) st else .bad) = _
  rw [if_neg (by simp), if_pos (dec_mk ⟨by omega, by omega, by simp⟩), Int.toNat_natCast, flat_rep]
theorem mulL_one {w : Nat} {x : W} {st : Sto} (h : w ≤ 4) : oMulL (.lst [x]) (.int (w : Nat)) st = .ok (.lst (List.replicate w x)) st := by
  show (if dec (-1000 ≤ ((w : Nat) : Int) ∧ ((w : Nat) : Int) ≤ 1000 ∧ [x].length ≤ 1000) = true then Out.ok (W.lst (List.replicate ((w : Nat) : Int).toNat [x]).flatten) st else .bad) = _
  rw [if_pos (dec_mk ⟨by omega, by omega, by simp⟩), Int.toNat_natCast, flat_rep]
theorem mulS_one {w : Nat} {st : Sto} (h : w ≤ 4) : oMulS (.str "0") (.int (w : Nat)) st = .ok (.str (Txt.mul "0" (w : Nat))) st := by
  show (if dec ((("0" : Str)).length = 1 ∧ 0 ≤ ((w : Nat) : Int) ∧ ((w : Nat) : Int) ≤ 1000) = true then Out.ok (W.str (Txt.mul "0" (w : Nat))) st else .bad) = _
  rw [if_pos (dec_mk ⟨rfl, by omega, by omega⟩)]
theorem rep_zrs (w : Nat) : W.tup (List.replicate w (.int 0)) = bits (zrs w) := by
  unfold bits zrs
  rw [List.map_replicate]
theorem rep_zrL (w : Nat) : W.lst (List.replicate w (.int 0)) = .lst ((zrs w).map W.int) := by
  unfold zrs
  rw [List.map_replicate]
theorem add_tup {a b : List W} {st : Sto} (h : a.length + b.length ≤ 1000) : oAdd (.tup a) (.tup b) st = .ok (.tup (a ++ b)) st := by
  show (if a.length + b.length ≤ LINE then Out.ok (W.tup (a ++ b)) st else .bad) = _
  rw [if_pos (by unfold LINE; omega)]
theorem add_lst {a b : List W} {st : Sto} (h : a.length + b.length ≤ 1000) : oAdd (.lst a) (.lst b) st = .ok (.lst (a ++ b)) st := by
  show (if a.length + b.length ≤ LINE then Out.ok (W.lst (a ++ b)) st else .bad) = _
  rw [if_pos (by unfold LINE; omega)]
theorem cut_one {w : Nat} {st : Sto} (h : 1 ≤ w) : oSl (bits (zrs w)) (some 1) none st = .ok (.tup (((zrs w).drop 1).map W.int)) st := by
  have e : cutW ((zrs w).map W.int) (some ((1 : Nat) : Int)) none = ((zrs w).drop 1).map W.int := by
    rw [cut_from (by rw [List.length_map, zrs_len]; exact h), List.map_drop]
  show Out.ok (W.tup (cutW ((zrs w).map W.int) (some 1) none)) st = _
  rw [show (1 : Int) = ((1 : Nat) : Int) from rfl, e]

end SL
namespace SL
open PySem PySem.Spec PyProof.Rows L2
/-! ## the law -/
theorem isd_cell {n : Nat} {d : Wc} {st : Sto} (h : st[n]? = some (wC d)) : oIsi [.cell n, .ty "dict"] st = .ok (.bl true) st := by
  have ty : tyW st (.cell n) = some "dict" := by
    show (match st[n]? with | some (Cel.lst _) => some "list" | some (.dct ks _) => if tlK ks = true then none else some "dict" | some (.frz (.lst _)) => some "list" | some (.frz (.tup _)) => some "tuple" | _ => none) = _
    rw [h]; rfl
  rw [oIsi_eq ty tyN_dict tyN_dict, subT_dict_dict]
theorem clear_ok {n : Nat} {d : Wc} {st : Sto} {f : Sem} {fr : Fr} (hf : f fr st = .ok (.cell n) st) (h : st[n]? = some (wC d)) : eM0 isDctTL mClearT f fr st = .ok .non (st.set n (wC [])) := by
  have e : dctTL st (.cell n) = some (n, (d.map fun p => keyI p.1), (d.map fun p : List Int × W => p.2)) := by
    show (match st[n]? with | some (.dct (.ty t :: ks) ws) => (if t = "T" then (match mapO keyT ks with | some kk => some (n, kk, ws) | none => none) else none) | _ => none) = _
    rw [h]
    show (if ("T" : String) = "T" then (match mapO keyT (d.map fun p => bits p.1) with | some kk => some (n, kk, (d.map fun p : List Int × W => p.2)) | none => none) else none) = _
    rw [if_pos rfl, mapO_W]
  unfold eM0
  rw [hf, Out.bind_ok]
  unfold isDctTL mClearT
  simp only [e, Option.isSome_some, if_true]
  rfl
theorem len_W {d : Wc} {x : W} {st : Sto} (h : HasD st x d) : oTLen [x] st = .ok (.int (d.length : Nat)) st := by
  show (match dctT st x with | some (kk, _) => Out.ok (W.int kk.length) st | none => .bad) = _
  rw [show dctT st x = _ from h]
  show Out.ok (W.int ((d.map fun p => keyI p.1).length : Nat)) st = _
  rw [List.length_map]
theorem srt_list (d : Wc) : W.lst ((srtW d).map fun p => bits p.1) = seqR true (sortT (d.map (·.1))) := by
  show W.lst ((srtW d).map fun p => bits p.1) = W.lst ((sortT (d.map (·.1))).map bits)
  unfold srtW
  rw [List.map_map]
  rfl
theorem srt_rows {w : Nat} {d : Wc} (K : KnOk w d) : ∀ p ∈ srtW d, p.1.length = w ∧ Bits p.1 := fun p hp => K.row p ((srt_perm K.nd).mem_iff.mp hp)
theorem srt_key {w : Nat} {d : Wc} (K : KnOk w d) : TxV (srtW d) := srt_tx K
theorem TxS_perm {d e : Wc} (p : d.Perm e) : (TxS d).Perm (TxS e) := p.map _
theorem KnOk.filter {w : Nat} {d : Wc} (K : KnOk w d) (f : List Int × W → Bool) : KnOk w (d.filter f) := ⟨K.w1, Nat.le_trans (List.length_filter_le _ _) K.len, fun p hp => K.row p (List.mem_filter.mp hp).1, fun p hp => K.mark p (List.mem_filter.mp hp).1, (List.Sublist.map (fun p : List Int × W => p.1) (List.filter_sublist (p := f) (l := d))).nodup K.nd⟩
theorem mk_okD {w : Nat} {d : Wc} (K : KnOk w d) (r : List Int) : okD 4 (.lst [.str "", mkOf d r]) = true := by
  refine ok_told 2 (by decide +kernel) ?_
  unfold mkOf
  cases h : wget d r with
  | none => rfl
  | some v =>
    unfold wget at h
    obtain ⟨q, hq, rfl⟩ := Option.map_eq_some_iff.mp h
    obtain ⟨z, hz, e⟩ := K.mark q (List.mem_of_find?_eq_some hq)
    rw [e]
    show PyData.strOk z = true
    rcases hz with rfl | rfl | ⟨c, hc, rfl⟩
    · decide +kernel
    · decide +kernel
    · exact strOk_sg (okC_lt hc)
theorem sq_two {a b : W} {st : Sto} {i j : Nat} {fr : Fr} : gTl 2 (gsCons (gNm i) (gsCons (gNm j) (gsNil))) (.lst [a, b]) fr st = some ((fr.set i (some a)).set j (some b)) := rfl
/-- a mark taken out -/
theorem pop_W {n : Nat} {d : Wc} {r : List Int} {st : Sto} {f g : Sem} {fr : Fr} {st1 : Sto} (hf : f fr st = .ok (.cell n) st) (h : st[n]? = some (wC d)) (hg : g fr st = .ok (bits r) st1) (h1 : st1[n]? = some (wC d)) (hm : r ∈ d.map (·.1)) (nd : (d.map (·.1)).Nodup) :
    ∃ v, eDPopT f g fr st = .ok v (st1.set n (wC (d.filter fun p => decide (p.1 ≠ r)))) := by
  have tl : ∀ {T : Sto}, T[n]? = some (wC d) → dctTL T (.cell n) = some (n, (d.map fun p => keyI p.1), (d.map fun p : List Int × W => p.2)) := fun {T} hT => by
    show (match T[n]? with | some (.dct (.ty t :: ks) ws) => (if t = "T" then (match mapO keyT ks with | some kk => some (n, kk, ws) | none => none) else none) | _ => none) = _
    rw [hT]
    show (if ("T" : String) = "T" then (match mapO keyT (d.map fun p => bits p.1) with | some kk => some (n, kk, (d.map fun p : List Int × W => p.2)) | none => none) else none) = _
    rw [if_pos rfl, mapO_W]
  obtain ⟨p, hp, rfl⟩ := List.mem_map.mp hm
  refine ⟨p.2, ?_⟩
  unfold eDPopT
  rw [hf, Out.bind_ok]
  have i1 : isDctTL st (.cell n) = true := by unfold isDctTL; rw [tl h]; rfl
  simp only [i1, if_true, hg, Out.bind_ok, tl h1, keyT_bits]
  have v1 : valT ((d.map fun p => keyI p.1).zip (d.map fun p : List Int × W => p.2)) (keyI p.1) = some p.2 := by rw [val_W, wget_mem nd hp]
  simp only [v1]
  have ek : ((d.map fun p => keyI p.1).filter fun i => decide (i ≠ keyI p.1)).map keyTO = (d.filter fun q => decide (q.1 ≠ p.1)).map fun q => bits q.1 := by
    rw [List.filter_map, ← keys_TO, List.map_map]
    have e : d.filter ((fun i => decide (i ≠ keyI p.1)) ∘ fun q : List Int × W => keyI q.1) = d.filter fun q => decide (q.1 ≠ p.1) := by
      refine List.filter_congr fun q _ => ?_
      show decide (keyI q.1 ≠ keyI p.1) = decide (q.1 ≠ p.1)
      by_cases z : q.1 = p.1
      · simp [z]
      · have z2 : ¬ keyI q.1 = keyI p.1 := fun y => z (keyI_eq.mp y)
        simp [z, z2]
    rw [e, List.map_map]
  have ev : dropTW (d.map fun p => keyI p.1) (d.map fun p : List Int × W => p.2) (keyI p.1) = (d.filter fun q => decide (q.1 ≠ p.1)).map fun q => q.2 := by
    unfold dropTW
    rw [zip_two, List.filter_map, List.map_map]
    have e : d.filter ((fun q : KeyL × W => decide (q.1 ≠ keyI p.1)) ∘ fun a : List Int × W => (keyI a.1, a.2)) = d.filter fun q => decide (q.1 ≠ p.1) := by
      refine List.filter_congr fun q _ => ?_
      show decide (keyI q.1 ≠ keyI p.1) = decide (q.1 ≠ p.1)
      by_cases z : q.1 = p.1
      · simp [z]
      · have z2 : ¬ keyI q.1 = keyI p.1 := fun y => z (keyI_eq.mp y)
        simp [z, z2]
    rw [e]
    rfl
  rw [ek, ev]
  rfl

end SL
namespace SL
open PySem PySem.Spec PyProof.Rows L2
theorem law_true (ns : List Int) (hl : ns.length ≤ 63) (hb : ∀ z ∈ ns, Builtin.Int.intBits z ≤ 1048576) : ∃ st, F_law [.ro (ns.map W.int)] [] = .ok (.bl true) st := by
  obtain ⟨c0, bc0, hbag⟩ := bag_at ns 0 (by omega) (st := []) (fun _ => rfl)
  obtain ⟨w, d, c1, w1, w4, K, bc1, hdr⟩ := drawn_ok (n := 0) (st := [c0]) (c := c0) rfl bc0
  have hbag' : F_law_bag [.ro (ns.map W.int), .int 0] [] = .ok (.cell 0) [c0] := hbag
  have hdr' : F_law_drawn [.cell 0] [c0] = .ok (.lst [.int (w : Nat), .cell 1]) [c1, wC d] := hdr
  have tx := kn_tx K
  have txs := srt_key K
  have o1 : ∀ m, oldW m c1 = true := fun m => bag_old bc1
  have oD : ∀ (e : Wc), TxV e → ∀ m, oldW m (wC e) = true := fun e he m => old_wC he m
  have oE : ∀ m, oldW m (wC []) = true := fun m => rfl
  let R := rdr w (srtW d)
  -- the loops
  have S0 : ∀ k : Nat, ∀ m, ([c1, wC d] ++ List.replicate k (wC [])).all (oldW m) = true := fun k m => by
    rw [List.all_append, List.all_cons, List.all_cons, o1, oD d tx]
    simp only [List.all_nil, Bool.and_self, Bool.true_and, List.all_eq_true]
    intro x hx
    rw [List.eq_of_mem_replicate hx]; exact oE m
  have at1 : ∀ (c : Cel) (k : Nat), ([c, wC d] ++ List.replicate k (wC []))[1]? = some (wC d) := fun c k => rfl
  obtain ⟨fr1, st1, e1, ⟨u6, u12, rfl, rfl⟩⟩ := x_for (f := iRng rg1 (aCons (eC (.int 2)) (aNil))) (g := gNm 6) (b := sSeq (sAsg (eProp "Reader" "marks" F_Reader_marks (eVar 5)) (gNm 12)) (sSeq (sIf (bOr (bNot (bOf (eN oIsi (aCons (eVar 12) (aCons (eC (.ty "dict")) (aNil)))))) (bOr (bOf (e2 oNe (eN oListDT (aCons (eVar 12) (aNil))) (eN oSortDT (aCons (eVar 3) (aNil))))) (bOr (bOf (e2 oNeT (eVar 12) (eVar 3))) (bOf (e2 oNe (eFld ["Reader"] "width" (eVar 5)) (eVar 2)))))) (sRet (eC (.bl false))) (sNil)) (sExp (eM0 isDctTL mClearT (eVar 12)))))
    (fr := [some (.ro (ns.map W.int)), some (.cell 0), some (.int (w : Nat)), some (.cell 1), some (.cell 2), some R, none, none, none, none, none, none, none]) (st := [c1, wC d] ++ List.replicate 1 (wC [])) (st1 := [c1, wC d] ++ List.replicate 1 (wC [])) (x := .non) (all := rngW 0 1 2)
    (x_rng1 (j := 2) (by simp) (by omega) (by omega))
    (fun k fr T => ∃ u6 u12 : Option W, fr = [some (.ro (ns.map W.int)), some (.cell 0), some (.int (w : Nat)), some (.cell 1), some (.cell 2), some R, u6, none, none, none, none, none, u12] ∧ T = [c1, wC d] ++ List.replicate (k + 1) (wC []))
    ⟨none, none, rfl, rfl⟩ (fun _ _ _ _ => trivial) (by
      rintro k fr T v ⟨u6, u12, rfl, rfl⟩ hv
      refine ⟨_, [some (.ro (ns.map W.int)), some (.cell 0), some (.int (w : Nat)), some (.cell 1), some (.cell 2), some R, some v, none, none, none, none, none, some (.cell (k + 3))], _, rfl, .inl ?_, some v, some (.cell (k + 3)), rfl, rfl⟩
      generalize hT : [c1, wC d] ++ List.replicate (k + 1) (wC []) = T
      have lT : T.length = k + 3 := by rw [← hT, List.length_append, List.length_replicate]; show 2 + (k + 1) = _; omega
      have aT : T[1]? = some (wC d) := by rw [← hT]; rfl
      have oT : ∀ m, T.all (oldW m) = true := by rw [← hT]; exact S0 (k + 1)
      have T2 : [c1, wC d] ++ List.replicate (k + 1 + 1) (wC []) = T ++ [wC []] := by rw [← hT, List.replicate_succ', List.append_assoc]
      rw [T2]
      have p := marks_prop (w := w) (d := srtW d) (st := T) (f := eVar 5) (fr := [some (.ro (ns.map W.int)), some (.cell 0), some (.int (w : Nat)), some (.cell 1), some (.cell 2), some R, some v, none, none, none, none, none, u12]) rfl (srt_rows K) (by omega) txs oT
      rw [lT] at p
      show sSeq _ _ [some (.ro (ns.map W.int)), some (.cell 0), some (.int (w : Nat)), some (.cell 1), some (.cell 2), some R, some v, none, none, none, none, none, u12] T = _
      refine asg_to p ?_
      have aN : (T ++ [wC (srtW d)])[k + 3]? = some (wC (srtW d)) := by rw [← lT]; exact get_new
      have a1 : (T ++ [wC (srtW d)])[1]? = some (wC d) := by rw [List.getElem?_append_left (by omega)]; exact aT
      have q1 := isd_cell aN
      have q2 := (hasC aN).lst
      have q3 := (hasC a1).sort K.row w1
      have q4 := (hasC aN).ne (hasC a1) txs tx
      rw [sameT_refl (TxS_nodup ((srt_perm K.nd).map (·.1) |>.nodup_iff.mpr K.nd)) (TxS_perm (srt_perm K.nd))] at q4
      rw [srt_list] at q2
      have q3' : oSortDT [.cell 1] (T ++ [wC (srtW d)]) = .ok (seqR true (sortT (d.map (·.1)))) (T ++ [wC (srtW d)]) := q3
      have q5 : ∀ fr : Fr, fr = [some (.ro (ns.map W.int)), some (.cell 0), some (.int (w : Nat)), some (.cell 1), some (.cell 2), some R, some v, none, none, none, none, none, some (.cell (k + 3))] → eFld ["Reader"] "width" (eVar 5) fr (T ++ [wC (srtW d)]) = .ok (.int (w : Nat)) (T ++ [wC (srtW d)]) := fun fr h => by subst h; rfl
      refine if_no (st1 := T ++ [wC (srtW d)]) (st2 := T ++ [wC (srtW d)]) (by
        show bOr _ _ [some (.ro (ns.map W.int)), some (.cell 0), some (.int (w : Nat)), some (.cell 1), some (.cell 2), some R, some v, none, none, none, none, none, some (.cell (k + 3))] _ = _
        simp only [x_bOr, x_bNot, x_bOf, x_2, x_N, x_aCons, x_aNil, x_var, x_c, fg2, fg3, fg12, Out.bind_ok, q1, q2, q3', q4, q5 _ rfl, ne_rows, x_neI, decide_true, Bool.not_true, Bool.false_eq_true, if_false]) rfl ?_
      have q6 := clear_ok (f := eVar 12) (fr := [some (.ro (ns.map W.int)), some (.cell 0), some (.int (w : Nat)), some (.cell 1), some (.cell 2), some R, some v, none, none, none, none, none, some (.cell (k + 3))]) (st := T ++ [wC (srtW d)]) rfl aN
      show sExp _ [some (.ro (ns.map W.int)), some (.cell 0), some (.int (w : Nat)), some (.cell 1), some (.cell 2), some R, some v, none, none, none, none, none, some (.cell (k + 3))] _ = _
      rw [x_exp, q6, Out.stm_ok, ← lT, set_new])
  rw [rngW_len] at e1
  obtain ⟨fr2, st2, e2', ⟨u7, rfl, rfl⟩⟩ := x_for (f := iSeq (eCall F_law_rows (aCons (eVar 2) (aNil)))) (g := gNm 7) (b := sIf (bNot (bOf (eCall (F_law_alike 4) (aCons (eCall F_law_asked (aCons (eVar 5) (aCons (eVar 7) (aNil)))) (aCons (eN oLst (aCons (eC (.str "")) (aCons (eTGet1 (eVar 3) (eVar 7)) (aNil)))) (aNil)))))) (sRet (eC (.bl false))) (sNil))
    (fr := [some (.ro (ns.map W.int)), some (.cell 0), some (.int (w : Nat)), some (.cell 1), some (.cell 2), some R, u6, none, none, none, none, none, u12]) (st := [c1, wC d, wC [], wC [], wC []]) (st1 := [c1, wC d, wC [], wC [], wC []]) (x := .lst ((sortT (rowsL w)).map bits)) (all := (sortT (rowsL w)).map bits)
    (by
      have e := rows_sorted (n := w) (st := [c1, wC d, wC [], wC [], wC []]) w1 (by omega)
      simp only [x_iSeq, x_call, x_aCons, x_aNil, x_var, fg2, Out.bind_ok, e]
      rfl)
    (fun k fr T => ∃ u7 : Option W, fr = [some (.ro (ns.map W.int)), some (.cell 0), some (.int (w : Nat)), some (.cell 1), some (.cell 2), some R, u6, u7, none, none, none, none, u12] ∧ T = [c1, wC d, wC [], wC [], wC []])
    ⟨none, rfl, rfl⟩ (fun _ _ _ _ => trivial) (by
      rintro k fr T v ⟨u7, rfl, rfl⟩ hv
      rw [List.getElem?_map] at hv
      obtain ⟨r, hr, rfl⟩ := Option.map_eq_some_iff.mp hv
      obtain ⟨rl, rb⟩ := rowsL_ok w r (sort_mem (List.mem_of_getElem? hr))
      refine ⟨_, [some (.ro (ns.map W.int)), some (.cell 0), some (.int (w : Nat)), some (.cell 1), some (.cell 2), some R, u6, some (bits r), none, none, none, none, u12], _, rfl, .inl ?_, some (bits r), rfl, rfl⟩
      generalize hF : [some (W.ro (ns.map W.int)), some (.cell 0), some (.int (w : Nat)), some (.cell 1), some (.cell 2), some R, u6, some (bits r), none, none, none, none, u12] = fr
      have ak : F_law_asked [R, bits r] [c1, wC d, wC [], wC [], wC []] = .ok (.lst [.str "", mkOf (srtW d) r]) [c1, wC d, wC [], wC [], wC []] := asked_ok (d := srtW d) (mark_ok (w := w) (d := srtW d) (r := r) (st := [c1, wC d, wC [], wC [], wC []]) rb rl)
      rw [srt_get K.nd] at ak
      have gt := (hasC (st := [c1, wC d, wC [], wC [], wC []]) (n := 1) (d := d) rfl).get (r := r) (f := eVar 3) (g := eVar 7) (fr := fr) (by subst hF; rfl) (by subst hF; rfl)
      have v5 : eVar 5 fr [c1, wC d, wC [], wC [], wC []] = .ok R [c1, wC d, wC [], wC [], wC []] := by subst hF; rfl
      have v7 : eVar 7 fr [c1, wC d, wC [], wC [], wC []] = .ok (bits r) [c1, wC d, wC [], wC [], wC []] := by subst hF; rfl
      have al := alike_refl 4 (.lst [.str "", mkOf d r]) [c1, wC d, wC [], wC [], wC []] (mk_okD K r)
      show sIf _ _ _ ([some (W.ro (ns.map W.int)), some (.cell 0), some (.int (w : Nat)), some (.cell 1), some (.cell 2), some R, u6, some (bits r), none, none, none, none, u12]) _ = _
      rw [hF]
      simp only [x_if, x_bNot, x_bOf, x_call, x_N, x_aCons, x_aNil, v5, v7, x_c, Out.bind_ok, ak, gt, x_lst (show [W.str "", mkOf d r].length ≤ 1000 by simp), al, Bool.not_true, Out.stm_ok, Bool.false_eq_true, if_false, x_nil])
  obtain ⟨fr3, st3, e3, ⟨u6', rfl, rfl⟩⟩ := x_for (f := iRng rg1 (aCons (eC (.int 27)) (aNil))) (g := gNm 6) (b := sAsg (eN oLst (aCons (eVar 8) (aNil))) (gNm 8))
    (fr := [some (.ro (ns.map W.int)), some (.cell 0), some (.int (w : Nat)), some (.cell 1), some (.cell 2), some R, u6, some (bits (zrs w)), some (deepW 0), none, none, none, u12]) (st := [c1, wC d, wC [], wC [], wC []]) (st1 := [c1, wC d, wC [], wC [], wC []]) (x := .non) (all := rngW 0 1 27)
    (x_rng1 (j := 27) (by simp) (by omega) (by omega))
    (fun k fr T => ∃ u6' : Option W, fr = [some (.ro (ns.map W.int)), some (.cell 0), some (.int (w : Nat)), some (.cell 1), some (.cell 2), some R, u6', some (bits (zrs w)), some (deepW k), none, none, none, u12] ∧ T = [c1, wC d, wC [], wC [], wC []])
    ⟨u6, rfl, rfl⟩ (fun _ _ _ _ => trivial) (by
      rintro k fr T v ⟨u6', rfl, rfl⟩ hv
      refine ⟨_, [some (.ro (ns.map W.int)), some (.cell 0), some (.int (w : Nat)), some (.cell 1), some (.cell 2), some R, some v, some (bits (zrs w)), some (deepW (k + 1)), none, none, none, u12], _, rfl, .inl ?_, some v, rfl, rfl⟩
      simp only [gNm, fs6, x_asgN, x_N, x_aCons, x_aNil, x_var, fg8, Out.bind_ok, x_lst (show [deepW k].length ≤ 1000 by simp), Out.stm_ok, fs8]
      rfl)
  rw [rngW_len] at e3
  have as1 : oDictCT [.cell 1] [c1, wC d] = .ok (.cell 2) [c1, wC d, wC d] := (hasC (st := [c1, wC d]) (n := 1) (d := d) rfl).copy K.row (by omega)
  -- the odd value
  obtain ⟨q, c2, bc2, q0, q17, pk⟩ := pick_at (n := 0) (m := 17) bc1 (by decide) (by decide +kernel)
  have pk' : F_law_pick [.cell 0, .int 17] [c1, wC d, wC [], wC [], wC []] = .ok (.int q) [c2, wC d, wC [], wC [], wC []] := pk _ rfl
  obtain ⟨o, ho, io⟩ := ix_mem (ws := oddA w ++ oddB w R) (i := q) q0 (by have : (oddA w ++ oddB w R).length = 17 := rfl; omega)
  have bad : F_law_asked [R, o] [c2, wC d, wC [], wC [], wC []] = .ok (.lst [.str "bad", .str "row"]) [c2, wC d, wC [], wC [], wC []] := by
    obtain ⟨g1, g2⟩ := odd_bad (w := w) (d := srtW d) (st := [c2, wC d, wC [], wC [], wC []]) w1 o ho
    exact asked_bad (mark_bad g1 g2)
  -- the other reader
  have o2 : ∀ m, oldW m c2 = true := fun m => bag_old bc2
  have ol2 : ∀ m, ([c2, wC d, wC [], wC [], wC []] : Sto).all (oldW m) = true := fun m => by
    simp only [List.all_cons, List.all_nil, o2, oD d tx, oE, Bool.and_self]
  obtain ⟨b0, bb0, hb1⟩ := bag_at ns 1 (by omega) ol2
  have hb1' : F_law_bag [.ro (ns.map W.int), .int 1] [c2, wC d, wC [], wC [], wC []] = .ok (.cell 5) [c2, wC d, wC [], wC [], wC [], b0] := hb1
  obtain ⟨w2, d2, b1, w21, w24, K2, bb1, hd2⟩ := drawn_ok (n := 5) (st := [c2, wC d, wC [], wC [], wC [], b0]) (c := b0) rfl bb0
  have hd2' : F_law_drawn [.cell 5] [c2, wC d, wC [], wC [], wC [], b0] = .ok (.lst [.int (w2 : Nat), .cell 6]) [c2, wC d, wC [], wC [], wC [], b1, wC d2] := hd2
  have tx2 := kn_tx K2
  have txs2 := srt_key K2
  have o3 : ∀ m, oldW m b1 = true := fun m => bag_old bb1
  generalize hU : ([c2, wC d, wC [], wC [], wC [], b1, wC d2] : Sto) = U
  have lU : U.length = 7 := by rw [← hU]; rfl
  have U0 : U[0]? = some c2 := by rw [← hU]; rfl
  have U1 : U[1]? = some (wC d) := by rw [← hU]; rfl
  have U6 : U[6]? = some (wC d2) := by rw [← hU]; rfl
  have oU : ∀ m, U.all (oldW m) = true := fun m => by
    rw [← hU]
    simp only [List.all_cons, List.all_nil, o2, o3, oD d tx, oD d2 tx2, oE, Bool.and_self]
  rw [hU] at hd2'
  let P : List (Option W) := [some (.ro (ns.map W.int)), some (.cell 0), some (.int (w : Nat)), some (.cell 1), some (.cell 2), some R, u6', some (bits (zrs w)), some (deepW 27), some (.lst (oddA w ++ oddB w R)), some (.lst [.int (w2 : Nat), .cell 6]), none, u12]
  have mk2 : eMake "Reader" F_Reader___init__ (aCons (e2 oIx (eVar 10) (eC (.int 0))) (aCons (e2 oIx (eVar 10) (eC (.int 1))) (aNil))) P U = .ok (rdr w2 (srtW d2)) U := reader_make (n := 6) (by
    have i0 : oIx (.lst [.int (w2 : Nat), .cell 6]) (.int 0) U = .ok (.int (w2 : Nat)) U := rfl
    have i1 : oIx (.lst [.int (w2 : Nat), .cell 6]) (.int 1) U = .ok (.cell 6) U := rfl
    have v10 : eVar 10 P U = .ok (.lst [.int (w2 : Nat), .cell 6]) U := rfl
    simp only [x_aCons, x_aNil, x_2, x_c, v10, Out.bind_ok, i0, i1]) K2 U6 oU
  have eq2 : oEqO "Reader" F_Reader___eq__ R (rdr w2 (srtW d2)) U = .ok (.bl (decide (w = w2) && sameT (TxS (srtW d)) (TxS (srtW d2)))) U := rdr_eq txs txs2
  have nds := ((srt_perm K.nd).map (·.1)).nodup_iff.mpr K.nd
  have nds2 := ((srt_perm K2.nd).map (·.1)).nodup_iff.mpr K2.nd
  rw [sameT_perm (TxS_nodup nds) (TxS_nodup nds2) (TxS_perm (srt_perm K.nd)) (TxS_perm (srt_perm K2.nd))] at eq2
  have lj : oEqLj (.lst [.int (w2 : Nat), .cell 6]) (.lst [.int (w : Nat), .cell 1]) U = .ok (.bl (decide (w = w2) && sameT (TxS d2) (TxS d))) U := by
    have j1 : eqJ U (.int (w2 : Nat)) (.int (w : Nat)) = some (decide (w = w2)) := by
      show eqW U (.int (w2 : Nat)) (.int (w : Nat)) = _
      have e : eqW U (.int (w2 : Nat)) (.int (w : Nat)) = some (decide ((w2 : Int) = (w : Int))) := by
        have := x_eqI (i := (w2 : Nat)) (j := (w : Nat)) (st := U)
        unfold oEq at this
        cases h : eqW U (.int (w2 : Nat)) (.int (w : Nat)) with
        | none => rw [h] at this; cases this
        | some b => rw [h] at this; cases this; rfl
      rw [e]
      by_cases z : w = w2
      · simp [z]
      · have z2 : ¬ ((w2 : Int) = (w : Int)) := fun y => z (by omega)
        simp [z, z2]
    have j2 : eqJ U (.cell 6) (.cell 1) = some (sameT (TxS d2) (TxS d)) := by
      unfold eqJ
      rw [(hasC U6).td tx2, (hasC U1).td tx]
    show (match eqJs U [.int (w2 : Nat), .cell 6] [.int (w : Nat), .cell 1] with | some bs => Out.ok (W.bl (bs.all fun b => b)) U | none => .bad) = _
    unfold eqJs
    rw [j1]
    unfold eqJs
    rw [j2]
    unfold eqJs
    simp
  -- the last return
  have last : ∀ (X : Sto) (d' : Wc), X[1]? = some (wC d) → X[7]? = some (wC d') → (∀ m, X.all (oldW m) = true) → KnOk w d' → sameT (TxS (srtW d)) (TxS (srtW d')) = decide (d.length = 0) →
      sRet (eAnd (e2 (oEqO "Reader" F_Reader___eq__) (eVar 5) (eMake "Reader" F_Reader___init__ (aCons (eVar 2) (aCons (eN oDictCT (aCons (eVar 3) (aNil))) (aNil))))) (e2 oEq (e2 (oEqO "Reader" F_Reader___eq__) (eVar 5) (eMake "Reader" F_Reader___init__ (aCons (eVar 2) (aCons (eVar 11) (aNil))))) (e2 oEq (eN oTLen (aCons (eVar 3) (aNil))) (eC (.int 0)))))
        (P.set 11 (some (.cell 7))) X = .rt (.bl true) (X ++ [wC d]) := fun X d' X1 X7 oX K' hs => by
    generalize hP : P.set 11 (some (.cell 7)) = Q
    have v2 : ∀ T, eVar 2 Q T = .ok (.int (w : Nat)) T := fun T => by subst hP; rfl
    have v3 : ∀ T, eVar 3 Q T = .ok (.cell 1) T := fun T => by subst hP; rfl
    have v5 : ∀ T, eVar 5 Q T = .ok R T := fun T => by subst hP; rfl
    have v11 : ∀ T, eVar 11 Q T = .ok (.cell 7) T := fun T => by subst hP; rfl
    have l1 : 1 < X.length := (List.getElem?_eq_some_iff.mp X1).1
    have l7 : 7 < X.length := (List.getElem?_eq_some_iff.mp X7).1
    have Y1 : (X ++ [wC d])[1]? = some (wC d) := by rw [List.getElem?_append_left l1]; exact X1
    have Y7 : (X ++ [wC d])[7]? = some (wC d') := by rw [List.getElem?_append_left l7]; exact X7
    have oY : ∀ m, (X ++ [wC d]).all (oldW m) = true := all_app oX fun m => by rw [List.all_cons, oD d tx]; rfl
    have cp := (hasC X1).copy K.row (by omega)
    have m1 : eMake "Reader" F_Reader___init__ (aCons (eVar 2) (aCons (eN oDictCT (aCons (eVar 3) (aNil))) (aNil))) Q X = .ok R (X ++ [wC d]) := reader_make (n := X.length) (by simp only [x_aCons, x_aNil, x_N, v2, v3, Out.bind_ok, cp]) K get_new oY
    have m2 : eMake "Reader" F_Reader___init__ (aCons (eVar 2) (aCons (eVar 11) (aNil))) Q (X ++ [wC d]) = .ok (rdr w (srtW d')) (X ++ [wC d]) := reader_make (n := 7) (by simp only [x_aCons, x_aNil, v2, v11, Out.bind_ok]) K' Y7 oY
    have q1 : oEqO "Reader" F_Reader___eq__ R R (X ++ [wC d]) = .ok (.bl true) (X ++ [wC d]) := by
      have e := rdr_eq (w := w) (w2 := w) (st := X ++ [wC d]) txs txs
      rw [sameT_refl (TxS_nodup nds) (.refl _)] at e
      simpa using e
    have q2 : oEqO "Reader" F_Reader___eq__ R (rdr w (srtW d')) (X ++ [wC d]) = .ok (.bl (decide (d.length = 0))) (X ++ [wC d]) := by
      have e := rdr_eq (w := w) (w2 := w) (st := X ++ [wC d]) txs (srt_key K')
      rw [hs] at e
      simpa using e
    have q3 := len_W (hasC Y1)
    have bl : ∀ b : Bool, oEq (.bl b) (.bl b) (X ++ [wC d]) = .ok (.bl true) (X ++ [wC d]) := fun b => by cases b <;> rfl
    have z : decide (((d.length : Nat) : Int) = 0) = decide (d.length = 0) := by
      by_cases y : d.length = 0
      · simp [y]
      · have y2 : ¬ ((d.length : Nat) : Int) = 0 := by omega
        simp [y, y2]
    simp only [x_ret, x_and, x_2, v5, v3, m1, Out.bind_ok, q1, if_true, m2, q2, x_N, x_aCons, x_aNil, q3, x_c, x_eqI, z, bl, Out.stm_ok]
  have U7 : (U ++ [wC d])[7]? = some (wC d) := by rw [← lU]; exact get_new
  have cpU := (hasC U1).copy K.row (by omega)
  rw [lU] at cpU
  have oU7 : ∀ m, (U ++ [wC d]).all (oldW m) = true := all_app oU fun m => by rw [List.all_cons, oD d tx]; rfl
  have tail : ∃ S, sSeq (sIf (bOf (e2 oGt (eN oTLen (aCons (eVar 11) (aNil))) (eC (.int 0)))) (sExp (eDPopT (eVar 11) (e2 oIx (eN oSortDT (aCons (eVar 11) (aNil))) (eCall F_law_pick (aCons (eVar 1) (aCons (eN oTLen (aCons (eVar 11) (aNil))) (aNil))))))) (sNil)) (sRet (eAnd (e2 (oEqO "Reader" F_Reader___eq__) (eVar 5) (eMake "Reader" F_Reader___init__ (aCons (eVar 2) (aCons (eN oDictCT (aCons (eVar 3) (aNil))) (aNil))))) (e2 oEq (e2 (oEqO "Reader" F_Reader___eq__) (eVar 5) (eMake "Reader" F_Reader___init__ (aCons (eVar 2) (aCons (eVar 11) (aNil))))) (e2 oEq (eN oTLen (aCons (eVar 3) (aNil))) (eC (.int 0))))))
      (P.set 11 (some (.cell 7))) (U ++ [wC d]) = .rt (.bl true) S := by
    have v1 : ∀ T, eVar 1 (P.set 11 (some (.cell 7))) T = .ok (.cell 0) T := fun T => rfl
    have v11 : ∀ T, eVar 11 (P.set 11 (some (.cell 7))) T = .ok (.cell 7) T := fun T => rfl
    have ln := len_W (hasC U7)
    by_cases hd : d.length = 0
    · have de : d = [] := List.eq_nil_of_length_eq_zero hd
      have g : decide (0 < ((d.length : Nat) : Int)) = false := decide_eq_false (by omega)
      refine ⟨_, seq_to (fr1 := P.set 11 (some (.cell 7))) (st1 := U ++ [wC d]) ?_ (last (U ++ [wC d]) d (by rw [List.getElem?_append_left (by omega)]; exact U1) U7 oU7 K ?_)⟩
      · simp only [x_if, x_bOf, x_2, x_N, x_aCons, x_aNil, v11, Out.bind_ok, ln, x_c, x_gt, g, Out.stm_ok, Bool.false_eq_true, if_false, x_nil]
      · rw [sameT_refl (TxS_nodup nds) (.refl _), decide_eq_true hd]
    · have pos : 0 < ((d.length : Nat) : Int) := by omega
      have l100 := K.len
      obtain ⟨i, c3, bc3, i0, il, pk3⟩ := pick_at (n := 0) (m := ((d.length : Nat) : Int)) bc2 pos (by
        rw [Int.natAbs_natCast]
        exact Nat.lt_of_le_of_lt (Nat.log2_le_self _) (by omega))
      have V0 : (U ++ [wC d])[0]? = some c2 := by rw [List.getElem?_append_left (by omega)]; exact U0
      have pk3' := pk3 _ V0
      have so := (hasC U7).sort K.row w1
      obtain ⟨x, hx, ix⟩ := ix_mem (ws := (sortT (d.map (·.1))).map bits) (i := i) i0 (by rw [List.length_map, sort_len, List.length_map]; exact il)
      obtain ⟨r, hr, rfl⟩ := List.mem_map.mp hx
      have rm : r ∈ d.map (·.1) := sort_mem hr
      generalize hV : (U ++ [wC d]).set 0 c3 = V at pk3'
      have lV : V.length = 8 := by rw [← hV, List.length_set, List.length_append, lU]; rfl
      have V7 : V[7]? = some (wC d) := by rw [← hV, List.getElem?_set_ne (by decide)]; exact U7
      have V1 : V[1]? = some (wC d) := by rw [← hV, List.getElem?_set_ne (by decide), List.getElem?_append_left (by omega)]; exact U1
      have oV : ∀ m, V.all (oldW m) = true := by rw [← hV]; exact old_setB oU7 fun m => bag_old bc3
      have key : (e2 oIx (eN oSortDT (aCons (eVar 11) (aNil))) (eCall F_law_pick (aCons (eVar 1) (aCons (eN oTLen (aCons (eVar 11) (aNil))) (aNil))))) (P.set 11 (some (.cell 7))) (U ++ [wC d]) = .ok (bits r) V := by
        simp only [x_2, x_N, x_aCons, x_aNil, x_call, v11, v1, Out.bind_ok, so, ln, pk3', ix]
      obtain ⟨vv, pop⟩ := pop_W (r := r) (v11 (U ++ [wC d])) U7 key V7 rm K.nd
      let d' := d.filter fun p => decide (p.1 ≠ r)
      have dl : d'.length < d.length := by
        obtain ⟨p, hp, hpr⟩ := List.mem_map.mp rm
        refine Nat.lt_of_le_of_ne (List.length_filter_le _ _) fun e => ?_
        have := List.length_filter_eq_length_iff.mp e p hp
        simp [hpr] at this
      have g : decide (0 < ((d.length : Nat) : Int)) = true := decide_eq_true pos
      have K' : KnOk w d' := K.filter _
      refine ⟨_, seq_to (fr1 := P.set 11 (some (.cell 7))) (st1 := V.set 7 (wC d')) ?_ (last (V.set 7 (wC d')) d' (by rw [List.getElem?_set_ne (by decide)]; exact V1) (List.getElem?_set_self (by omega)) (old_setB oV fun m => old_wC (kn_tx K') m) K' ?_)⟩
      · simp only [x_if, x_bOf, x_2, x_N, x_aCons, x_aNil, v11, Out.bind_ok, ln, x_c, x_gt, g, Out.stm_ok, if_true]
        rw [x_exp]
        rw [pop, Out.stm_ok]
      · rw [decide_eq_false hd]
        have ne : (TxS (srtW d)).length ≠ (TxS (srtW d')).length := by
          unfold TxS
          rw [List.length_map, List.length_map, (srt_perm K.nd).length_eq, (srt_perm K'.nd).length_eq]
          omega
        unfold sameT
        rw [show ((TxS (srtW d)).length == (TxS (srtW d')).length) = false from by simpa using ne, Bool.false_and]
  obtain ⟨S, hS⟩ := tail
  have main : B_law [some (.ro (ns.map W.int)), none, none, none, none, none, none, none, none, none, none, none, none] [] = .rt (.bl true) S := by
    unfold B_law
    refine asg_to (w := .cell 0) (st1 := [c0]) (by simp only [x_call, x_aCons, x_aNil, x_var, fg0, x_c, Out.bind_ok, hbag']) ?_
    simp only [fs1]
    refine seq_to (fr1 := [some (.ro (ns.map W.int)), some (.cell 0), some (.int (w : Nat)), some (.cell 1), none, none, none, none, none, none, none, none, none]) (st1 := [c1, wC d]) (by
      unfold sAsg
      simp only [x_call, x_aCons, x_aNil, x_var, fg1, Out.bind_ok, hdr', Out.stm_ok, sq_two, fs2, fs3]) ?_
    refine asg_to (w := .cell 2) (st1 := [c1, wC d, wC d]) (by simp only [x_N, x_aCons, x_aNil, x_var, fg3, Out.bind_ok, as1]) ?_
    simp only [fs4]
    refine asg_to (w := R) (st1 := [c1, wC d, wC d]) (reader_make (n := 2) (by simp only [x_aCons, x_aNil, x_var, fg2, fg4, Out.bind_ok]) K rfl fun m => by simp only [List.all_cons, List.all_nil, o1, oD d tx, Bool.and_self]) ?_
    simp only [fs5]
    refine exp_to (w := .non) (st1 := [c1, wC d, wC []]) (clear_ok (n := 2) (d := d) (st := [c1, wC d, wC d]) rfl rfl) ?_
    refine seq_to e1 ?_
    refine seq_to e2' ?_
    refine asg_to (w := bits (zrs w)) (st1 := [c1, wC d, wC [], wC [], wC []]) (by
      have t1 : ∀ T, oTup [.int 0] T = .ok (.tup [.int 0]) T := fun T => x_tup (by decide)
      simp only [x_2, x_N, x_aCons, x_aNil, x_c, x_var, fg2, Out.bind_ok, t1, mulX_one w4, rep_zrs]) ?_
    simp only [fs7]
    refine asg_to (w := deepW 0) (st1 := [c1, wC d, wC [], wC [], wC []]) (by simp only [x_N, x_aNil, Out.bind_ok]; exact x_lst (by simp)) ?_
    simp only [fs8]
    refine seq_to e3 ?_
    generalize hT : ([c1, wC d, wC [], wC [], wC []] : Sto) = T at *
    have lz : (zrs w).length ≤ 4 := by rw [zrs_len]; exact w4
    have lz1 : ((zrs w).drop 1).length ≤ 4 := by rw [List.length_drop]; omega
    have t1 : ∀ (x : W), oTup [x] T = .ok (.tup [x]) T := fun x => x_tup (by simp)
    have t0 : oTup [] T = .ok (.tup []) T := x_tup (by simp)
    have t2 : ∀ (x y : W), oTup [x, y] T = .ok (.tup [x, y]) T := fun x y => x_tup (by simp)
    have s1 : ∀ (x : W), oLst [x] T = .ok (.lst [x]) T := fun x => x_lst (by simp)
    have s0 : oLst [] T = .ok (.lst []) T := x_lst (by simp)
    have mL : oMulL (.lst [.int 0]) (.int (w : Nat)) T = .ok (.lst ((zrs w).map W.int)) T := by rw [mulL_one w4, rep_zrL]
    have aB : oAdd (bits (zrs w)) (.tup [.int 0]) T = .ok (bits (zrs w ++ [0])) T := by
      have e := add_tup (a := (zrs w).map W.int) (b := [.int 0]) (st := T) (by rw [List.length_map]; simp; omega)
      have f : W.tup ((zrs w).map W.int ++ [.int 0]) = bits (zrs w ++ [0]) := by unfold bits; rw [List.map_append]; rfl
      rw [← f]; exact e
    have aX : ∀ x : W, oAdd (.tup (((zrs w).drop 1).map W.int)) (.tup [x]) T = .ok (.tup (((zrs w).drop 1).map W.int ++ [x])) T := fun x => add_tup (by rw [List.length_map]; simp; omega)
    have ct := cut_one (w := w) (st := T) w1
    have cB : W.tup (((zrs w).drop 1).map W.int) = bits ((zrs w).drop 1) := rfl
    generalize hF : [some (W.ro (ns.map W.int)), some (.cell 0), some (.int (w : Nat)), some (.cell 1), some (.cell 2), some R, u6', some (bits (zrs w)), some (deepW 27), none, none, none, u12] = F
    have v2 : eVar 2 F T = .ok (.int (w : Nat)) T := by subst hF; rfl
    have v7 : eVar 7 F T = .ok (bits (zrs w)) T := by subst hF; rfl
    refine asg_to (w := .lst (oddA w)) (st1 := T) (by
      simp only [x_N, x_aCons, x_aNil, x_c, x_2, x_sl, x_pYes, x_pNo, v2, v7, Out.bind_ok, s1, mL, t1, aB, ct, aX, mulS_one w4]
      exact x_lst (by simp)) ?_
    subst hF
    simp only [fs9]
    generalize hF : [some (W.ro (ns.map W.int)), some (.cell 0), some (.int (w : Nat)), some (.cell 1), some (.cell 2), some R, u6', some (bits (zrs w)), some (deepW 27), some (.lst (oddA w)), none, none, u12] = F
    have v2 : eVar 2 F T = .ok (.int (w : Nat)) T := by subst hF; rfl
    have v5 : eVar 5 F T = .ok R T := by subst hF; rfl
    have v7 : eVar 7 F T = .ok (bits (zrs w)) T := by subst hF; rfl
    have v8 : eVar 8 F T = .ok (deepW 27) T := by subst hF; rfl
    have v9 : eVar 9 F T = .ok (.lst (oddA w)) T := by subst hF; rfl
    have aC : oAdd (.tup [.tup [], .lst [.lst []]]) (bits (zrs w)) T = .ok (.tup ([.tup [], .lst [.lst []]] ++ (zrs w).map W.int)) T := add_tup (by rw [List.length_map]; simp; omega)
    have aL : oAdd (.lst (oddA w)) (.lst (oddB w R)) T = .ok (.lst (oddA w ++ oddB w R)) T := add_lst (show (10 : Nat) + 7 ≤ 1000 by omega)
    have lB : oLst (oddB w R) T = .ok (.lst (oddB w R)) T := x_lst (show (7 : Nat) ≤ 1000 by omega)
    refine asg_to (w := .lst (oddA w ++ oddB w R)) (st1 := T) (by
      simp only [x_N, x_aCons, x_aNil, x_c, x_2, x_sl, x_pYes, x_pNo, v2, v5, v7, v8, v9, Out.bind_ok, s0, s1, t0, t1, t2, mulX_one w4, aC, ct, aX]
      show (oLst (oddB w R) T).bind (fun y st2 => oAdd (.lst (oddA w)) y st2) = _
      rw [lB, Out.bind_ok, aL]) ?_
    subst hF
    simp only [fs9]
    subst hT
    refine if_no (st1 := [c2, wC d, wC [], wC [], wC []]) (st2 := [c2, wC d, wC [], wC [], wC []]) (by
      have lbr : ∀ T : Sto, oLst [.str "bad", .str "row"] T = .ok (.lst [.str "bad", .str "row"]) T := fun T => x_lst (by simp)
      have io' := io [c2, wC d, wC [], wC [], wC []]
      have nt := ne_two (a := "bad") (b := "row") (st := [c2, wC d, wC [], wC [], wC []]) (by decide +kernel) (by decide +kernel)
      simp only [x_bOf, x_2, x_call, x_N, x_aCons, x_aNil, x_c, x_var, fg1, fg5, fg9, Out.bind_ok, pk', io', bad, lbr, nt]) rfl ?_
    refine asg_to (w := .lst [.int (w2 : Nat), .cell 6]) (st1 := U) (by simp only [x_call, x_aCons, x_aNil, x_var, fg0, x_c, Out.bind_ok, hb1', hd2']) ?_
    simp only [fs10]
    refine if_no (st1 := U) (st2 := U) (by
      have l2 : oLst [.int (w : Nat), .cell 1] U = .ok (.lst [.int (w : Nat), .cell 1]) U := x_lst (by simp)
      show (bOf (e2 oNe (e2 (oEqO "Reader" F_Reader___eq__) (eVar 5) (eMake "Reader" F_Reader___init__ (aCons (e2 oIx (eVar 10) (eC (.int 0))) (aCons (e2 oIx (eVar 10) (eC (.int 1))) (aNil))))) (e2 oEqLj (eVar 10) (eN oLst (aCons (eVar 2) (aCons (eVar 3) (aNil))))))) P U = _
      have v5 : eVar 5 P U = .ok R U := rfl
      have v10 : eVar 10 P U = .ok (.lst [.int (w2 : Nat), .cell 6]) U := rfl
      have v2 : eVar 2 P U = .ok (.int (w : Nat)) U := rfl
      have v3 : eVar 3 P U = .ok (.cell 1) U := rfl
      have e1 : (e2 (oEqO "Reader" F_Reader___eq__) (eVar 5) (eMake "Reader" F_Reader___init__ (aCons (e2 oIx (eVar 10) (eC (.int 0))) (aCons (e2 oIx (eVar 10) (eC (.int 1))) (aNil))))) P U = .ok (.bl (decide (w = w2) && sameT (TxS d2) (TxS d))) U := by
        rw [x_2, v5, Out.bind_ok, mk2, Out.bind_ok, eq2]
      have e2' : (e2 oEqLj (eVar 10) (eN oLst (aCons (eVar 2) (aCons (eVar 3) (aNil))))) P U = .ok (.bl (decide (w = w2) && sameT (TxS d2) (TxS d))) U := by
        simp only [x_2, x_N, x_aCons, x_aNil, v10, v2, v3, Out.bind_ok, l2, lj]
      rw [x_bOf, x_2, e1, Out.bind_ok, e2', Out.bind_ok, ne_bl]
      simp) rfl ?_
    refine asg_to (w := .cell 7) (st1 := U ++ [wC d]) (by
      show (eN oDictCT (aCons (eVar 3) (aNil))) P U = _
      have v3 : eVar 3 P U = .ok (.cell 1) U := rfl
      simp only [x_N, x_aCons, x_aNil, v3, Out.bind_ok, cpU]) ?_
    exact hS
  refine ⟨[], mk_rt2 (st := []) (ex := S) main (fun _ _ => rfl) rfl⟩

end SL
namespace SL
open PySem PySem.Spec PyProof.Rows L2
theorem exT_ok {K : PySem.W.Frag} {mg : Str → Option Value} {C_BadReader C_LabelError C_BadRow : Addr} (g_BadReader : mg "BadReader" = some (.ref C_BadReader)) (g_LabelError : mg "LabelError" = some (.ref C_LabelError)) (g_BadRow : mg "BadRow" = some (.ref C_BadRow)) (p_BadReader_LabelError : PySem.W.exmOne K (.ref C_BadReader) (.ref C_LabelError) = some true) (p_BadRow_LabelError : PySem.W.exmOne K (.ref C_BadRow) (.ref C_LabelError) = some true) : ExTOk K mg exT := by
  intro c c2 b h C C2 hc hc2
  unfold exT at h
  repeat' split at h
  all_goals first
    | (cases h; done)
    | (cases h; subst_vars; cases hc.symm.trans g_BadReader; cases hc2.symm.trans g_LabelError; exact p_BadReader_LabelError)
    | (cases h; subst_vars; cases hc.symm.trans g_BadRow; cases hc2.symm.trans g_LabelError; exact p_BadRow_LabelError)
theorem isT_ok {K : PySem.W.Frag} {mg : Str → Option Value} {C_BadReader C_BadRow : Addr} (g_BadReader : mg "BadReader" = some (.ref C_BadReader)) (g_BadRow : mg "BadRow" = some (.ref C_BadRow)) (x_BadReader : ExcC K C_BadReader) (x_BadRow : ExcC K C_BadRow) (p_BadReader_BadRow : PySem.W.kitOne K (.ref C_BadReader) (.ref C_BadRow) = some false) (p_BadRow_BadRow : PySem.W.kitOne K (.ref C_BadRow) (.ref C_BadRow) = some true) : IxOk K mg isT := ⟨by
  intro c c2 b h C C2 hc hc2
  unfold isT at h
  repeat' split at h
  all_goals first
    | (cases h; done)
    | (cases h; subst_vars; cases hc.symm.trans g_BadReader; cases hc2.symm.trans g_BadRow; exact ⟨x_BadReader, p_BadReader_BadRow⟩)
    | (cases h; subst_vars; cases hc.symm.trans g_BadRow; cases hc2.symm.trans g_BadRow; exact ⟨x_BadRow, p_BadRow_BadRow⟩)
  ⟩
theorem isV_ok {K : PySem.W.Frag} {mg : Str → Option Value} {C_BadReader C_BadRow : Addr} (g_BadReader : mg "BadReader" = some (.ref C_BadReader)) (g_BadRow : mg "BadRow" = some (.ref C_BadRow)) (x_BadReader : ExcC K C_BadReader) (x_BadRow : ExcC K C_BadRow) (p_BadReader : PySem.W.kitOne K (.ref C_BadReader) (.type "ValueError") = some true) (p_BadRow : PySem.W.kitOne K (.ref C_BadRow) (.type "ValueError") = some true) : IvOk K mg "ValueError" isV := ⟨by
  intro c h C hc
  unfold isV at h
  simp only [Bool.or_eq_true, decide_eq_true_eq] at h
  rcases h with h | h
  · subst h; cases hc.symm.trans g_BadReader; exact ⟨x_BadReader, p_BadReader⟩
  · subst h; cases hc.symm.trans g_BadRow; exact ⟨x_BadRow, p_BadRow⟩
  ⟩
def spLaw (K : PySem.W.Frag) : Sp := fun vs H Q _ => ∃ (a : Addr) (ns : List Int), vs = [.ref a] ∧ SqL K H a (ns.map V.int) ∧ ns.length ≤ 63 ∧ (∀ z ∈ ns, Builtin.Int.intBits z ≤ 1048576) ∧ ∀ H', Q (.bl true) H'
theorem sp_law {K : PySem.W.Frag} {mg : Str → Option Value} (hl : ∀ ns : List Int, ns.length ≤ 63 → (∀ z ∈ ns, Builtin.Int.intBits z ≤ 1048576) → ∃ st, F_law [.ro (ns.map W.int)] [] = .ok (.bl true) st) : ∀ vs H Q E, spLaw K vs H Q E → spF K mg 1 F_law vs H Q E := by
  intro vs H Q E ⟨a, ns, e, hS, h1, h2, hq⟩
  obtain ⟨st, e2⟩ := hl ns h1 h2
  subst e
  exact spF_of hS e2 hq
theorem all_mk {l : PySem.W.OpenLaw} {w : World} {K : PySem.W.Frag} {h : Heap} {mg : Str → Option Value} {fa : Addr} (X : K.In h) (G : h.Ns mainGlobals mg) (hfa : mg "law" = some (.ref fa))
    {f0 : Addr} {od0 an0 : Option Addr} {sl0 : Array (Option Value)} {oc0 kV0 dc0 pm0 cd0 ct0 : Value}
    {f1 : Addr} {od1 an1 : Option Addr} {sl1 : Array (Option Value)} {oc1 kV1 dc1 pm1 cd1 ct1 : Value}
    {f2 : Addr} {od2 an2 : Option Addr} {sl2 : Array (Option Value)} {oc2 kV2 dc2 pm2 cd2 ct2 : Value}
    {f3 : Addr} {od3 an3 : Option Addr} {sl3 : Array (Option Value)} {oc3 kV3 dc3 pm3 cd3 ct3 : Value}
    {f4 : Addr} {od4 an4 : Option Addr} {sl4 : Array (Option Value)} {oc4 kV4 dc4 pm4 cd4 ct4 : Value}
    {f5 : Addr} {od5 an5 : Option Addr} {sl5 : Array (Option Value)} {oc5 kV5 dc5 pm5 cd5 ct5 : Value}
    {f6 : Addr} {od6 an6 : Option Addr} {sl6 : Array (Option Value)} {oc6 kV6 dc6 pm6 cd6 ct6 : Value}
    {f7 : Addr} {od7 an7 : Option Addr} {sl7 : Array (Option Value)} {oc7 kV7 dc7 pm7 cd7 ct7 : Value}
    {f8 : Addr} {od8 an8 : Option Addr} {sl8 : Array (Option Value)} {oc8 kV8 dc8 pm8 cd8 ct8 : Value}
    {pp8 : Addr} {pr8 : List Value}
    {f9 : Addr} {od9 an9 : Option Addr} {sl9 : Array (Option Value)} {oc9 kV9 dc9 pm9 cd9 ct9 : Value}
    {f10 : Addr} {od10 an10 : Option Addr} {sl10 : Array (Option Value)} {oc10 kV10 dc10 pm10 cd10 ct10 : Value}
    {f11 : Addr} {od11 an11 : Option Addr} {sl11 : Array (Option Value)} {oc11 kV11 dc11 pm11 cd11 ct11 : Value}
    {f12 : Addr} {od12 an12 : Option Addr} {sl12 : Array (Option Value)} {oc12 kV12 dc12 pm12 cd12 ct12 : Value}
    {f13 : Addr} {od13 an13 : Option Addr} {sl13 : Array (Option Value)} {oc13 kV13 dc13 pm13 cd13 ct13 : Value}
    {f14 : Addr} {od14 an14 : Option Addr} {sl14 : Array (Option Value)} {oc14 kV14 dc14 pm14 cd14 ct14 : Value}
    {f15 : Addr} {od15 an15 : Option Addr} {sl15 : Array (Option Value)} {oc15 kV15 dc15 pm15 cd15 ct15 : Value}
    {f16 : Addr} {od16 an16 : Option Addr} {sl16 : Array (Option Value)} {oc16 kV16 dc16 pm16 cd16 ct16 : Value}
    {t_SIGNS : Tok}
    {t_WIDEST : Tok}
    {C_Reader : Addr}
    {C_BadReader : Addr}
    {C_LabelError : Addr}
    {C_BadRow : Addr}
    {nm_BadReader qn_BadReader : Str} {N_BadReader : Addr} {bs_BadReader : List Value} {sn_BadReader : List Str} {sub_BadReader : List Value} {ab_BadReader : Bool} {col_BadReader : Option Bool} {dd_BadReader : Option Addr} {m0_BadReader m1_BadReader m2_BadReader m3_BadReader m5_BadReader : Option Value}
    {fi_BadReader : Addr} {odi_BadReader ani_BadReader : Option Addr} {sli_BadReader : Array (Option Value)} {oci_BadReader kVi_BadReader dci_BadReader pmi_BadReader cdi_BadReader cti_BadReader : Value}
    {nm_BadRow qn_BadRow : Str} {N_BadRow : Addr} {bs_BadRow : List Value} {sn_BadRow : List Str} {sub_BadRow : List Value} {ab_BadRow : Bool} {col_BadRow : Option Bool} {dd_BadRow : Option Addr} {m0_BadRow m1_BadRow m2_BadRow m3_BadRow m5_BadRow : Option Value}
    {fi_BadRow : Addr} {odi_BadRow ani_BadRow : Option Addr} {sli_BadRow : Array (Option Value)} {oci_BadRow kVi_BadRow dci_BadRow pmi_BadRow cdi_BadRow cti_BadRow : Value}
    (g_Reader : PySem.W.nsIn K mainGlobals "Reader" = some (some (.ref C_Reader)))
    (g_BadReader : PySem.W.nsIn K mainGlobals "BadReader" = some (some (.ref C_BadReader)))
    (g_LabelError : PySem.W.nsIn K mainGlobals "LabelError" = some (some (.ref C_LabelError)))
    (g_BadRow : PySem.W.nsIn K mainGlobals "BadRow" = some (some (.ref C_BadRow)))
    (a0 : PySem.W.findIn K (.ref C_Reader) "__eq__" = some (some (.ref f0)))
    (i0 : PySem.W.isFn K (.ref f0) = true)
    (l0 : K.lookup f0 = some ⟨oc0, od0, .func (PySem.W.fnOf "__eq__" "Reader.__eq__" (defArgs s_Reader___eq__) (defBody s_Reader___eq__) (defScope s_Reader___eq__) .none kV0 dc0 pm0 an0 cd0 ct0), sl0⟩)
    (c0 : PySem.W.codeIn K cd0 "Reader.__eq__" = true)
    (k0 : PySem.W.keepIn K (.ref f0) = true)
    (a1 : PySem.W.nsIn K mainGlobals "is_mark" = some (some (.ref f1)))
    (l1 : K.lookup f1 = some ⟨oc1, od1, .func (PySem.W.fnOf "is_mark" "is_mark" (defArgs s_is_mark) (defBody s_is_mark) (defScope s_is_mark) .none kV1 dc1 pm1 an1 cd1 ct1), sl1⟩)
    (c1 : PySem.W.codeIn K cd1 "is_mark" = true)
    (k1 : PySem.W.keepIn K (.ref f1) = true)
    (a2 : PySem.W.nsIn K mainGlobals "is_integer" = some (some (.ref f2)))
    (l2 : K.lookup f2 = some ⟨oc2, od2, .func (PySem.W.fnOf "is_integer" "is_integer" (defArgs s_is_integer) (defBody s_is_integer) (defScope s_is_integer) .none kV2 dc2 pm2 an2 cd2 ct2), sl2⟩)
    (c2 : PySem.W.codeIn K cd2 "is_integer" = true)
    (k2 : PySem.W.keepIn K (.ref f2) = true)
    (a3 : PySem.W.nsIn K mainGlobals "is_between_cells" = some (some (.ref f3)))
    (l3 : K.lookup f3 = some ⟨oc3, od3, .func (PySem.W.fnOf "is_between" "is_between" (defArgs s_is_between_cells) (defBody s_is_between_cells) (defScope s_is_between_cells) .none kV3 dc3 pm3 an3 cd3 ct3), sl3⟩)
    (c3 : PySem.W.codeIn K cd3 "is_between" = true)
    (k3 : PySem.W.keepIn K (.ref f3) = true)
    (a4 : PySem.W.nsIn K mainGlobals "is_row" = some (some (.ref f4)))
    (l4 : K.lookup f4 = some ⟨oc4, od4, .func (PySem.W.fnOf "is_row" "is_row" (defArgs s_is_row) (defBody s_is_row) (defScope s_is_row) .none kV4 dc4 pm4 an4 cd4 ct4), sl4⟩)
    (c4 : PySem.W.codeIn K cd4 "is_row" = true)
    (k4 : PySem.W.keepIn K (.ref f4) = true)
    (a5 : PySem.W.nsIn K mainGlobals "are_marks" = some (some (.ref f5)))
    (l5 : K.lookup f5 = some ⟨oc5, od5, .func (PySem.W.fnOf "are_marks" "are_marks" (defArgs s_are_marks) (defBody s_are_marks) (defScope s_are_marks) .none kV5 dc5 pm5 an5 cd5 ct5), sl5⟩)
    (c5 : PySem.W.codeIn K cd5 "are_marks" = true)
    (k5 : PySem.W.keepIn K (.ref f5) = true)
    (a6 : PySem.W.nsIn K mainGlobals "is_between_readers" = some (some (.ref f6)))
    (l6 : K.lookup f6 = some ⟨oc6, od6, .func (PySem.W.fnOf "is_between" "is_between" (defArgs s_is_between_readers) (defBody s_is_between_readers) (defScope s_is_between_readers) .none kV6 dc6 pm6 an6 cd6 ct6), sl6⟩)
    (c6 : PySem.W.codeIn K cd6 "is_between" = true)
    (k6 : PySem.W.keepIn K (.ref f6) = true)
    (a7 : PySem.W.findIn K (.ref C_Reader) "__init__" = some (some (.ref f7)))
    (i7 : PySem.W.isFn K (.ref f7) = true)
    (l7 : K.lookup f7 = some ⟨oc7, od7, .func (PySem.W.fnOf "__init__" "Reader.__init__" (defArgs s_Reader___init__) (defBody s_Reader___init__) (defScope s_Reader___init__) .none kV7 dc7 pm7 an7 cd7 ct7), sl7⟩)
    (c7 : PySem.W.codeIn K cd7 "Reader.__init__" = true)
    (k7 : PySem.W.keepIn K (.ref f7) = true)
    (a8 : PySem.W.findIn K (.ref C_Reader) "marks" = some (some (.ref pp8)))
    (pg8 : PySem.W.specialIn K (.ref pp8) "__get__" = some (some (.builtin "property.__get__")))
    (pt8 : PySem.W.takesIn K (.ref pp8) = some true)
    (pc8 : PySem.W.recIn K pp8 "property" = some (.ref f8 :: pr8))
    (l8 : K.lookup f8 = some ⟨oc8, od8, .func (PySem.W.fnOf "marks" "Reader.marks" (defArgs s_Reader_marks) (defBody s_Reader_marks) (defScope s_Reader_marks) .none kV8 dc8 pm8 an8 cd8 ct8), sl8⟩)
    (c8 : PySem.W.codeIn K cd8 "Reader.marks" = true)
    (k8 : PySem.W.keepIn K (.ref f8) = true)
    (a9 : PySem.W.nsIn K mainGlobals "_law_alike" = some (some (.ref f9)))
    (l9 : K.lookup f9 = some ⟨oc9, od9, .func (PySem.W.fnOf "_law_alike" "_law_alike" (defArgs s_law_alike) (defBody s_law_alike) (defScope s_law_alike) .none kV9 dc9 pm9 an9 cd9 ct9), sl9⟩)
    (c9 : PySem.W.codeIn K cd9 "_law_alike" = true)
    (k9 : PySem.W.keepIn K (.ref f9) = true)
    (a10 : PySem.W.findIn K (.ref C_Reader) "mark" = some (some (.ref f10)))
    (i10 : PySem.W.isFn K (.ref f10) = true)
    (l10 : K.lookup f10 = some ⟨oc10, od10, .func (PySem.W.fnOf "mark" "Reader.mark" (defArgs s_Reader_mark) (defBody s_Reader_mark) (defScope s_Reader_mark) .none kV10 dc10 pm10 an10 cd10 ct10), sl10⟩)
    (c10 : PySem.W.codeIn K cd10 "Reader.mark" = true)
    (k10 : PySem.W.keepIn K (.ref f10) = true)
    (a11 : PySem.W.nsIn K mainGlobals "_law_asked" = some (some (.ref f11)))
    (l11 : K.lookup f11 = some ⟨oc11, od11, .func (PySem.W.fnOf "_law_asked" "_law_asked" (defArgs s_law_asked) (defBody s_law_asked) (defScope s_law_asked) .none kV11 dc11 pm11 an11 cd11 ct11), sl11⟩)
    (c11 : PySem.W.codeIn K cd11 "_law_asked" = true)
    (k11 : PySem.W.keepIn K (.ref f11) = true)
    (a12 : PySem.W.nsIn K mainGlobals "_law_bag" = some (some (.ref f12)))
    (l12 : K.lookup f12 = some ⟨oc12, od12, .func (PySem.W.fnOf "_law_bag" "_law_bag" (defArgs s_law_bag) (defBody s_law_bag) (defScope s_law_bag) .none kV12 dc12 pm12 an12 cd12 ct12), sl12⟩)
    (c12 : PySem.W.codeIn K cd12 "_law_bag" = true)
    (k12 : PySem.W.keepIn K (.ref f12) = true)
    (a13 : PySem.W.nsIn K mainGlobals "_law_pick" = some (some (.ref f13)))
    (l13 : K.lookup f13 = some ⟨oc13, od13, .func (PySem.W.fnOf "_law_pick" "_law_pick" (defArgs s_law_pick) (defBody s_law_pick) (defScope s_law_pick) .none kV13 dc13 pm13 an13 cd13 ct13), sl13⟩)
    (c13 : PySem.W.codeIn K cd13 "_law_pick" = true)
    (k13 : PySem.W.keepIn K (.ref f13) = true)
    (a14 : PySem.W.nsIn K mainGlobals "_law_rows" = some (some (.ref f14)))
    (l14 : K.lookup f14 = some ⟨oc14, od14, .func (PySem.W.fnOf "_law_rows" "_law_rows" (defArgs s_law_rows) (defBody s_law_rows) (defScope s_law_rows) .none kV14 dc14 pm14 an14 cd14 ct14), sl14⟩)
    (c14 : PySem.W.codeIn K cd14 "_law_rows" = true)
    (k14 : PySem.W.keepIn K (.ref f14) = true)
    (a15 : PySem.W.nsIn K mainGlobals "_law_drawn" = some (some (.ref f15)))
    (l15 : K.lookup f15 = some ⟨oc15, od15, .func (PySem.W.fnOf "_law_drawn" "_law_drawn" (defArgs s_law_drawn) (defBody s_law_drawn) (defScope s_law_drawn) .none kV15 dc15 pm15 an15 cd15 ct15), sl15⟩)
    (c15 : PySem.W.codeIn K cd15 "_law_drawn" = true)
    (k15 : PySem.W.keepIn K (.ref f15) = true)
    (a16 : PySem.W.nsIn K mainGlobals "law" = some (some (.ref f16)))
    (l16 : K.lookup f16 = some ⟨oc16, od16, .func (PySem.W.fnOf "law" "law" (defArgs s_law) (defBody s_law) (defScope s_law) .none kV16 dc16 pm16 an16 cd16 ct16), sl16⟩)
    (c16 : PySem.W.codeIn K cd16 "law" = true)
    (k16 : PySem.W.keepIn K (.ref f16) = true)
    (z_ValueError : PySem.W.nsIn K mainGlobals "ValueError" = some none)
    (z_all : PySem.W.nsIn K mainGlobals "all" = some none)
    (z_bool : PySem.W.nsIn K mainGlobals "bool" = some none)
    (z_dict : PySem.W.nsIn K mainGlobals "dict" = some none)
    (z_int : PySem.W.nsIn K mainGlobals "int" = some none)
    (z_isinstance : PySem.W.nsIn K mainGlobals "isinstance" = some none)
    (z_len : PySem.W.nsIn K mainGlobals "len" = some none)
    (z_list : PySem.W.nsIn K mainGlobals "list" = some none)
    (z_range : PySem.W.nsIn K mainGlobals "range" = some none)
    (z_sorted : PySem.W.nsIn K mainGlobals "sorted" = some none)
    (z_str : PySem.W.nsIn K mainGlobals "str" = some none)
    (z_tuple : PySem.W.nsIn K mainGlobals "tuple" = some none)
    (q_SIGNS : PySem.W.nsIn K mainGlobals "SIGNS" = some (some (.str "0123456789abcdefghijklmnopqrstuvwxyz" t_SIGNS)))
    (q_WIDEST : PySem.W.nsIn K mainGlobals "WIDEST" = some (some (.int 6 t_WIDEST)))
    (pg_Reader : PySem.W.plainGet K C_Reader Str.empty = true)
    (d_Reader : PySem.W.hasDictIn K C_Reader = true)
    (po_Reader : PySem.W.plainOver K C_Reader = true)
    (sa_Reader : PySem.W.findIn K (.ref C_Reader) "__setattr__" = some (some (.builtin "object.__setattr__")))
    (ha_Reader : PySem.W.findIn K (.ref C_Reader) "__class__" = some (some (.builtin "object.__class__")))
    (mo_Reader : PySem.W.mroIn K C_Reader (.type "object") = some true)
    (ic_Reader : PySem.W.isClsIn K C_Reader = true)
    (y_Reader : PySem.W.typeIn K (.ref C_Reader) = some (.type "type"))
    (mk_Reader : PySem.W.makesIn K C_Reader = true)
    (kc_Reader : PySem.W.keepIn K (.ref C_Reader) = true)
    (nt_Reader_int : PySem.W.mroIn K C_Reader (.type "int") = some false)
    (nt_Reader_bool : PySem.W.mroIn K C_Reader (.type "bool") = some false)
    (nt_Reader_str : PySem.W.mroIn K C_Reader (.type "str") = some false)
    (nt_Reader_tuple : PySem.W.mroIn K C_Reader (.type "tuple") = some false)
    (nt_Reader_list : PySem.W.mroIn K C_Reader (.type "list") = some false)
    (nt_Reader_dict : PySem.W.mroIn K C_Reader (.type "dict") = some false)
    (nt_Reader_NoneType : PySem.W.mroIn K C_Reader (.type "NoneType") = some false)
    (nf_Reader_known : PySem.W.findIn K (.ref C_Reader) "known" = some none)
    (nf_Reader_width : PySem.W.findIn K (.ref C_Reader) "width" = some none)
    (ocn : PySem.W.specialIn K (.builtin "object.__class__") "__get__" = some (some (.builtin "getset_descriptor.__get__")))
    (oct : PySem.W.takesIn K (.builtin "object.__class__") = some true)
    (e_BadReader : PySem.W.subIn K (.ref C_BadReader) (.type "BaseException") = some true)
    (y_BadReader : PySem.W.typeIn K (.ref C_BadReader) = some (.type "type"))
    (d_BadReader : PySem.W.hasDictIn K C_BadReader = true)
    (e_LabelError : PySem.W.subIn K (.ref C_LabelError) (.type "BaseException") = some true)
    (y_LabelError : PySem.W.typeIn K (.ref C_LabelError) = some (.type "type"))
    (d_LabelError : PySem.W.hasDictIn K C_LabelError = true)
    (e_BadRow : PySem.W.subIn K (.ref C_BadRow) (.type "BaseException") = some true)
    (y_BadRow : PySem.W.typeIn K (.ref C_BadRow) = some (.type "type"))
    (d_BadRow : PySem.W.hasDictIn K C_BadRow = true)
    (x_BadReader : K.lookup C_BadReader = some (excClassObj nm_BadReader qn_BadReader C_BadReader N_BadReader bs_BadReader [.ref C_LabelError, .type "ValueError", .type "Exception", .type "BaseException", .type "object"] true sn_BadReader sub_BadReader ab_BadReader col_BadReader dd_BadReader m0_BadReader m1_BadReader m2_BadReader m3_BadReader m5_BadReader "ValueError.__new__"))
    (sa_BadReader : PySem.W.findIn K (.ref C_BadReader) "__setattr__" = some (some (.builtin "object.__setattr__")))
    (kC_BadReader : PySem.W.keepIn K (.ref C_BadReader) = true)
    (nb_BadReader_part : PySem.W.findIn K (.ref C_BadReader) "part" = some none)
    (ia_BadReader : PySem.W.findIn K (.ref C_BadReader) "__init__" = some (some (.ref fi_BadReader)))
    (it_BadReader : PySem.W.typeIn K (.ref fi_BadReader) = some (.type "function"))
    (il_BadReader : K.lookup fi_BadReader = some ⟨oci_BadReader, odi_BadReader, .func (PySem.W.fnOf "__init__" "BadReader.__init__" (defArgs s_init_BadReader) (defBody s_init_BadReader) (defScope s_init_BadReader) .none kVi_BadReader dci_BadReader pmi_BadReader ani_BadReader cdi_BadReader cti_BadReader), sli_BadReader⟩)
    (ic_BadReader : PySem.W.codeIn K cdi_BadReader "BadReader.__init__" = true)
    (ik_BadReader : PySem.W.keepIn K (.ref fi_BadReader) = true)
    (x_BadRow : K.lookup C_BadRow = some (excClassObj nm_BadRow qn_BadRow C_BadRow N_BadRow bs_BadRow [.ref C_LabelError, .type "ValueError", .type "Exception", .type "BaseException", .type "object"] true sn_BadRow sub_BadRow ab_BadRow col_BadRow dd_BadRow m0_BadRow m1_BadRow m2_BadRow m3_BadRow m5_BadRow "ValueError.__new__"))
    (sa_BadRow : PySem.W.findIn K (.ref C_BadRow) "__setattr__" = some (some (.builtin "object.__setattr__")))
    (kC_BadRow : PySem.W.keepIn K (.ref C_BadRow) = true)
    (nb_BadRow_part : PySem.W.findIn K (.ref C_BadRow) "part" = some none)
    (ia_BadRow : PySem.W.findIn K (.ref C_BadRow) "__init__" = some (some (.ref fi_BadRow)))
    (it_BadRow : PySem.W.typeIn K (.ref fi_BadRow) = some (.type "function"))
    (il_BadRow : K.lookup fi_BadRow = some ⟨oci_BadRow, odi_BadRow, .func (PySem.W.fnOf "__init__" "BadRow.__init__" (defArgs s_init_BadRow) (defBody s_init_BadRow) (defScope s_init_BadRow) .none kVi_BadRow dci_BadRow pmi_BadRow ani_BadRow cdi_BadRow cti_BadRow), sli_BadRow⟩)
    (ic_BadRow : PySem.W.codeIn K cdi_BadRow "BadRow.__init__" = true)
    (ik_BadRow : PySem.W.keepIn K (.ref fi_BadRow) = true)
    (ga_BadReader : PySem.W.findIn K (.ref C_BadReader) "__getattribute__" = some (some (.builtin "BaseException.__getattribute__")))
    (gg_BadReader : PySem.W.findIn K (.ref C_BadReader) "__getattr__" = some none)
    (ga_BadRow : PySem.W.findIn K (.ref C_BadRow) "__getattribute__" = some (some (.builtin "BaseException.__getattribute__")))
    (gg_BadRow : PySem.W.findIn K (.ref C_BadRow) "__getattr__" = some none)
    (ha_BadReader : PySem.W.findIn K (.ref C_BadReader) "__class__" = some (some (.builtin "object.__class__")))
    (mo_BadReader : PySem.W.mroIn K C_BadReader (.type "object") = some true)
    (ki_BadReader_BadRow : PySem.W.subIn K (.ref C_BadReader) (.ref C_BadRow) = some false)
    (ha_BadRow : PySem.W.findIn K (.ref C_BadRow) "__class__" = some (some (.builtin "object.__class__")))
    (mo_BadRow : PySem.W.mroIn K C_BadRow (.type "object") = some true)
    (ki_BadRow_BadRow : PySem.W.subIn K (.ref C_BadRow) (.ref C_BadRow) = some true)
    (kv_BadReader : PySem.W.subIn K (.ref C_BadReader) (.type "ValueError") = some true)
    (kv_BadRow : PySem.W.subIn K (.ref C_BadRow) (.type "ValueError") = some true)
    (kj_BadRow : PySem.W.subIn K (.ref C_BadRow) (.ref C_BadRow) = some true)
    (p_BadReader_LabelError : PySem.W.subIn K (.ref C_BadReader) (.ref C_LabelError) = some true)
    (p_BadRow_LabelError : PySem.W.subIn K (.ref C_BadRow) (.ref C_LabelError) = some true)
    : ∃ fd : FuncData, (∀ (s : Shared) (v : Value), BindsTo s fd ⟨[v], []⟩ [("_law_script", v)]) ∧ ∀ base : Heap, K.In base → base.Ns mainGlobals mg → FnOk l.prog w K mg base (L2.CX l.prog w) 7 fa fd ["_law_script"] (spLaw K) := by
  have e := hfa.symm.trans (PySem.W.mg_of X G a16)
  cases e
  have gg_BadReader_ := PySem.W.mg_of X G g_BadReader
  have gg_LabelError_ := PySem.W.mg_of X G g_LabelError
  have gg_BadRow_ := PySem.W.mg_of X G g_BadRow
  have gg_Reader_ := PySem.W.mg_of X G g_Reader
  have xt : ExTOk K mg exT := exT_ok gg_BadReader_ gg_LabelError_ gg_BadRow_ (PySem.W.exm_ref e_LabelError d_LabelError y_LabelError p_BadReader_LabelError) (PySem.W.exm_ref e_LabelError d_LabelError y_LabelError p_BadRow_LabelError)
  have xx : IxOk K mg isT := isT_ok gg_BadReader_ gg_BadRow_ ⟨ga_BadReader, gg_BadReader, e_BadReader, d_BadReader, ha_BadReader, ocn, oct, mo_BadReader⟩ ⟨ga_BadRow, gg_BadRow, e_BadRow, d_BadRow, ha_BadRow, ocn, oct, mo_BadRow⟩ (kit_is d_BadRow y_BadRow ki_BadReader_BadRow kj_BadRow) (kit_is d_BadRow y_BadRow ki_BadRow_BadRow kj_BadRow)
  have xv : IvOk K mg "ValueError" isV := isV_ok gg_BadReader_ gg_BadRow_ ⟨ga_BadReader, gg_BadReader, e_BadReader, d_BadReader, ha_BadReader, ocn, oct, mo_BadReader⟩ ⟨ga_BadRow, gg_BadRow, e_BadRow, d_BadRow, ha_BadRow, ocn, oct, mo_BadRow⟩ (kit_ty (by decide +kernel) kv_BadReader) (kit_ty (by decide +kernel) kv_BadRow)
  have T : ∀ base : Heap, Txt l.prog w K mg base C_BadReader C_LabelError C_BadRow C_Reader := fun base =>
    { n_ValueError := PySem.W.mg_none_of X G z_ValueError,
      n_all := PySem.W.mg_none_of X G z_all,
      n_bool := PySem.W.mg_none_of X G z_bool,
      n_dict := PySem.W.mg_none_of X G z_dict,
      n_int := PySem.W.mg_none_of X G z_int,
      n_isinstance := PySem.W.mg_none_of X G z_isinstance,
      n_len := PySem.W.mg_none_of X G z_len,
      n_list := PySem.W.mg_none_of X G z_list,
      n_range := PySem.W.mg_none_of X G z_range,
      n_sorted := PySem.W.mg_none_of X G z_sorted,
      n_str := PySem.W.mg_none_of X G z_str,
      n_tuple := PySem.W.mg_none_of X G z_tuple,
      c_SIGNS := ⟨_, PySem.W.mg_of X G q_SIGNS⟩,
      c_WIDEST := ⟨_, PySem.W.mg_of X G q_WIDEST⟩,
      g_BadReader := gg_BadReader_,
      g_LabelError := gg_LabelError_,
      g_BadRow := gg_BadRow_,
      g_Reader := gg_Reader_,
      k_Reader := ⟨⟨pg_Reader, d_Reader, po_Reader, sa_Reader⟩, ha_Reader, ocn, oct, mo_Reader, ic_Reader, y_Reader⟩,
      nt_Reader := noTy_of nt_Reader_int nt_Reader_bool nt_Reader_str nt_Reader_tuple nt_Reader_list nt_Reader_dict nt_Reader_NoneType,
      nf_Reader_known := nf_Reader_known,
      nf_Reader_width := nf_Reader_width,
      E_BadReader := ⟨⟨_, _, _, _, ⟨⟨_, _, _, _, _, _, _, _, _, _, _, _, _, _, _, x_BadReader, rfl⟩, sa_BadReader, e_BadReader, y_BadReader, kC_BadReader⟩, ia_BadReader, it_BadReader, init1 (fun_mk (st := s_init_BadReader) il_BadReader ic_BadReader ik_BadReader) ⟨rfl, rfl, rfl, by decide +kernel, rfl, by decide +kernel, by decide +kernel⟩ rfl ⟨⟨_, _, _, _, _, _, _, _, _, _, _, _, _, _, _, x_BadReader, rfl⟩, sa_BadReader, e_BadReader, y_BadReader, kC_BadReader⟩ nb_BadReader_part (by decide) (by decide), (fun_mk (st := s_init_BadReader) il_BadReader ic_BadReader ik_BadReader).binds (fun _ _ _ _ _ _ us hl => match us, hl with | [_, _], _ => rfl), gg_BadReader_⟩⟩,
      E_BadRow := ⟨⟨_, _, _, _, ⟨⟨_, _, _, _, _, _, _, _, _, _, _, _, _, _, _, x_BadRow, rfl⟩, sa_BadRow, e_BadRow, y_BadRow, kC_BadRow⟩, ia_BadRow, it_BadRow, init1 (fun_mk (st := s_init_BadRow) il_BadRow ic_BadRow ik_BadRow) ⟨rfl, rfl, rfl, by decide +kernel, rfl, by decide +kernel, by decide +kernel⟩ rfl ⟨⟨_, _, _, _, _, _, _, _, _, _, _, _, _, _, _, x_BadRow, rfl⟩, sa_BadRow, e_BadRow, y_BadRow, kC_BadRow⟩ nb_BadRow_part (by decide) (by decide), (fun_mk (st := s_init_BadRow) il_BadRow ic_BadRow ik_BadRow).binds (fun _ _ _ _ _ _ us hl => match us, hl with | [_, _], _ => rfl), gg_BadRow_⟩⟩,
      xf_BadReader := ⟨ga_BadReader, gg_BadReader, e_BadReader, d_BadReader⟩,
      xn_BadReader_part := nb_BadReader_part,
      xf_BadRow := ⟨ga_BadRow, gg_BadRow, e_BadRow, d_BadRow⟩,
      xn_BadRow_part := nb_BadRow_part,
      ext := xt,
      ixt := xx,
      ivt := xv }
  have I0 := fun base => EQ_Reader (T base) (fun_mk (st := s_Reader___eq__) l0 c0 k0) a0 i0 ((fun_mk (st := s_Reader___eq__) l0 c0 k0).binds (ps := ["self", "other"]) fun _ _ _ _ _ _ us hl => match us, hl with | [_, _], _ => rfl)
  have I1 := fun base => I_is_mark (T base) (fun_mk (st := s_is_mark) l1 c1 k1) (PySem.W.mg_of X G a1) ((fun_mk (st := s_is_mark) l1 c1 k1).binds (ps := ["value"]) fun _ _ _ _ _ _ us hl => match us, hl with | [_], _ => rfl)
  have I2 := fun base => I_is_integer (T base) (fun_mk (st := s_is_integer) l2 c2 k2) (PySem.W.mg_of X G a2) ((fun_mk (st := s_is_integer) l2 c2 k2).binds (ps := ["value"]) fun _ _ _ _ _ _ us hl => match us, hl with | [_], _ => rfl)
  have I3 := fun base => I_is_between_cells (T base) (I2 base) (fun_mk (st := s_is_between_cells) l3 c3 k3) (PySem.W.mg_of X G a3) ((fun_mk (st := s_is_between_cells) l3 c3 k3).binds (ps := ["value", "low", "high"]) fun _ _ _ _ _ _ us hl => match us, hl with | [_, _, _], _ => rfl)
  have I4 := fun base => I_is_row (T base) (I3 base) (fun_mk (st := s_is_row) l4 c4 k4) (PySem.W.mg_of X G a4) ((fun_mk (st := s_is_row) l4 c4 k4).binds (ps := ["thing"]) fun _ _ _ _ _ _ us hl => match us, hl with | [_], _ => rfl)
  have I5 := fun base => I_are_marks (T base) (I1 base) (I4 base) (fun_mk (st := s_are_marks) l5 c5 k5) (PySem.W.mg_of X G a5) ((fun_mk (st := s_are_marks) l5 c5 k5).binds (ps := ["value", "width"]) fun _ _ _ _ _ _ us hl => match us, hl with | [_, _], _ => rfl)
  have I6 := fun base => I_is_between_readers (T base) (fun_mk (st := s_is_between_readers) l6 c6 k6) (PySem.W.mg_of X G a6) ((fun_mk (st := s_is_between_readers) l6 c6 k6).binds (ps := ["value", "low", "high"]) fun _ _ _ _ _ _ us hl => match us, hl with | [_, _, _], _ => rfl)
  have I7 := fun base => MK_Reader (T base) (I5 base) (I6 base) (fun_mk (st := s_Reader___init__) l7 c7 k7) ⟨mk_Reader, a7, i7, kc_Reader⟩ ((fun_mk (st := s_Reader___init__) l7 c7 k7).binds (ps := ["self", "width", "marks"]) fun _ _ _ _ _ _ us hl => match us, hl with | [_, _, _], _ => rfl)
  have I8 := fun base => PR_Reader_marks (T base) (fun_mk (st := s_Reader_marks) l8 c8 k8) a8 pg8 pt8 pc8 ((fun_mk (st := s_Reader_marks) l8 c8 k8).binds (ps := ["self"]) fun _ _ _ _ _ _ us hl => match us, hl with | [_], _ => rfl)
  have I9 := fun base => I_law_alike (T base) (fun_mk (st := s_law_alike) l9 c9 k9) (PySem.W.mg_of X G a9) ((fun_mk (st := s_law_alike) l9 c9 k9).binds (ps := ["_law_told", "_law_due"]) fun _ _ _ _ _ _ us hl => match us, hl with | [_, _], _ => rfl) 4
  have I10 := fun base => ME_Reader_mark (T base) (I4 base) (fun_mk (st := s_Reader_mark) l10 c10 k10) a10 i10 ((fun_mk (st := s_Reader_mark) l10 c10 k10).binds (ps := ["self", "row"]) fun _ _ _ _ _ _ us hl => match us, hl with | [_, _], _ => rfl)
  have I11 := fun base => I_law_asked (T base) (I10 base) (fun_mk (st := s_law_asked) l11 c11 k11) (PySem.W.mg_of X G a11) ((fun_mk (st := s_law_asked) l11 c11 k11).binds (ps := ["_law_reader", "_law_row"]) fun _ _ _ _ _ _ us hl => match us, hl with | [_, _], _ => rfl)
  have I12 := fun base => I_law_bag (T base) (fun_mk (st := s_law_bag) l12 c12 k12) (PySem.W.mg_of X G a12) ((fun_mk (st := s_law_bag) l12 c12 k12).binds (ps := ["_law_script", "_law_spot"]) fun _ _ _ _ _ _ us hl => match us, hl with | [_, _], _ => rfl)
  have I13 := fun base => I_law_pick (T base) (fun_mk (st := s_law_pick) l13 c13 k13) (PySem.W.mg_of X G a13) ((fun_mk (st := s_law_pick) l13 c13 k13).binds (ps := ["_law_bag_here", "_law_many"]) fun _ _ _ _ _ _ us hl => match us, hl with | [_, _], _ => rfl)
  have I14 := fun base => I_law_rows (T base) (fun_mk (st := s_law_rows) l14 c14 k14) (PySem.W.mg_of X G a14) ((fun_mk (st := s_law_rows) l14 c14 k14).binds (ps := ["_law_width"]) fun _ _ _ _ _ _ us hl => match us, hl with | [_], _ => rfl)
  have I15 := fun base => I_law_drawn (T base) (I13 base) (I14 base) (fun_mk (st := s_law_drawn) l15 c15 k15) (PySem.W.mg_of X G a15) ((fun_mk (st := s_law_drawn) l15 c15 k15).binds (ps := ["_law_bag_here"]) fun _ _ _ _ _ _ us hl => match us, hl with | [_], _ => rfl)
  exact ⟨_, fun s v => .of_eq rfl, fun base _ _ => FnOk.imp (ok_law (T base) (I0 base) (I7 base) (I8 base) (I9 base) (I11 base) (I12 base) (I15 base) (I13 base) (I14 base) (fun_mk (st := s_law) l16 c16 k16)) (sp_law law_true)⟩
end SL
open PySem PySem.W PyProof.Rows
set_option maxRecDepth 100000 in
set_option maxHeartbeats 0 in
theorem PySem.Challenge.cw_surelabels_k36_readers_told_holds : PySem.Challenge.rw_surelabels_k36_readers_told.Holds := by
  w_on; o_law; k_head; (case hw => w_witness2)
  k_fill
  refine L2.walk_ofB (l := PySem.Challenge.rw_surelabels_k36_readers_told) (n := 63) (k := 7) (x := "_law_script") (CX := fun w => L2.CX (PySem.Challenge.rw_surelabels_k36_readers_told).prog w) (sp := fun w => SL.spLaw _) rfl (by decide) rfl ⟨rfl, by decide, by decide⟩ (fun w h Y => PySem.W.kIn_of Y) ?F (fun w H a ns h1 h2 _ hS => ⟨a, ns, rfl, hS, h1, h2, fun _ => rfl⟩) SL.cx_no
  case F =>
    intro w mg fa h KX G hmg
    refine' SL.all_mk KX G hmg ?g_Reader ?g_BadReader ?g_LabelError ?g_BadRow ?a0 ?i0 ?l0 ?c0 ?k0 ?a1 ?l1 ?c1 ?k1 ?a2 ?l2 ?c2 ?k2 ?a3 ?l3 ?c3 ?k3 ?a4 ?l4 ?c4 ?k4 ?a5 ?l5 ?c5 ?k5 ?a6 ?l6 ?c6 ?k6 ?a7 ?i7 ?l7 ?c7 ?k7 ?a8 ?pg8 ?pt8 ?pc8 ?l8 ?c8 ?k8 ?a9 ?l9 ?c9 ?k9 ?a10 ?i10 ?l10 ?c10 ?k10 ?a11 ?l11 ?c11 ?k11 ?a12 ?l12 ?c12 ?k12 ?a13 ?l13 ?c13 ?k13 ?a14 ?l14 ?c14 ?k14 ?a15 ?l15 ?c15 ?k15 ?a16 ?l16 ?c16 ?k16 ?z_ValueError ?z_all ?z_bool ?z_dict ?z_int ?z_isinstance ?z_len ?z_list ?z_range ?z_sorted ?z_str ?z_tuple ?q_SIGNS ?q_WIDEST ?pg_Reader ?d_Reader ?po_Reader ?sa_Reader ?ha_Reader ?mo_Reader ?ic_Reader ?y_Reader ?mk_Reader ?kc_Reader ?nt_Reader_int ?nt_Reader_bool ?nt_Reader_str ?nt_Reader_tuple ?nt_Reader_list ?nt_Reader_dict ?nt_Reader_NoneType ?nf_Reader_known ?nf_Reader_width ?ocn ?oct ?e_BadReader ?y_BadReader ?d_BadReader ?e_LabelError ?y_LabelError ?d_LabelError ?e_BadRow ?y_BadRow ?d_BadRow ?x_BadReader ?sa_BadReader ?kC_BadReader ?nb_BadReader_part ?ia_BadReader ?it_BadReader ?il_BadReader ?ic_BadReader ?ik_BadReader ?x_BadRow ?sa_BadRow ?kC_BadRow ?nb_BadRow_part ?ia_BadRow ?it_BadRow ?il_BadRow ?ic_BadRow ?ik_BadRow ?ga_BadReader ?gg_BadReader ?ga_BadRow ?gg_BadRow ?ha_BadReader ?mo_BadReader ?ki_BadReader_BadRow ?ha_BadRow ?mo_BadRow ?ki_BadRow_BadRow ?kv_BadReader ?kv_BadRow ?kj_BadRow ?p_BadReader_LabelError ?p_BadRow_LabelError
    (case g_Reader => k_is)
    (case g_BadReader => k_is)
    (case g_LabelError => k_is)
    (case g_BadRow => k_is)
    (case a0 => k_is)
    (case i0 => k_is)
    (case l0 => k_is)
    (case c0 => k_is)
    (case k0 => k_is)
    (case a1 => k_is)
    (case l1 => k_is)
    (case c1 => k_is)
    (case k1 => k_is)
    (case a2 => k_is)
    (case l2 => k_is)
    (case c2 => k_is)
    (case k2 => k_is)
    (case a3 => k_is)
    (case l3 => k_is)
    (case c3 => k_is)
    (case k3 => k_is)
    (case a4 => k_is)
    (case l4 => k_is)
    (case c4 => k_is)
    (case k4 => k_is)
    (case a5 => k_is)
    (case l5 => k_is)
    (case c5 => k_is)
    (case k5 => k_is)
    (case a6 => k_is)
    (case l6 => k_is)
    (case c6 => k_is)
    (case k6 => k_is)
    (case a7 => k_is)
    (case i7 => k_is)
    (case l7 => k_is)
    (case c7 => k_is)
    (case k7 => k_is)
    (case a8 => k_is)
    (case pg8 => k_is)
    (case pt8 => k_is)
    (case pc8 => k_is)
    (case l8 => k_is)
    (case c8 => k_is)
    (case k8 => k_is)
    (case a9 => k_is)
    (case l9 => k_is)
    (case c9 => k_is)
    (case k9 => k_is)
    (case a10 => k_is)
    (case i10 => k_is)
    (case l10 => k_is)
    (case c10 => k_is)
    (case k10 => k_is)
    (case a11 => k_is)
    (case l11 => k_is)
    (case c11 => k_is)
    (case k11 => k_is)
    (case a12 => k_is)
    (case l12 => k_is)
    (case c12 => k_is)
    (case k12 => k_is)
    (case a13 => k_is)
    (case l13 => k_is)
    (case c13 => k_is)
    (case k13 => k_is)
    (case a14 => k_is)
    (case l14 => k_is)
    (case c14 => k_is)
    (case k14 => k_is)
    (case a15 => k_is)
    (case l15 => k_is)
    (case c15 => k_is)
    (case k15 => k_is)
    (case a16 => k_is)
    (case l16 => k_is)
    (case c16 => k_is)
    (case k16 => k_is)
    (case z_ValueError => k_is)
    (case z_all => k_is)
    (case z_bool => k_is)
    (case z_dict => k_is)
    (case z_int => k_is)
    (case z_isinstance => k_is)
    (case z_len => k_is)
    (case z_list => k_is)
    (case z_range => k_is)
    (case z_sorted => k_is)
    (case z_str => k_is)
    (case z_tuple => k_is)
    (case q_SIGNS => k_is)
    (case q_WIDEST => k_is)
    (case pg_Reader => k_is)
    (case d_Reader => k_is)
    (case po_Reader => k_is)
    (case sa_Reader => k_is)
    (case ha_Reader => k_is)
    (case mo_Reader => k_is)
    (case ic_Reader => k_is)
    (case y_Reader => k_is)
    (case mk_Reader => k_is)
    (case kc_Reader => k_is)
    (case nt_Reader_int => k_is)
    (case nt_Reader_bool => k_is)
    (case nt_Reader_str => k_is)
    (case nt_Reader_tuple => k_is)
    (case nt_Reader_list => k_is)
    (case nt_Reader_dict => k_is)
    (case nt_Reader_NoneType => k_is)
    (case nf_Reader_known => k_is)
    (case nf_Reader_width => k_is)
    (case ocn => k_is)
    (case oct => k_is)
    (case e_BadReader => k_is)
    (case y_BadReader => k_is)
    (case d_BadReader => k_is)
    (case e_LabelError => k_is)
    (case y_LabelError => k_is)
    (case d_LabelError => k_is)
    (case e_BadRow => k_is)
    (case y_BadRow => k_is)
    (case d_BadRow => k_is)
    (case x_BadReader => k_is)
    (case sa_BadReader => k_is)
    (case kC_BadReader => k_is)
    (case nb_BadReader_part => k_is)
    (case ia_BadReader => k_is)
    (case it_BadReader => k_is)
    (case il_BadReader => k_is)
    (case ic_BadReader => k_is)
    (case ik_BadReader => k_is)
    (case x_BadRow => k_is)
    (case sa_BadRow => k_is)
    (case kC_BadRow => k_is)
    (case nb_BadRow_part => k_is)
    (case ia_BadRow => k_is)
    (case it_BadRow => k_is)
    (case il_BadRow => k_is)
    (case ic_BadRow => k_is)
    (case ik_BadRow => k_is)
    (case ga_BadReader => k_is)
    (case gg_BadReader => k_is)
    (case ga_BadRow => k_is)
    (case gg_BadRow => k_is)
    (case ha_BadReader => k_is)
    (case mo_BadReader => k_is)
    (case ki_BadReader_BadRow => k_is)
    (case ha_BadRow => k_is)
    (case mo_BadRow => k_is)
    (case ki_BadRow_BadRow => k_is)
    (case kv_BadReader => k_is)
    (case kv_BadRow => k_is)
    (case kj_BadRow => k_is)
    (case p_BadReader_LabelError => k_is)
    (case p_BadRow_LabelError => k_is)
