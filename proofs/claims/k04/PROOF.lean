import PyProof.Rows.All
import Wide.All
import OpenK.AllK
import Wide.FinOn
import PyProof.EqAt
import PyProof.EqKinds
import PyProof.TupleCall
import HandS.ForMost
import HandS.ForExc
import HandS.TryMany
import HandS.CallSlots
import HandS.Wide
import HandS.EndBits
import HandS.ExcInit
import KE.KeyNested
import KE.KDictKeyed
import HandS.IsInst
import HandS.TupAny
import HandS.Rev
import HandS.TupMul
import HandS.Conv
import HandS.Style
import HandS.More
import HandS.ExcField
import HandS.ExcIs
import HandS.OwnEq
import HandS.Codes
import HandS.TupSets
import HandS.SortOrd
import HandS.SortRule
import PyProof.WalksMore
import PyProof.SumWalkG
import HandS.SortInts
import PyProof.Rows.SortShell
import HandS.NoneIn
import PyProof.EnumMake
import HandS.Small
import HandS.Iter
import PyProof.DictFindH
import PyProof.DictTable
import HandS.Strs
import HandS.Deep
import PyProof.ListStr
import HandS.Defaults
import HandS.SortKw
import PyProof.Rows.SortKeyStr
import PyProof.ExcBaseAll.ValueError
import HandS.Zip
import HandS.TupLe
import HandS.SetFor
import PyProof.FString5
import PyProof.StrBlock2
import HandS.ListItems
import HandS.DeepEq
import HandS.Finally
import HandS.Property
import KE.KExcIs
import KE.KDictCopyH
import HandS.TupLen
import HandS.DictComp
import KE.DatumOrd
import PyProof.DictRoadsH
import PyProof.DictTruth
import PySem.Challenge.RW_surelabels_k04_wrong_books
set_option Elab.async false
set_option linter.all false
set_option maxRecDepth 100000
set_option maxHeartbeats 4000000
/-! # Values without addresses, and what stands for them in the heap -/
namespace SL
open PySem PySem.Spec PyProof.Rows L2

/-- a value of a running def: data, or the k-th cell of the store (an object that may change) -/
inductive W where
  | non | bl (b : Bool) | int (i : Int) | str (x : Str)
  | tup (xs : List W) | lst (xs : List W) | dct (ks vs : List W)
  | ins (c : Str) (ns : List Str) (vs : List W)
  | cell (k : Nat)
  /-- a list that is locked (the script); a built-in class; an own class -/
  | ro (xs : List W) | ty (n : String) | cls (c : Str)
  /-- a tuple that is known to be plain -/
  | tpn (xs : List W)
  deriving Inhabited

inductive Cel where
  | lst (ws : List W) | dct (ks vs : List W) | ins (c : Str) (ns : List Str) (ws : List W) | frz (w : W)
  /-- a dict whose keys are nested tuples (l: it is walked; wo: the world of its hashes) -/
  | nct (l : Bool) (wo : World) (ks vs : List W)
def Cel.live : Cel → Bool
  | .frz _ => false
  | _ => true
abbrev Sto := List Cel
abbrev Fr := List (Option W)

/-- an exception: its class and its fields -/
structure Exc where
  c : Str
  ns : List Str
  vs : List W

inductive Out (α : Type) where
  | ok (a : α) (st : Sto) | err (x : Exc) (st : Sto) | bad
abbrev Sem := Fr → Sto → Out W
abbrev SemL := Fr → Sto → Out (List W)
abbrev SemB := Fr → Sto → Out Bool
abbrev Fn := List W → Sto → Out W
def Out.bind {α β : Type} (o : Out α) (f : α → Sto → Out β) : Out β := match o with
  | .ok a st => f a st
  | .err x st => .err x st
  | .bad => .bad
@[simp] theorem Out.bind_ok {α β : Type} (a : α) (st : Sto) (f : α → Sto → Out β) : (Out.ok a st).bind f = f a st := rfl
@[simp] theorem Out.bind_err {α β : Type} (x : Exc) (st : Sto) (f : α → Sto → Out β) : (Out.err x st).bind f = .err x st := rfl
@[simp] theorem Out.bind_bad {α β : Type} (f : α → Sto → Out β) : (Out.bad).bind f = .bad := rfl

/-! ## what stands for a value -/
def keyW : W → Option Key
  | .int i => some (.inl i)
  | .str x => some (.inr x)
  | _ => none
def keysW : List W → Option (List Key)
  | [] => some []
  | w :: r => match keyW w, keysW r with
    | some k, some ks => some (k :: ks)
    | _, _ => none
def keyT : W → Option (List Key)
  | .tup ws => keysW ws
  | _ => none
def mapO {α β : Type} (f : α → Option β) : List α → Option (List β)
  | [] => some []
  | a :: r => match f a, mapO f r with
    | some b, some bs => some (b :: bs)
    | _, _ => none
/-- how the keys of a dict are told: "L": it is locked (walked); "T": its keys are tuples; "TL": both -/
def kindW : List W → Option (Bool × (List Key ⊕ List (List Key)))
  | .ty t :: ks => if t = "L" then (mapO keyW ks).map fun kk => (true, .inl kk) else if t = "T" then (mapO keyT ks).map fun kk => (false, .inr kk) else if t = "TL" then (mapO keyT ks).map fun kk => (true, .inr kk) else none
  | ks => (mapO keyW ks).map fun kk => (false, .inl kk)
def dObj : (List Key ⊕ List (List Key)) → List V → HO
  | .inl kk, vs => .dK (kk.zip vs)
  | .inr kk, vs => .dT (kk.zip vs)
def dLen : (List Key ⊕ List (List Key)) → Nat
  | .inl kk => kk.length
  | .inr kk => kk.length
mutual
def nkW : W → Option NestedKey
  | .non => some .none
  | .bl b => some (.num (if b = true then 1 else 0))
  | .int i => some (.num i)
  | .str x => some (.text x)
  | .tup ws => (nkWs ws).map .tup
  | _ => none
def nkWs : List W → Option (List NestedKey)
  | [] => some []
  | w :: r => match nkW w, nkWs r with
    | some k, some ks => some (k :: ks)
    | _, _ => none
end
/-- a key of a dict: a tuple, not too deep -/
def nkey : W → Option NestedKey
  | .tup ws => (match nkW (.tup ws) with
    | some k => if k.depth ≤ 8 then some k else none
    | none => none)
  | _ => none
/-- a key of any kind -/
def nkeyM : W → Option NestedKey
  | .tup ws => nkey (.tup ws)
  | .non => some .none
  | .bl b => some (.num (if b = true then 1 else 0))
  | .int i => some (.num i)
  | .str x => some (.text x)
  | _ => none
abbrev NEnt := NestedKey × V × V
def entN (wo : World) (x : NestedKey × Value × Value) : DictEntry := ⟨x.1.hash wo, x.2.1, x.2.2⟩
abbrev SameN : NEnt → NestedKey × Value × Value → Prop := fun x y => x.1 = y.1 ∧ RelV x.2.1 y.2.1 ∧ RelV x.2.2 y.2.2
/-- a dict of these entries stands at a -/
def DkN (wo : World) (a : Addr) (xs : List NEnt) : HO := .ext fun h => (a == sysModules) = false ∧ xs.length ≤ sizeLine ∧ ∃ ys, Paired SameN xs ys ∧ ∃ o es ep, h.get? a = some o ∧ o.ExactDict ∧ o.data = .dict es ep ∧ es.toList = ys.map (entN wo) ∧ (ys.map (·.1)).Nodup
/-- a dict of these keys and values stands at a -/
def DctAt (F : Hp) (a : Addr) (ks : List W) (vs : List V) : Prop := ∃ l q, kindW ks = some (l, q) ∧ dLen q = vs.length ∧ Rd F a (dObj q vs) ∧ (l = false → ∀ kk, q = .inr kk → F a = some (.dT (kk.zip vs))) ∧ (l = true → ∃ o, F a = some (.frz o (dObj q vs)))

/-- a tuple: tracked -/
def TupAt (K : PySem.W.Frag) (F : Hp) (a : Addr) (xs : List V) : Prop :=
  F a = some (.tup xs)
/-- a plain tuple, known to the object -/
def TpnAt (F : Hp) (a : Addr) (xs : List V) : Prop := ∃ o : Obj, o.dict = none ∧ F a = some (.frz o (.tup xs))
theorem TpnAt.sq {K : PySem.W.Frag} {F : Hp} {a : Addr} {xs : List V} (h : TpnAt F a xs) : SqT K F a xs := let ⟨o, _, e⟩ := h; .inl (.inr ⟨o, e⟩)
theorem TupAt.sq {K : PySem.W.Frag} {F : Hp} {a : Addr} {xs : List V} (h : TupAt K F a xs) : SqT K F a xs := .inl (.inl h)

section
variable (K : PySem.W.Frag) (mg : Str → Option Value) (F : Hp) (μ : List Addr)
mutual
def Rep : W → V → Prop
  | .non, v => v = .non
  | .bl b, v => v = .bl b
  | .int i, v => v = .int i
  | .str x, v => v = .str x
  | .tup ws, v => ∃ a vs, v = .ref a ∧ TupAt K F a vs ∧ Reps ws vs
  | .lst ws, v => ∃ a vs, v = .ref a ∧ F a = some (.lst vs) ∧ Reps ws vs
  | .ro ws, v => ∃ a vs, v = .ref a ∧ SqL K F a vs ∧ Reps ws vs
  | .tpn ws, v => ∃ a vs, v = .ref a ∧ TpnAt F a vs ∧ Reps ws vs
  | .ty n, v => v = .ty n
  | .cls c, v => ∃ C, mg c = some (.ref C) ∧ v = .ref C
  | .dct ks ws, v => ∃ a vs, v = .ref a ∧ DctAt F a ks vs ∧ Reps ws vs
  | .ins c ns ws, v => ∃ a C dx vs, v = .ref a ∧ mg c = some (.ref C) ∧ ns.length = vs.length ∧ F a = some (.ins C dx (ns.zip vs)) ∧ Reps ws vs
  | .cell k, v => ∃ a, μ[k]? = some a ∧ v = .ref a
def Reps : List W → List V → Prop
  | [], vs => vs = []
  | w :: ws, vs => ∃ v r, vs = v :: r ∧ Rep w v ∧ Reps ws r
end
end

/-- what is never locked -/
def Fix : HO → Prop
  | .dK _ => False
  | .frz _ (.tup _) => True
  | .frz _ (.dT _) => True
  | .frz _ (.dK _) => True
  | .frz _ _ => False
  | _ => True
/-- what could be read can be read; all but dicts stands as it stood -/
structure Le (F F' : Hp) : Prop where
  rd : ∀ a u, Rd F a u → Rd F' a u
  fix : ∀ a u, Fix u → F a = some u → F' a = some u
theorem Le.refl (F : Hp) : Le F F := ⟨fun _ _ h => h, fun _ _ _ h => h⟩
theorem Le.trans {F F' F'' : Hp} (x : Le F F') (y : Le F' F'') : Le F F'' := ⟨fun a u h => y.rd a u (x.rd a u h), fun a u f h => y.fix a u f (x.fix a u f h)⟩
theorem Le.of {F F' : Hp} (h : ∀ a o, F a = some o → F' a = some o) : Le F F' := by
  refine ⟨fun a u r => ?_, fun a u _ q => h _ _ q⟩
  rcases r with r | ⟨o, r⟩
  · exact .inl (h _ _ r)
  · exact .inr ⟨o, h _ _ r⟩
theorem Le.lst {F F' : Hp} (x : Le F F') {a : Addr} {vs : List V} (h : F a = some (.lst vs)) : F' a = some (.lst vs) := x.fix _ _ trivial h
theorem Le.ins {F F' : Hp} (x : Le F F') {a C dx : Addr} {fs : List (Str × V)} (h : F a = some (.ins C dx fs)) : F' a = some (.ins C dx fs) := x.fix _ _ trivial h
theorem Le.xd {F F' : Hp} (x : Le F F') {a : Addr} {fs : List (Str × V)} (h : F a = some (.xd fs)) : F' a = some (.xd fs) := x.fix _ _ trivial h
theorem TupAt.le {K : PySem.W.Frag} {F F' : Hp} {a : Addr} {xs : List V} (x : Le F F') (h : TupAt K F a xs) : TupAt K F' a xs := x.fix _ _ trivial h
theorem TpnAt.le {F F' : Hp} {a : Addr} {xs : List V} (x : Le F F') (h : TpnAt F a xs) : TpnAt F' a xs := let ⟨o, d, e⟩ := h; ⟨o, d, x.fix _ _ trivial e⟩
theorem SqT.le {K : PySem.W.Frag} {F F' : Hp} {a : Addr} {xs : List V} (x : Le F F') (h : SqT K F a xs) : SqT K F' a xs := by
  rcases h with h | h
  · exact .inl (x.rd _ _ h)
  · exact .inr h
theorem SqL.le {K : PySem.W.Frag} {F F' : Hp} {a : Addr} {xs : List V} (x : Le F F') (h : SqL K F a xs) : SqL K F' a xs := by
  rcases h with h | h
  · exact .inl (x.rd _ _ h)
  · exact .inr h
theorem DctAt.le {F F' : Hp} {a : Addr} {ks : List W} {vs : List V} (x : Le F F') (h : DctAt F a ks vs) : DctAt F' a ks vs := by
  obtain ⟨l, q, h1, h2, h3, h4, h5⟩ := h
  exact ⟨l, q, h1, h2, x.rd _ _ h3, fun e kk eq => x.fix _ _ trivial (h4 e kk eq), fun e => let ⟨o, z⟩ := h5 e; ⟨o, x.fix _ _ (by cases q <;> trivial) z⟩⟩

def Pre (μ μ' : List Addr) : Prop := ∃ e, μ' = μ ++ e
theorem Pre.refl (μ : List Addr) : Pre μ μ := ⟨[], by simp⟩
theorem Pre.trans {a b c : List Addr} (x : Pre a b) (y : Pre b c) : Pre a c := by
  obtain ⟨e, rfl⟩ := x
  obtain ⟨f, rfl⟩ := y
  exact ⟨e ++ f, by simp⟩
theorem Pre.get {a b : List Addr} (x : Pre a b) {k : Nat} {p : Addr} (h : a[k]? = some p) : b[k]? = some p := by
  obtain ⟨e, rfl⟩ := x
  have hk : k < a.length := by
    rcases Nat.lt_or_ge k a.length with q | q
    · exact q
    · rw [List.getElem?_eq_none q] at h; cases h
  rw [List.getElem?_append_left hk]
  exact h

section
variable {K : PySem.W.Frag} {mg : Str → Option Value} {F F' : Hp} {μ μ' : List Addr}
mutual
theorem Rep.mono (x : Le F F') (p : Pre μ μ') : ∀ (w : W) (v : V), Rep K mg F μ w v → Rep K mg F' μ' w v
  | .non, v, h => by unfold Rep at h ⊢; exact h
  | .bl b, v, h => by unfold Rep at h ⊢; exact h
  | .int i, v, h => by unfold Rep at h ⊢; exact h
  | .str s, v, h => by unfold Rep at h ⊢; exact h
  | .tup ws, v, h => by
    unfold Rep at h ⊢
    obtain ⟨a, vs, e, s, r⟩ := h
    exact ⟨a, vs, e, s.le x, Reps.mono x p ws vs r⟩
  | .lst ws, v, h => by
    unfold Rep at h ⊢
    obtain ⟨a, vs, e, s, r⟩ := h
    exact ⟨a, vs, e, x.lst s, Reps.mono x p ws vs r⟩
  | .ro ws, v, h => by
    unfold Rep at h ⊢
    obtain ⟨a, vs, e, s, r⟩ := h
    exact ⟨a, vs, e, SqL.le x s, Reps.mono x p ws vs r⟩
  | .tpn ws, v, h => by
    unfold Rep at h ⊢
    obtain ⟨a, vs, e, s, r⟩ := h
    exact ⟨a, vs, e, s.le x, Reps.mono x p ws vs r⟩
  | .ty n, v, h => by unfold Rep at h ⊢; exact h
  | .cls c, v, h => by unfold Rep at h ⊢; exact h
  | .dct ks ws, v, h => by
    unfold Rep at h ⊢
    obtain ⟨a, vs, e, s, r⟩ := h
    exact ⟨a, vs, e, s.le x, Reps.mono x p ws vs r⟩
  | .ins c ns ws, v, h => by
    unfold Rep at h ⊢
    obtain ⟨a, C, dx, vs, e, g, l, s, r⟩ := h
    exact ⟨a, C, dx, vs, e, g, l, x.ins s, Reps.mono x p ws vs r⟩
  | .cell k, v, h => by
    unfold Rep at h ⊢
    obtain ⟨a, g, e⟩ := h
    exact ⟨a, p.get g, e⟩
theorem Reps.mono (x : Le F F') (p : Pre μ μ') : ∀ (ws : List W) (vs : List V), Reps K mg F μ ws vs → Reps K mg F' μ' ws vs
  | [], vs, h => by unfold Reps at h ⊢; exact h
  | w :: ws, vs, h => by
    unfold Reps at h ⊢
    obtain ⟨v, r, e, h1, h2⟩ := h
    exact ⟨v, r, e, Rep.mono x p w v h1, Reps.mono x p ws r h2⟩
end
theorem Reps.length : ∀ {ws : List W} {vs : List V}, Reps K mg F μ ws vs → ws.length = vs.length
  | [], vs, h => by unfold Reps at h; subst h; rfl
  | w :: ws, vs, h => by
    unfold Reps at h
    obtain ⟨v, r, rfl, _, h2⟩ := h
    simp [Reps.length h2]
theorem Reps.nil_iff {vs : List V} : Reps K mg F μ [] vs ↔ vs = [] := by unfold Reps; exact Iff.rfl
theorem Reps.nil : Reps K mg F μ [] [] := by unfold Reps; rfl
theorem Reps.cons {w : W} {ws : List W} {v : V} {vs : List V} (h : Rep K mg F μ w v) (r : Reps K mg F μ ws vs) : Reps K mg F μ (w :: ws) (v :: vs) := by
  unfold Reps; exact ⟨v, vs, rfl, h, r⟩
theorem Reps.cons_inv {w : W} {ws : List W} {vs : List V} (h : Reps K mg F μ (w :: ws) vs) : ∃ v r, vs = v :: r ∧ Rep K mg F μ w v ∧ Reps K mg F μ ws r := by
  unfold Reps at h; exact h
theorem Reps.get : ∀ {ws : List W} {vs : List V} {i : Nat} {w : W}, Reps K mg F μ ws vs → ws[i]? = some w → ∃ v, vs[i]? = some v ∧ Rep K mg F μ w v
  | [], _, _, _, _, e => by simp at e
  | w0 :: ws, vs, 0, w, h, e => by
    obtain ⟨v, r, rfl, h1, _⟩ := h.cons_inv
    simp at e; subst e; exact ⟨v, rfl, h1⟩
  | w0 :: ws, vs, i + 1, w, h, e => by
    obtain ⟨v, r, rfl, _, h2⟩ := h.cons_inv
    obtain ⟨v', e1, e2⟩ := Reps.get (i := i) h2 (by simpa using e)
    exact ⟨v', by simpa using e1, e2⟩
theorem Reps.get' : ∀ {ws : List W} {vs : List V} {i : Nat} {v : V}, Reps K mg F μ ws vs → vs[i]? = some v → ∃ w, ws[i]? = some w ∧ Rep K mg F μ w v := fun {ws vs i v} h e => by
  have hl := h.length
  have hi : i < vs.length := by
    rcases Nat.lt_or_ge i vs.length with q | q
    · exact q
    · rw [List.getElem?_eq_none q] at e; cases e
  have hw : ws[i]? = some (ws[i]'(by omega)) := by simp
  obtain ⟨v', e1, e2⟩ := h.get hw
  rw [e] at e1; cases e1
  exact ⟨_, hw, e2⟩
theorem Reps.append : ∀ {ws us : List W} {vs xs : List V}, Reps K mg F μ ws vs → Reps K mg F μ us xs → Reps K mg F μ (ws ++ us) (vs ++ xs)
  | [], us, vs, xs, h, r => by rw [Reps.nil_iff] at h; subst h; exact r
  | w :: ws, us, vs, xs, h, r => by
    obtain ⟨v, t, rfl, h1, h2⟩ := h.cons_inv
    exact .cons h1 (h2.append r)
theorem Reps.set : ∀ {ws : List W} {vs : List V} {w : W} {v : V} (i : Nat), Reps K mg F μ ws vs → Rep K mg F μ w v → Reps K mg F μ (ws.set i w) (vs.set i v)
  | [], vs, _, _, _, h, _ => by rw [Reps.nil_iff] at h; subst h; exact .nil
  | w0 :: ws, vs, _, _, 0, h, r => by
    obtain ⟨v, t, rfl, h1, h2⟩ := h.cons_inv
    exact .cons r h2
  | w0 :: ws, vs, _, _, i + 1, h, r => by
    obtain ⟨v, t, rfl, h1, h2⟩ := h.cons_inv
    exact .cons h1 (h2.set i r)
theorem Reps.take : ∀ {ws : List W} {vs : List V} (n : Nat), Reps K mg F μ ws vs → Reps K mg F μ (ws.take n) (vs.take n)
  | ws, vs, 0, h => by simp; exact .nil
  | [], vs, n + 1, h => by rw [Reps.nil_iff] at h; subst h; exact .nil
  | w :: ws, vs, n + 1, h => by
    obtain ⟨v, t, rfl, h1, h2⟩ := h.cons_inv
    exact .cons h1 (h2.take n)
theorem Reps.drop : ∀ {ws : List W} {vs : List V} (n : Nat), Reps K mg F μ ws vs → Reps K mg F μ (ws.drop n) (vs.drop n)
  | ws, vs, 0, h => h
  | [], vs, n + 1, h => by rw [Reps.nil_iff] at h; subst h; exact .nil
  | w :: ws, vs, n + 1, h => by
    obtain ⟨v, t, rfl, h1, h2⟩ := h.cons_inv
    exact h2.drop n
theorem Reps.reverse : ∀ {ws : List W} {vs : List V}, Reps K mg F μ ws vs → Reps K mg F μ ws.reverse vs.reverse
  | [], vs, h => by rw [Reps.nil_iff] at h; subst h; exact .nil
  | w :: ws, vs, h => by
    obtain ⟨v, t, rfl, h1, h2⟩ := h.cons_inv
    rw [List.reverse_cons, List.reverse_cons]
    exact h2.reverse.append (.cons h1 .nil)
end

/-! ## the store -/
def LiveA (μ : List Addr) (st : Sto) (hid : List Addr) (a : Addr) : Prop := a ∈ hid ∨ ∃ (k : Nat) (c : Cel), μ[k]? = some a ∧ st[k]? = some c ∧ c.live = true
open Classical in
/-- what no cell of the store holds: read, never changed -/
noncomputable def Fz (μ : List Addr) (st : Sto) (hid : List Addr) (H : Hp) : Hp := fun a => if LiveA μ st hid a then none else H a
theorem Fz.sub {μ : List Addr} {st : Sto} {hid : List Addr} {H : Hp} {a : Addr} {o : HO} (h : Fz μ st hid H a = some o) : H a = some o ∧ ¬ LiveA μ st hid a := by
  unfold Fz at h
  split at h
  · cases h
  · rename_i n; exact ⟨h, n⟩
theorem Fz.mk {μ : List Addr} {st : Sto} {hid : List Addr} {H : Hp} {a : Addr} {o : HO} (h : H a = some o) (n : ¬ LiveA μ st hid a) : Fz μ st hid H a = some o := by
  unfold Fz
  rw [if_neg n]; exact h
theorem Fz.le {μ : List Addr} {st : Sto} {hid : List Addr} {H : Hp} : Le (Fz μ st hid H) H := Le.of fun _ _ h => (Fz.sub h).1

/-- a dict that may be changed -/
def DctM (H : Hp) (a : Addr) (ks : List W) (vs : List V) : Prop := ∃ l q, kindW ks = some (l, q) ∧ dLen q = vs.length ∧ (if l = true then ∃ o, H a = some (.frz o (dObj q vs)) else H a = some (dObj q vs))
theorem DctM.rd {H : Hp} {a : Addr} {ks : List W} {vs : List V} (h : DctM H a ks vs) : DctAt H a ks vs := by
  obtain ⟨l, q, h1, h2, h3⟩ := h
  refine ⟨l, q, h1, h2, ?_⟩
  cases l with
  | true => exact ⟨.inr h3, (fun e => nomatch e), fun _ => h3⟩
  | false => exact ⟨.inl h3, (fun _ kk e => by subst e; exact h3), fun e => nomatch e⟩
theorem DctM.at {H F : Hp} {a : Addr} {ks : List W} {vs : List V} (h : DctM H a ks vs) (e : F a = H a) : DctAt F a ks vs := by
  obtain ⟨l, q, h1, h2, h3, h4⟩ := h.rd
  refine ⟨l, q, h1, h2, ?_⟩
  unfold Rd at h3 ⊢
  rw [e]; exact ⟨h3, h4⟩
theorem DctM.some {H : Hp} {a : Addr} {ks : List W} {vs : List V} (h : DctM H a ks vs) : ∃ o, H a = .some o := by
  obtain ⟨l, q, h1, h2, h3⟩ := h
  cases l with
  | true => obtain ⟨o, h3⟩ := h3; exact ⟨_, h3⟩
  | false => exact ⟨_, h3⟩
theorem DctM.of_eq {H H' : Hp} {a : Addr} {ks : List W} {vs : List V} (h : DctM H a ks vs) (e : H' a = H a) : DctM H' a ks vs := by
  obtain ⟨l, q, h1, h2, h3⟩ := h
  exact ⟨l, q, h1, h2, by rw [e]; exact h3⟩

section
variable (K : PySem.W.Frag) (mg : Str → Option Value)
/-- the keys, one by one -/
def KN (F : Hp) (μ : List Addr) (ks : List W) (xs : List NEnt) : Prop := ks.length = xs.length ∧ ∀ (i : Nat) k x, ks[i]? = some k → xs[i]? = some x → nkeyM k = some x.1 ∧ Rep K mg F μ k x.2.1
def DctN (H : Hp) (a : Addr) (l : Bool) (wo : World) (xs : List NEnt) : Prop := if l = true then ∃ o, H a = some (.frz o (DkN wo a xs)) else H a = some (DkN wo a xs)
def CelOk (F : Hp) (μ : List Addr) (H : Hp) (a : Addr) : Cel → Prop
  | .lst ws => ∃ vs, H a = some (.lst vs) ∧ Reps K mg F μ ws vs
  | .dct ks ws => ∃ vs, DctM H a ks vs ∧ Reps K mg F μ ws vs
  | .ins c ns ws => ∃ C dx vs, mg c = some (.ref C) ∧ ns.length = vs.length ∧ H a = some (.ins C dx (ns.zip vs)) ∧ Reps K mg F μ ws vs
  | .frz w => Rep K mg F μ w (.ref a)
  | .nct l wo ks ws => ∃ xs, DctN H a l wo xs ∧ KN K mg F μ ks xs ∧ Reps K mg F μ ws (xs.map (·.2.2))
structure StOk (μ : List Addr) (st : Sto) (hid : List Addr) (H : Hp) : Prop where
  len : μ.length = st.length
  inj : ∀ (j k : Nat) (a : Addr) (c d : Cel), μ[j]? = some a → μ[k]? = some a → st[j]? = some c → st[k]? = some d → c.live = true → d.live = true → j = k
  hidn : ∀ (k : Nat) (a : Addr) (c : Cel), μ[k]? = some a → st[k]? = some c → c.live = true → a ∉ hid
  hidt : ∀ a ∈ hid, H a ≠ none ∧ ∀ vs, H a ≠ some (.tup vs)
  ok : ∀ (k : Nat) (a : Addr) (c : Cel), μ[k]? = some a → st[k]? = some c → CelOk K mg (Fz μ st hid H) μ H a c
end
/-- what is locked stays as it is -/
def Lk (H H' : Hp) : Prop := ∀ a o u, H a = some (.frz o u) → H' a = some (.frz o u)
theorem Lk.refl (H : Hp) : Lk H H := fun _ _ _ h => h
theorem Lk.trans {H H' H'' : Hp} (x : Lk H H') (y : Lk H' H'') : Lk H H'' := fun a o u h => y a o u (x a o u h)
/-- from one state to a later one: what stands beside the cells stands -/
structure Grow (hid : List Addr) (μ : List Addr) (st : Sto) (H : Hp) (μ' : List Addr) (st' : Sto) (H' : Hp) : Prop where
  pre : Pre μ μ'
  le : Le (Fz μ st hid H) (Fz μ' st' hid H')
  hid : ∀ a ∈ hid, H' a = H a
  lck : Lk H H'
theorem Grow.refl {hid μ : List Addr} {st : Sto} {H : Hp} : Grow hid μ st H μ st H := ⟨.refl _, .refl _, fun _ _ => rfl, fun _ _ _ h => h⟩
theorem Grow.trans {hid μ μ' μ'' : List Addr} {st st' st'' : Sto} {H H' H'' : Hp} (x : Grow hid μ st H μ' st' H') (y : Grow hid μ' st' H' μ'' st'' H'') : Grow hid μ st H μ'' st'' H'' :=
  ⟨x.pre.trans y.pre, x.le.trans y.le, fun a h => (y.hid a h).trans (x.hid a h), fun a o u h => y.lck a o u (x.lck a o u h)⟩

section
variable {K : PySem.W.Frag} {mg : Str → Option Value} {μ μ' : List Addr} {st st' : Sto} {hid : List Addr} {H H' : Hp}
theorem DctN.some {H : Hp} {a : Addr} {l : Bool} {wo : World} {xs : List NEnt} (h : DctN H a l wo xs) : ∃ o, H a = .some o := by
  unfold DctN at h
  cases l with
  | true => obtain ⟨o, h⟩ := h; exact ⟨_, h⟩
  | false => exact ⟨_, h⟩
theorem DctN.of_eq {H H' : Hp} {a : Addr} {l : Bool} {wo : World} {xs : List NEnt} (h : DctN H a l wo xs) (e : H' a = H a) : DctN H' a l wo xs := by
  unfold DctN at h ⊢
  rw [e]; exact h
theorem KN.mono {F F' : Hp} {μ μ' : List Addr} {ks : List W} {xs : List NEnt} (h : KN K mg F μ ks xs) (l : Le F F') (p : Pre μ μ') : KN K mg F' μ' ks xs :=
  ⟨h.1, fun i k x a b => ⟨(h.2 i k x a b).1, Rep.mono l p _ _ (h.2 i k x a b).2⟩⟩
theorem CelOk.there {F : Hp} {a : Addr} {c : Cel} (h : CelOk K mg F μ H a c) (l : c.live = true) : ∃ o, H a = some o := by
  cases c with
  | lst ws => obtain ⟨vs, h, _⟩ := h; exact ⟨_, h⟩
  | dct ks ws => obtain ⟨vs, h, _⟩ := h; exact h.some
  | ins c ns ws => obtain ⟨C, dx, vs, _, _, h, _⟩ := h; exact ⟨_, h⟩
  | frz w => cases l
  | nct l wo ks ws => obtain ⟨xs, h, _⟩ := h; exact h.some
theorem StOk.liveT (s : StOk K mg μ st hid H) {a : Addr} (h : LiveA μ st hid a) : H a ≠ none := by
  rcases h with h | ⟨k, c, h1, h2, h3⟩
  · exact (s.hidt a h).1
  · obtain ⟨o, e⟩ := (s.ok k a c h1 h2).there h3
    rw [e]; exact fun z => nomatch z
theorem StOk.notLive (s : StOk K mg μ st hid H) {a : Addr} (h : H a = none) : ¬ LiveA μ st hid a := fun z => s.liveT z h
/-- a new object beside the cells -/
theorem StOk.laid (s : StOk K mg μ st hid H) {p : Addr} {o : HO} (hp : H p = none) : StOk K mg μ st hid (upd H p o) ∧ Grow hid μ st H μ st (upd H p o) ∧ Fz μ st hid (upd H p o) p = some o := by
  have nl := s.notLive hp
  have hne : ∀ a, LiveA μ st hid a → a ≠ p := fun a h e => nl (e ▸ h)
  have le : Le (Fz μ st hid H) (Fz μ st hid (upd H p o)) := Le.of fun a u h => by
    obtain ⟨h1, h2⟩ := Fz.sub h
    exact Fz.mk (by rw [upd_ne (ne_of_none h1 hp)]; exact h1) h2
  refine ⟨⟨s.len, s.inj, s.hidn, fun a h => ?_, fun k a c h1 h2 => ?_⟩, ⟨.refl _, le, fun a h => ?_, fun a o u h => by rw [upd_ne (ne_of_none h hp)]; exact h⟩, Fz.mk upd_same nl⟩
  · rw [upd_ne (hne a (Or.inl h))]; exact s.hidt a h
  · have q := s.ok k a c h1 h2
    cases c with
    | lst ws =>
      obtain ⟨vs, e, r⟩ := q
      exact ⟨vs, by rw [upd_ne (ne_of_none e hp)]; exact e, r.mono le (.refl _)⟩
    | dct ks ws =>
      obtain ⟨vs, e, r⟩ := q
      exact ⟨vs, e.of_eq (upd_ne (hne a (Or.inr ⟨k, _, h1, h2, rfl⟩))), r.mono le (.refl _)⟩
    | ins c ns ws =>
      obtain ⟨C, dx, vs, g, l, e, r⟩ := q
      exact ⟨C, dx, vs, g, l, by rw [upd_ne (ne_of_none e hp)]; exact e, r.mono le (.refl _)⟩
    | frz w => exact Rep.mono le (.refl _) _ _ q
    | nct l wo ks ws =>
      obtain ⟨xs, e, kn, r⟩ := q
      exact ⟨xs, e.of_eq (upd_ne (hne a (Or.inr ⟨k, _, h1, h2, rfl⟩))), kn.mono le (.refl _), r.mono le (.refl _)⟩
  · rw [upd_ne (hne a (Or.inl h))]
end

/-! ## a body's state -/
/-- what is wished of an exception, and what is known besides (of a caught one) -/
structure Wish where
  w : WX
  /-- slots that stay as they are -/
  lock : List Nat
  y : L2.St → Hp → List Addr → Prop
  mono : ∀ σ F F' μ μ', Le F F' → Pre μ μ' → y σ F μ → y σ F' μ'
  slot : ∀ σ σ' F μ, (∀ i ∈ lock, σ'[i]? = σ[i]?) → y σ F μ → y σ' F μ
def Wish.of (w : WX) : Wish := ⟨w, [], fun _ _ _ => True, fun _ _ _ _ _ _ _ _ => trivial, fun _ _ _ _ _ _ => trivial⟩
structure SI (K : PySem.W.Frag) (mg : Str → Option Value) (Wx : Wish) (μ : List Addr) (st : Sto) (hid : List Addr) (fr : Fr) (σ : L2.St) (H : Hp) : Prop where
  sto : StOk K mg μ st hid H
  len : fr.length = σ.length
  loc : ∀ (i : Nat) (w : W), fr[i]? = some (some w) → ∃ v, σ[i]? = some (some v) ∧ Rep K mg (Fz μ st hid H) μ w v
  ex : Wx.y σ (Fz μ st hid H) μ
theorem SI.next {Wx : Wish} {K : PySem.W.Frag} {mg : Str → Option Value} {μ μ' : List Addr} {st st' : Sto} {hid : List Addr} {fr : Fr} {σ : L2.St} {H H' : Hp} (s : SI K mg Wx μ st hid fr σ H) (k : StOk K mg μ' st' hid H') (x : Grow hid μ st H μ' st' H') : SI K mg Wx μ' st' hid fr σ H' :=
  ⟨k, s.len, fun i w h => by
    obtain ⟨v, e, r⟩ := s.loc i w h
    exact ⟨v, e, Rep.mono x.le x.pre _ _ r⟩, Wx.mono _ _ _ _ _ x.le x.pre s.ex⟩
theorem SI.set {Wx : Wish} {K : PySem.W.Frag} {mg : Str → Option Value} {μ : List Addr} {st : Sto} {hid : List Addr} {fr : Fr} {σ : L2.St} {H : Hp} (s : SI K mg Wx μ st hid fr σ H) {w : W} {v : V} (i : Nat) (hi : i ∉ Wx.lock) (r : Rep K mg (Fz μ st hid H) μ w v) : SI K mg Wx μ st hid (fr.set i (some w)) (σ.set i (some v)) H :=
  ⟨s.sto, by simpa using s.len, fun j u h => by
    by_cases e : i = j
    · subst e
      have hi : i < fr.length := by
        rcases Nat.lt_or_ge i fr.length with q | q
        · exact q
        · rw [List.set_eq_of_length_le q, List.getElem?_eq_none q] at h; cases h
      rw [List.getElem?_set_self hi] at h
      cases h
      exact ⟨v, by rw [List.getElem?_set_self (by rw [← s.len]; exact hi)], r⟩
    · rw [List.getElem?_set_ne e] at h
      rw [List.getElem?_set_ne e]
      exact s.loc j u h, Wx.slot _ _ _ _ (fun j hj => List.getElem?_set_ne (fun z : i = j => hi (z ▸ hj))) s.ex⟩

/-- an exception's own part -/
def XRep (K : PySem.W.Frag) (mg : Str → Option Value) (F : Hp) (μ : List Addr) (x : Exc) (c : Value) (d : Option Addr) : Prop :=
  ∃ C, mg x.c = some (.ref C) ∧ c = .ref C ∧ ((x.ns = [] ∧ d = none) ∨ ∃ dx vs, d = some dx ∧ x.ns.length = vs.length ∧ F dx = some (.xd (x.ns.zip vs)) ∧ Reps K mg F μ x.vs vs)

section
variable (K : PySem.W.Frag) (mg : Str → Option Value)
/-- what is wanted behind an expression -/
def EPost (Wx : WX) (hid μ : List Addr) (st : Sto) (σ : L2.St) (H : Hp) (Q : VK) : Out W → Prop
  | .ok w st' => ∀ μ' H' v, StOk K mg μ' st' hid H' → Grow hid μ st H μ' st' H' → Rep K mg (Fz μ' st' hid H') μ' w v → Q v H'
  | .err x st' => ∀ μ' H' c d, StOk K mg μ' st' hid H' → Grow hid μ st H μ' st' H' → XRep K mg (Fz μ' st' hid H') μ' x c d → Wx c d σ H'
  | .bad => False
def LPost (Wx : WX) (hid μ : List Addr) (st : Sto) (σ : L2.St) (H : Hp) (Q : List V → Hp → Prop) : Out (List W) → Prop
  | .ok ws st' => ∀ μ' H' vs, StOk K mg μ' st' hid H' → Grow hid μ st H μ' st' H' → Reps K mg (Fz μ' st' hid H') μ' ws vs → Q vs H'
  | .err x st' => ∀ μ' H' c d, StOk K mg μ' st' hid H' → Grow hid μ st H μ' st' H' → XRep K mg (Fz μ' st' hid H') μ' x c d → Wx c d σ H'
  | .bad => False
def BPost (Wx : WX) (hid μ : List Addr) (st : Sto) (σ : L2.St) (H : Hp) (Q : Bool → Hp → Prop) : Out Bool → Prop
  | .ok b st' => ∀ μ' H', StOk K mg μ' st' hid H' → Grow hid μ st H μ' st' H' → Q b H'
  | .err x st' => ∀ μ' H' c d, StOk K mg μ' st' hid H' → Grow hid μ st H μ' st' H' → XRep K mg (Fz μ' st' hid H') μ' x c d → Wx c d σ H'
  | .bad => False
def tE (Wx : Wish) (f : Sem) : TE := fun σ H Q => ∃ μ st hid fr, SI K mg Wx μ st hid fr σ H ∧ EPost K mg Wx.w hid μ st σ H Q (f fr st)
def tA (Wx : Wish) (f : SemL) : TA := fun σ H Q => ∃ μ st hid fr, SI K mg Wx μ st hid fr σ H ∧ LPost K mg Wx.w hid μ st σ H Q (f fr st)
def tB' (Wx : Wish) (f : SemB) : TT := fun σ H Q => ∃ μ st hid fr, SI K mg Wx μ st hid fr σ H ∧ BPost K mg Wx.w hid μ st σ H Q (f fr st)
end
section
variable {K : PySem.W.Frag} {mg : Str → Option Value} {Wx : WX} {hid μ μ' : List Addr} {st st' : Sto} {σ : L2.St} {H H' : Hp}
theorem EPost.from {Q : VK} {o : Out W} (x : Grow hid μ st H μ' st' H') (h : EPost K mg Wx hid μ st σ H Q o) : EPost K mg Wx hid μ' st' σ H' Q o := by
  cases o with
  | ok w s => exact fun μ2 H2 v a b c => h μ2 H2 v a (x.trans b) c
  | err e s => exact fun μ2 H2 c d a b r => h μ2 H2 c d a (x.trans b) r
  | bad => exact h
theorem LPost.from {Q : List V → Hp → Prop} {o : Out (List W)} (x : Grow hid μ st H μ' st' H') (h : LPost K mg Wx hid μ st σ H Q o) : LPost K mg Wx hid μ' st' σ H' Q o := by
  cases o with
  | ok w s => exact fun μ2 H2 v a b c => h μ2 H2 v a (x.trans b) c
  | err e s => exact fun μ2 H2 c d a b r => h μ2 H2 c d a (x.trans b) r
  | bad => exact h
theorem BPost.from {Q : Bool → Hp → Prop} {o : Out Bool} (x : Grow hid μ st H μ' st' H') (h : BPost K mg Wx hid μ st σ H Q o) : BPost K mg Wx hid μ' st' σ H' Q o := by
  cases o with
  | ok w s => exact fun μ2 H2 a b => h μ2 H2 a (x.trans b)
  | err e s => exact fun μ2 H2 c d a b r => h μ2 H2 c d a (x.trans b) r
  | bad => exact h
end
theorem PEm {X : Cx} {e : Expr} {t t' : TE} (h : PE X e t) (i : ∀ σ H Q, t' σ H Q → t σ H Q) : PE X e t' := ⟨fun pins s σ H Q I q => h.run pins s σ H Q I (i σ H Q q)⟩
theorem PTm {X : Cx} {e : Expr} {t t' : TT} (h : PT X e t) (i : ∀ σ H Q, t' σ H Q → t σ H Q) : PT X e t' := ⟨fun pins s σ H Q I q => h.run pins s σ H Q I (i σ H Q q)⟩
theorem PWm {X : Cx} {e : Expr} {t t' : TT} (h : PW X e t) (i : ∀ σ H Q, t' σ H Q → t σ H Q) : PW X e t' := ⟨fun wh pins s σ H Q I q => h.run wh pins s σ H Q I (i σ H Q q)⟩
theorem PAm {X : Cx} {e : List Expr} {t t' : TA} (h : PA X e t) (i : ∀ σ H Q, t' σ H Q → t σ H Q) : PA X e t' := ⟨fun pos pins s σ H Q I q => h.run pos pins s σ H Q I (i σ H Q q)⟩
theorem PSm {X : Cx} {e : Stmt} {t t' : TS} (h : PS X e t) (i : ∀ D σ H, t' D σ H → t D σ H) : PS X e t' := ⟨fun pins s σ H D I q => h.run pins s σ H D I (i D σ H q)⟩
theorem PSsm {X : Cx} {e : List Stmt} {t t' : TS} (h : PSs X e t) (i : ∀ D σ H, t' D σ H → t D σ H) : PSs X e t' := ⟨fun pins s σ H D I q => h.run pins s σ H D I (i D σ H q)⟩

/-- the judgements: Wx is what is wished of an exception -/
abbrev EV (X : Cx) (Wx : Wish) (e : Expr) (f : Sem) : Prop := PE X e (tE X.K X.mg Wx f)
abbrev TV (X : Cx) (Wx : Wish) (e : Expr) (f : SemB) : Prop := PT X e (tB' X.K X.mg Wx f)
abbrev AV (X : Cx) (Wx : Wish) (es : List Expr) (f : SemL) : Prop := PA X es (tA X.K X.mg Wx f)
end SL

namespace SL
open PySem PySem.Spec PyProof.Rows L2
section
variable {X : Cx} {Wx : Wish}

/-! ## names and constants -/
def eVar (i : Nat) : Sem := fun fr st => match fr[i]? with
  | some (some w) => .ok w st
  | _ => .bad
theorem ev_var {i : Nat} {x : Str} {pos : Pos} (hN : X.N[i]? = some x := by rfl) (hv : Vis X.env.scope x := by first | exact Or.inl rfl | exact Or.inr (Or.inl rfl) | exact Or.inr (Or.inr rfl)) (hd : (x == ("__debug__" : Str)) = false := by decide)
    (hcd : (x == ("__classdict__" : Str)) = false := by decide) : EV X Wx (.Name x pos) (eVar i) :=
  PEm (pe_var hN hv hd hcd) fun σ H Q ⟨μ, st, hid, fr, S, P⟩ => by
    unfold eVar at P
    split at P
    · rename_i w h
      obtain ⟨v, e, r⟩ := S.loc i w h
      exact ⟨v, e, P μ H v S.sto .refl r⟩
    · exact P.elim
def eC (w : W) : Sem := fun _ st => .ok w st
theorem ev_c {e : Expr} {w : W} {v : V} (h : PE X e (tC v)) (r : ∀ F μ, Rep X.K X.mg F μ w v) : EV X Wx e (eC w) :=
  PEm h fun σ H Q ⟨μ, st, hid, fr, S, P⟩ => P μ H v S.sto .refl (r _ _)
theorem ev_int {i : Int} {j pos} : EV X Wx (.Constant (.int i) j pos) (eC (.int i)) := ev_c pe_int fun F μ => by unfold Rep; rfl
theorem ev_bl {i : Bool} {j pos} : EV X Wx (.Constant (.bool i) j pos) (eC (.bl i)) := ev_c pe_bl fun F μ => by unfold Rep; rfl
theorem ev_str {i : Str} {j pos} : EV X Wx (.Constant (.str i) j pos) (eC (.str i)) := ev_c pe_str fun F μ => by unfold Rep; rfl
theorem ev_non {j pos} : EV X Wx (.Constant .none j pos) (eC .non) := ev_c pe_non fun F μ => by unfold Rep; rfl
theorem ev_globI {x : Str} {i : Int} {t : Tok} {pos : Pos} (hm : X.mg x = some (.int i t)) (hg : Gl X x := by rfl) (hd : (x == ("__debug__" : Str)) = false := by decide) : EV X Wx (.Name x pos) (eC (.int i)) := ev_c (v := .int i) (pe_glob hg hm ⟨t, rfl⟩ hd) fun F μ => by unfold Rep; rfl
theorem ev_globS {x : Str} {i : Str} {t : Tok} {pos : Pos} (hm : X.mg x = some (.str i t)) (hg : Gl X x := by rfl) (hd : (x == ("__debug__" : Str)) = false := by decide) : EV X Wx (.Name x pos) (eC (.str i)) := ev_c (v := .str i) (pe_glob hg hm ⟨t, rfl⟩ hd) fun F μ => by unfold Rep; rfl

/-! ## operations by values -/
abbrev Op2 := W → W → Sto → Out W
abbrev Op1 := W → Sto → Out W
abbrev OpN := List W → Sto → Out W
def Op2S (X : Cx) (op : Op2) (r : R2) : Prop := ∀ (Wx : WX) (hid μ : List Addr) (st : Sto) (σ : L2.St) (H : Hp) (Q : VK) (w u : W) (x y : V), StOk X.K X.mg μ st hid H → Rep X.K X.mg (Fz μ st hid H) μ w x → Rep X.K X.mg (Fz μ st hid H) μ u y →
  EPost X.K X.mg Wx hid μ st σ H Q (op w u st) → r x y H Q
def e2 (op : Op2) (f g : Sem) : Sem := fun fr st => (f fr st).bind fun w st1 => (g fr st1).bind fun u st2 => op w u st2
theorem e2_read {op : Op2} {r : R2} {f g : Sem} (hs : Op2S X op r) : ∀ σ H Q, tE X.K X.mg Wx (e2 op f g) σ H Q → tOp r (tE X.K X.mg Wx f) (tE X.K X.mg Wx g) σ H Q := fun σ H Q ⟨μ, st, hid, fr, S, P⟩ => by
  refine ⟨μ, st, hid, fr, S, ?_⟩
  unfold e2 at P
  cases h : f fr st with
  | bad => rw [h] at P; exact P
  | err x s => rw [h] at P; exact P
  | ok w st1 =>
    rw [h] at P
    intro μ1 H1 v k1 g1 r1
    refine ⟨μ1, st1, hid, fr, S.next k1 g1, ?_⟩
    have P1 := EPost.from g1 P
    rw [Out.bind_ok] at P1
    cases h2 : g fr st1 with
    | bad => rw [h2] at P1; exact P1
    | err x s => rw [h2] at P1; exact P1
    | ok u st2 =>
      rw [h2] at P1
      intro μ2 H2 y k2 g2 r2
      exact hs Wx.w hid μ2 st2 σ H2 Q w u v y k2 (Rep.mono g2.le g2.pre _ _ r1) r2 (EPost.from g2 P1)
theorem ev_op {op : Operator} {o : Op2} {r : R2} {a b : Expr} {f g : Sem} {pos : Pos} (ho : OpR X (binaryOp op) r) (hs : Op2S X o r) (ha : EV X Wx a f) (hb : EV X Wx b g) : EV X Wx (.BinOp a op b pos) (e2 o f g) :=
  PEm (pe_op ho ha hb) (e2_read hs)
theorem ev_cmp {op : CmpOp} {o : Op2} {r : R2} {a b : Expr} {f g : Sem} {pos : Pos} (ho : OpR X (compareOp op) r) (hs : Op2S X o r) (ha : EV X Wx a f) (hb : EV X Wx b g) (hm : behindInMarks op b = false) : EV X Wx (.Compare a [op] [b] pos) (e2 o f g) :=
  PEm (pe_cmpR ho ha hb hm) (e2_read hs)
theorem ev_ix {o : Op2} {r : R2} {a b : Expr} {f g : Sem} {pos : Pos} (ho : IxR X r) (hs : Op2S X o r) (ha : EV X Wx a f) (hb : EV X Wx b g) (hp : PlainIx b) : EV X Wx (.Subscript a b pos) (e2 o f g) :=
  PEm (pe_ix ho ha hb hp) (e2_read hs)
/-- a value as a test -/
def bOf (f : Sem) : SemB := fun fr st => (f fr st).bind fun w st1 => match w with
  | .bl b => .ok b st1
  | _ => .bad
theorem bOf_read {f : Sem} {t : TE} (ht : ∀ σ H Q, tE X.K X.mg Wx f σ H Q → t σ H Q) : ∀ σ H Q, tB' X.K X.mg Wx (bOf f) σ H Q → tTest t σ H Q := fun σ H Q ⟨μ, st, hid, fr, S, P⟩ => by
  refine ht σ H _ ⟨μ, st, hid, fr, S, ?_⟩
  unfold bOf at P
  cases h : f fr st with
  | bad => rw [h] at P; exact P
  | err x s => rw [h] at P; exact P
  | ok w st1 =>
    rw [h, Out.bind_ok] at P
    intro μ1 H1 v k1 g1 r1
    cases w with
    | bl b =>
      unfold Rep at r1
      exact ⟨b, r1, P μ1 H1 k1 g1⟩
    | _ => exact P.elim
theorem tv_cmp {op : CmpOp} {o : Op2} {r : R2} {a b : Expr} {f g : Sem} {pos : Pos} (ho : OpR X (compareOp op) r) (hs : Op2S X o r) (ha : EV X Wx a f) (hb : EV X Wx b g) (hm : behindInMarks op b = false) : TV X Wx (.Compare a [op] [b] pos) (bOf (e2 o f g)) :=
  PTm (pt_cmpR ho ha hb hm) (bOf_read (e2_read hs))
theorem tv_val {e : Expr} {f : Sem} (h : EV X Wx e f) (he : ∀ whole, isTrue e X.env whole = (do let v ← whole; standAt e.pos; holding [v] (truthy v)) := by intro _; rfl) : TV X Wx e (bOf f) :=
  PTm (pt_val h he) fun σ H Q P => bOf_read (fun _ _ _ z => z) σ H Q P
/-! ### not, and, or -/
def bNot (f : SemB) : SemB := fun fr st => (f fr st).bind fun b st1 => .ok (!b) st1
theorem tv_not {a : Expr} {f : SemB} {pos : Pos} (ha : TV X Wx a f) : TV X Wx (.UnaryOp .Not a pos) (bNot f) := PTm (pt_not ha) fun σ H Q ⟨μ, st, hid, fr, S, P⟩ => by
  refine ⟨μ, st, hid, fr, S, ?_⟩
  unfold bNot at P
  cases h : f fr st with
  | bad => rw [h] at P; exact P
  | err x s => rw [h] at P; exact P
  | ok w st1 => rw [h] at P; exact P
def bAnd (f g : SemB) : SemB := fun fr st => (f fr st).bind fun b st1 => if b = true then g fr st1 else .ok false st1
def bOr (f g : SemB) : SemB := fun fr st => (f fr st).bind fun b st1 => if b = true then .ok true st1 else g fr st1
theorem bAnd_read {f g : SemB} : ∀ σ H Q, tB' X.K X.mg Wx (bAnd f g) σ H Q → tAnd (tB' X.K X.mg Wx f) (tB' X.K X.mg Wx g) σ H Q := fun σ H Q ⟨μ, st, hid, fr, S, P⟩ => by
  refine ⟨μ, st, hid, fr, S, ?_⟩
  unfold bAnd at P
  cases h : f fr st with
  | bad => rw [h] at P; exact P
  | err x s => rw [h] at P; exact P
  | ok b st1 =>
    rw [h, Out.bind_ok] at P
    intro μ1 H1 k1 g1
    cases b with
    | true => exact iteT ⟨μ1, st1, hid, fr, S.next k1 g1, BPost.from g1 (by simpa using P)⟩
    | false => exact iteF ((by simpa using P : BPost X.K X.mg Wx.w hid μ st σ H Q (.ok false st1)) μ1 H1 k1 g1)
theorem bOr_read {f g : SemB} : ∀ σ H Q, tB' X.K X.mg Wx (bOr f g) σ H Q → tOr (tB' X.K X.mg Wx f) (tB' X.K X.mg Wx g) σ H Q := fun σ H Q ⟨μ, st, hid, fr, S, P⟩ => by
  refine ⟨μ, st, hid, fr, S, ?_⟩
  unfold bOr at P
  cases h : f fr st with
  | bad => rw [h] at P; exact P
  | err x s => rw [h] at P; exact P
  | ok b st1 =>
    rw [h, Out.bind_ok] at P
    intro μ1 H1 k1 g1
    cases b with
    | false => exact iteF ⟨μ1, st1, hid, fr, S.next k1 g1, BPost.from g1 (by simpa using P)⟩
    | true => exact iteT ((by simpa using P : BPost X.K X.mg Wx.w hid μ st σ H Q (.ok true st1)) μ1 H1 k1 g1)
abbrev WV (X : Cx) (Wx : Wish) (e : Expr) (f : SemB) : Prop := PW X e (tB' X.K X.mg Wx f)
theorem wv_and1 {a : Expr} {f : SemB} {pos : Pos} (ha : TV X Wx a f) : WV X Wx (.BoolOp .And [a] pos) f := pw_and1 ha
theorem wv_or1 {a : Expr} {f : SemB} {pos : Pos} (ha : TV X Wx a f) : WV X Wx (.BoolOp .Or [a] pos) f := pw_or1 ha
theorem wv_and {a b : Expr} {rest : List Expr} {f g : SemB} {pos : Pos} (ha : TV X Wx a f) (hb : WV X Wx (.BoolOp .And (b :: rest) pos) g) : WV X Wx (.BoolOp .And (a :: b :: rest) pos) (bAnd f g) := PWm (pw_and ha hb) bAnd_read
theorem wv_or {a b : Expr} {rest : List Expr} {f g : SemB} {pos : Pos} (ha : TV X Wx a f) (hb : WV X Wx (.BoolOp .Or (b :: rest) pos) g) : WV X Wx (.BoolOp .Or (a :: b :: rest) pos) (bOr f g) := PWm (pw_or ha hb) bOr_read
theorem tv_w {e : Expr} {f : SemB} (h : WV X Wx e f) : TV X Wx e f := h.pt
/-- .. as values -/
def eAnd (f g : Sem) : Sem := fun fr st => (f fr st).bind fun w st1 => match w with
  | .bl b => if b = true then g fr st1 else .ok (.bl false) st1
  | _ => .bad
def eNot (f : Sem) : Sem := fun fr st => (f fr st).bind fun w st1 => match w with
  | .bl b => .ok (.bl (!b)) st1
  | _ => .bad
theorem rep_bl {K : PySem.W.Frag} {mg : Str → Option Value} {F : Hp} {μ : List Addr} {b : Bool} : Rep K mg F μ (.bl b) (.bl b) := by unfold Rep; rfl
theorem rep_int {K : PySem.W.Frag} {mg : Str → Option Value} {F : Hp} {μ : List Addr} {b : Int} : Rep K mg F μ (.int b) (.int b) := by unfold Rep; rfl
theorem rep_str {K : PySem.W.Frag} {mg : Str → Option Value} {F : Hp} {μ : List Addr} {b : Str} : Rep K mg F μ (.str b) (.str b) := by unfold Rep; rfl
theorem rep_non {K : PySem.W.Frag} {mg : Str → Option Value} {F : Hp} {μ : List Addr} : Rep K mg F μ .non .non := by unfold Rep; rfl
theorem rep_bl_inv {K : PySem.W.Frag} {mg : Str → Option Value} {F : Hp} {μ : List Addr} {b : Bool} {v : V} (h : Rep K mg F μ (.bl b) v) : v = .bl b := by unfold Rep at h; exact h
theorem rep_int_inv {K : PySem.W.Frag} {mg : Str → Option Value} {F : Hp} {μ : List Addr} {b : Int} {v : V} (h : Rep K mg F μ (.int b) v) : v = .int b := by unfold Rep at h; exact h
theorem rep_str_inv {K : PySem.W.Frag} {mg : Str → Option Value} {F : Hp} {μ : List Addr} {b : Str} {v : V} (h : Rep K mg F μ (.str b) v) : v = .str b := by unfold Rep at h; exact h
theorem rep_non_inv {K : PySem.W.Frag} {mg : Str → Option Value} {F : Hp} {μ : List Addr} {v : V} (h : Rep K mg F μ .non v) : v = .non := by unfold Rep at h; exact h
theorem rep_tup_inv {K : PySem.W.Frag} {mg : Str → Option Value} {F : Hp} {μ : List Addr} {ws : List W} {v : V} (h : Rep K mg F μ (.tup ws) v) : ∃ a vs, v = .ref a ∧ TupAt K F a vs ∧ Reps K mg F μ ws vs := by unfold Rep at h; exact h
theorem rep_tpn_inv {K : PySem.W.Frag} {mg : Str → Option Value} {F : Hp} {μ : List Addr} {ws : List W} {v : V} (h : Rep K mg F μ (.tpn ws) v) : ∃ a vs, v = .ref a ∧ TpnAt F a vs ∧ Reps K mg F μ ws vs := by unfold Rep at h; exact h
theorem rep_lst_inv {K : PySem.W.Frag} {mg : Str → Option Value} {F : Hp} {μ : List Addr} {ws : List W} {v : V} (h : Rep K mg F μ (.lst ws) v) : ∃ a vs, v = .ref a ∧ F a = some (.lst vs) ∧ Reps K mg F μ ws vs := by unfold Rep at h; exact h
theorem rep_ro_inv {K : PySem.W.Frag} {mg : Str → Option Value} {F : Hp} {μ : List Addr} {ws : List W} {v : V} (h : Rep K mg F μ (.ro ws) v) : ∃ a vs, v = .ref a ∧ SqL K F a vs ∧ Reps K mg F μ ws vs := by unfold Rep at h; exact h
theorem rep_ty_inv {K : PySem.W.Frag} {mg : Str → Option Value} {F : Hp} {μ : List Addr} {n : String} {v : V} (h : Rep K mg F μ (.ty n) v) : v = .ty n := by unfold Rep at h; exact h
theorem rep_cell_inv {K : PySem.W.Frag} {mg : Str → Option Value} {F : Hp} {μ : List Addr} {k : Nat} {v : V} (h : Rep K mg F μ (.cell k) v) : ∃ a, μ[k]? = some a ∧ v = .ref a := by unfold Rep at h; exact h
theorem rep_tup {K : PySem.W.Frag} {mg : Str → Option Value} {F : Hp} {μ : List Addr} {ws : List W} {a : Addr} {vs : List V} (h : F a = some (.tup vs)) (r : Reps K mg F μ ws vs) : Rep K mg F μ (.tup ws) (.ref a) := by unfold Rep; exact ⟨a, vs, rfl, h, r⟩
theorem rep_lst {K : PySem.W.Frag} {mg : Str → Option Value} {F : Hp} {μ : List Addr} {ws : List W} {a : Addr} {vs : List V} (h : F a = some (.lst vs)) (r : Reps K mg F μ ws vs) : Rep K mg F μ (.lst ws) (.ref a) := by unfold Rep; exact ⟨a, vs, rfl, h, r⟩
theorem ev_and {a b : Expr} {rest : List Expr} {f g : Sem} {pos : Pos} (ha : EV X Wx a f) (hb : EV X Wx (.BoolOp .And (b :: rest) pos) g) : EV X Wx (.BoolOp .And (a :: b :: rest) pos) (eAnd f g) := PEm (pe_and ha hb) fun σ H Q ⟨μ, st, hid, fr, S, P⟩ => by
  refine ⟨μ, st, hid, fr, S, ?_⟩
  unfold eAnd at P
  cases h : f fr st with
  | bad => rw [h] at P; exact P
  | err x s => rw [h] at P; exact P
  | ok w st1 =>
    rw [h, Out.bind_ok] at P
    intro μ1 H1 v k1 g1 r1
    cases w with
    | bl c =>
      refine ⟨c, rep_bl_inv r1, ?_⟩
      cases c with
      | true => exact iteT ⟨μ1, st1, hid, fr, S.next k1 g1, EPost.from g1 (by simpa using P)⟩
      | false => exact iteF ((by simpa using P : EPost X.K X.mg Wx.w hid μ st σ H Q (.ok (.bl false) st1)) μ1 H1 _ k1 g1 rep_bl)
    | _ => exact P.elim
theorem ev_one {op : BoolOp} {a : Expr} {f : Sem} {pos : Pos} (ha : EV X Wx a f) : EV X Wx (.BoolOp op [a] pos) f := pe_one ha
theorem ev_not {a : Expr} {f : Sem} {pos : Pos} (ha : EV X Wx a f) : EV X Wx (.UnaryOp .Not a pos) (eNot f) := PEm (pe_not ha) fun σ H Q ⟨μ, st, hid, fr, S, P⟩ => by
  refine ⟨μ, st, hid, fr, S, ?_⟩
  unfold eNot at P
  cases h : f fr st with
  | bad => rw [h] at P; exact P
  | err x s => rw [h] at P; exact P
  | ok w st1 =>
    rw [h, Out.bind_ok] at P
    intro μ1 H1 v k1 g1 r1
    cases w with
    | bl c => exact ⟨c, rep_bl_inv r1, P μ1 H1 _ k1 g1 rep_bl⟩
    | _ => exact P.elim
/-- a op b op' c -/
def eChain (op op' : Op2) (f g h : Sem) : Sem := fun fr st => (f fr st).bind fun x st1 => (g fr st1).bind fun y st2 => (op x y st2).bind fun z st3 => match z with
  | .bl b => if b = true then (h fr st3).bind fun w st4 => op' y w st4 else .ok (.bl false) st3
  | _ => .bad
theorem eChain_read {op op' : Op2} {r r' : R2} {f g h : Sem} (hs : Op2S X op r) (hs' : Op2S X op' r') : ∀ σ H Q, tE X.K X.mg Wx (eChain op op' f g h) σ H Q → tChain r r' (tE X.K X.mg Wx f) (tE X.K X.mg Wx g) (tE X.K X.mg Wx h) σ H Q := fun σ H Q ⟨μ, st, hid, fr, S, P⟩ => by
  refine ⟨μ, st, hid, fr, S, ?_⟩
  unfold eChain at P
  cases h1 : f fr st with
  | bad => rw [h1] at P; exact P
  | err x s => rw [h1] at P; exact P
  | ok x st1 =>
    rw [h1, Out.bind_ok] at P
    intro μ1 H1 vx k1 g1 r1
    refine ⟨μ1, st1, hid, fr, S.next k1 g1, ?_⟩
    have P1 := EPost.from g1 P
    cases h2 : g fr st1 with
    | bad => rw [h2] at P1; exact P1
    | err x s => rw [h2] at P1; exact P1
    | ok y st2 =>
      rw [h2, Out.bind_ok] at P1
      intro μ2 H2 vy k2 g2 r2
      have P2 := EPost.from g2 P1
      refine hs Wx.w hid μ2 st2 σ H2 _ x y vx vy k2 (Rep.mono g2.le g2.pre _ _ r1) r2 ?_
      cases h3 : op x y st2 with
      | bad => rw [h3] at P2; exact P2
      | err x s => rw [h3] at P2; exact P2
      | ok z st3 =>
        rw [h3, Out.bind_ok] at P2
        intro μ3 H3 vz k3 g3 r3
        have P3 := EPost.from g3 P2
        cases z with
        | bl b =>
          refine ⟨b, rep_bl_inv r3, ?_⟩
          cases b with
          | false => exact iteF ((by simpa using P3 : EPost X.K X.mg Wx.w hid μ3 st3 σ H3 Q (.ok (.bl false) st3)) μ3 H3 _ k3 .refl rep_bl)
          | true =>
            refine iteT ⟨μ3, st3, hid, fr, S.next k3 ((g1.trans g2).trans g3), ?_⟩
            simp only [if_true] at P3
            cases h4 : h fr st3 with
            | bad => rw [h4] at P3; exact P3
            | err x s => rw [h4] at P3; exact P3
            | ok w st4 =>
              rw [h4, Out.bind_ok] at P3
              intro μ4 H4 vw k4 g4 r4
              exact hs' Wx.w hid μ4 st4 σ H4 Q y w vy vw k4 (Rep.mono (g3.trans g4).le (g3.trans g4).pre _ _ r2) r4 (EPost.from g4 P3)
        | _ => exact P3.elim
theorem ev_chain {op op' : CmpOp} {o o' : Op2} {r r' : R2} {a b c : Expr} {f g h : Sem} {pos : Pos} (ho : OpR X (compareOp op) r) (ho' : OpR X (compareOp op') r') (hs : Op2S X o r) (hs' : Op2S X o' r') (ha : EV X Wx a f) (hb : EV X Wx b g) (hc : EV X Wx c h)
    (hm : lastMarks [op, op'] [b, c] = false := by with_unfolding_all rfl) : EV X Wx (.Compare a [op, op'] [b, c] pos) (eChain o o' f g h) := PEm (pe_chain ho ho' ha hb hc hm) (eChain_read hs hs')
theorem tv_chain {op op' : CmpOp} {o o' : Op2} {r r' : R2} {a b c : Expr} {f g h : Sem} {pos : Pos} (ho : OpR X (compareOp op) r) (ho' : OpR X (compareOp op') r') (hs : Op2S X o r) (hs' : Op2S X o' r') (ha : EV X Wx a f) (hb : EV X Wx b g) (hc : EV X Wx c h)
    (hm : lastMarks [op, op'] [b, c] = false := by with_unfolding_all rfl) : TV X Wx (.Compare a [op, op'] [b, c] pos) (bOf (eChain o o' f g h)) := PTm (pt_chain ho ho' ha hb hc hm) (bOf_read (eChain_read hs hs'))
def e1 (op : Op1) (f : Sem) : Sem := fun fr st => (f fr st).bind fun w st1 => op w st1
/-! ## arguments -/
def aNil : SemL := fun _ st => .ok [] st
def aCons (f : Sem) (g : SemL) : SemL := fun fr st => (f fr st).bind fun w st1 => (g fr st1).bind fun ws st2 => .ok (w :: ws) st2
theorem av_nil : AV X Wx [] aNil := PAm pa_nil fun σ H Q ⟨μ, st, hid, fr, S, P⟩ => P μ H [] S.sto .refl .nil
theorem av_cons {e : Expr} {es : List Expr} {f : Sem} {g : SemL} (he : EV X Wx e f) (hr : AV X Wx es g) (hs : starEach (e :: es) X.env = (false, eval e X.env) :: starEach es X.env := by rfl) : AV X Wx (e :: es) (aCons f g) := PAm (pa_cons he hr hs) fun σ H Q ⟨μ, st, hid, fr, S, P⟩ => by
  refine ⟨μ, st, hid, fr, S, ?_⟩
  unfold aCons at P
  cases h : f fr st with
  | bad => rw [h] at P; exact P
  | err x s => rw [h] at P; exact P
  | ok w st1 =>
    rw [h, Out.bind_ok] at P
    intro μ1 H1 v k1 g1 r1
    have P1 := LPost.from g1 P
    refine ⟨μ1, st1, hid, fr, S.next k1 g1, ?_⟩
    cases h2 : g fr st1 with
    | bad => rw [h2] at P1; exact P1
    | err x s => rw [h2] at P1; exact P1
    | ok ws st2 =>
      rw [h2, Out.bind_ok] at P1
      intro μ2 H2 vs k2 g2 r2
      exact P1 μ2 H2 _ k2 g2 (.cons (Rep.mono g2.le g2.pre _ _ r1) r2)
def OpNS (X : Cx) (op : OpN) (r : List V → Hp → VK → Prop) : Prop := ∀ (Wx : WX) (hid μ : List Addr) (st : Sto) (σ : L2.St) (H : Hp) (Q : VK) (ws : List W) (vs : List V), StOk X.K X.mg μ st hid H → Reps X.K X.mg (Fz μ st hid H) μ ws vs →
  EPost X.K X.mg Wx hid μ st σ H Q (op ws st) → r vs H Q
def eN (op : OpN) (f : SemL) : Sem := fun fr st => (f fr st).bind fun ws st1 => op ws st1
theorem eN_read {op : OpN} {r : List V → Hp → VK → Prop} {f : SemL} (hs : OpNS X op r) : ∀ σ H Q, tE X.K X.mg Wx (eN op f) σ H Q → tA X.K X.mg Wx f σ H (fun vs H1 => r vs H1 Q) := fun σ H Q ⟨μ, st, hid, fr, S, P⟩ => by
  refine ⟨μ, st, hid, fr, S, ?_⟩
  unfold eN at P
  cases h : f fr st with
  | bad => rw [h] at P; exact P
  | err x s => rw [h] at P; exact P
  | ok w st1 =>
    rw [h, Out.bind_ok] at P
    intro μ1 H1 v k1 g1 r1
    exact hs Wx.w hid μ1 st1 σ H1 Q w v k1 r1 (EPost.from g1 P)
theorem ev_callB {id : String} {o : OpN} {r : List V → Hp → VK → Prop} {x : Str} {p pos : Pos} {e : Expr} {es : List Expr} {f : SemL} (hc : CallR X (.builtin id) r) (hs : OpNS X o r) (hm : X.mg x = none) (ha : AV X Wx (e :: es) f) (hv : bootBuiltins x = some (.builtin id) := by decide +kernel) (hg : Gl X x := by rfl)
    (hn : x ≠ "__name__" := by decide) (hdb : (x == ("__debug__" : Str)) = false := by decide) (he : starEach (e :: es) X.env = (false, eval e X.env) :: starEach es X.env := by rfl) (hpl : (backTo pos (starEach es X.env)).any (·.1) = false := by rfl) :
    EV X Wx (.Call (.Name x p) (e :: es) [] pos) (eN o f) := PEm (pe_callB hc hg hm hv ha hn hdb he hpl) (eN_read hs)
theorem ev_callTy {T : String} {o : OpN} {r : List V → Hp → VK → Prop} {x : Str} {p pos : Pos} {e : Expr} {es : List Expr} {f : SemL} (hc : CallR X (.type T) r) (hs : OpNS X o r) (hm : X.mg x = none) (ha : AV X Wx (e :: es) f) (hv : bootBuiltins x = some (.type T) := by decide +kernel) (hg : Gl X x := by rfl)
    (hn : x ≠ "__name__" := by decide) (hdb : (x == ("__debug__" : Str)) = false := by decide) (he : starEach (e :: es) X.env = (false, eval e X.env) :: starEach es X.env := by rfl) (hpl : (backTo pos (starEach es X.env)).any (·.1) = false := by rfl) :
    EV X Wx (.Call (.Name x p) (e :: es) [] pos) (eN o f) := PEm (pe_callTy hc hg hm hv ha hn hdb he hpl) (eN_read hs)

/-! ## an own def -/
def spF (K : PySem.W.Frag) (mg : Str → Option Value) (n : Nat) (F : Fn) : Sp := fun vs H Q E => ∃ hid μ st ws, vs.length = n ∧ StOk K mg μ st hid H ∧ Reps K mg (Fz μ st hid H) μ ws vs ∧ EPost K mg (fun c d _ H => E c d H) hid μ st [] H Q (F ws st)
def eCall (F : Fn) (f : SemL) : Sem := eN F f
theorem LPost.len {Wx : WX} {K : PySem.W.Frag} {mg : Str → Option Value} {hid μ : List Addr} {st : Sto} {σ : L2.St} {H : Hp} {Q Q' : List V → Hp → Prop} {o : Out (List W)} (h : LPost K mg Wx hid μ st σ H Q o) (i : ∀ vs H', Q vs H' → Q' vs H') : LPost K mg Wx hid μ st σ H Q' o := by
  cases o with
  | ok w s => exact fun μ2 H2 v a b c => i _ _ (h μ2 H2 v a b c)
  | err e s => exact h
  | bad => exact h
/-- an argument list of n -/
def ArN (n : Nat) (f : SemL) : Prop := ∀ fr st ws st', f fr st = .ok ws st' → ws.length = n
theorem arN_nil : ArN 0 aNil := fun _ _ _ _ h => by
  unfold aNil at h
  injection h with h1 _
  subst h1; rfl
theorem arN_cons {n : Nat} {f : Sem} {g : SemL} (h : ArN n g) : ArN (n + 1) (aCons f g) := fun fr st ws st' e => by
  unfold aCons at e
  cases h1 : f fr st with
  | bad => rw [h1] at e; cases e
  | err x s => rw [h1] at e; cases e
  | ok w st1 =>
    rw [h1, Out.bind_ok] at e
    cases h2 : g fr st1 with
    | bad => rw [h2] at e; cases e
    | err x s => rw [h2] at e; cases e
    | ok us st2 =>
      rw [h2, Out.bind_ok] at e
      injection e with e1 _
      subst e1
      simp [h _ _ _ _ h2]
theorem eCall_read {n : Nat} {F : Fn} {f : SemL} (ar : ArN n f) : ∀ σ H Q, tE X.K X.mg Wx (eCall F f) σ H Q → tCallS (spF X.K X.mg n F) (WE Wx.w) (tA X.K X.mg Wx f) σ H Q := fun σ H Q ⟨μ, st, hid, fr, S, P⟩ => by
  refine ⟨μ, st, hid, fr, S, ?_⟩
  unfold eCall eN at P
  cases h : f fr st with
  | bad => rw [h] at P; exact P
  | err x s => rw [h] at P; exact P
  | ok ws st1 =>
    rw [h, Out.bind_ok] at P
    intro μ1 H1 vs k1 g1 r1
    refine ⟨hid, μ1, st1, ws, by rw [← r1.length]; exact ar _ _ _ _ h, k1, r1, ?_⟩
    have P1 := EPost.from g1 P
    cases h2 : F ws st1 with
    | bad => rw [h2] at P1; exact P1
    | err x s => rw [h2] at P1; exact P1
    | ok u st2 => rw [h2] at P1; exact P1
theorem ev_call {k n : Nat} {g : Addr} {fd : FuncData} {ps : List Str} {F : Fn} {x : Str} {p pos : Pos} {e : Expr} {es : List Expr} {f : SemL} (G : FnOk X.prog X.w X.K X.mg X.base (L2.CX X.prog X.w) k g fd ps (spF X.K X.mg n F)) (hr : Room k X.A) (hm : X.mg x = some (.ref g)) (hk : PySem.W.keepIn X.K (.ref g) = true) (hb : Binds X.K fd ps [])
    (tk : Takes X Wx.w) (ha : AV X Wx (e :: es) f) (ar : ArN n f) (hg : Gl X x := by rfl) (hdb : (x == ("__debug__" : Str)) = false := by decide) (he : starEach (e :: es) X.env = (false, eval e X.env) :: starEach es X.env := by rfl) (hpl : (backTo pos (starEach es X.env)).any (·.1) = false := by rfl) :
    EV X Wx (.Call (.Name x p) (e :: es) [] pos) (eCall F f) := PEm (pe_callS G hr hg hm hk hb (fun σ => passAt tk σ) ha hdb he hpl) (eCall_read ar)

/-! ## displays -/
def small (ws : List W) : Bool := decide (ws.length ≤ 1000)
theorem small_line {ws : List W} {K : PySem.W.Frag} {mg : Str → Option Value} {F : Hp} {μ : List Addr} {vs : List V} (h : small ws = true) (r : Reps K mg F μ ws vs) : vs.length ≤ sizeLine := by
  rw [← r.length]
  exact Nat.le_of_lt (small1000 (of_decide_eq_true h))
def oTup : OpN := fun ws st => if small ws = true then .ok (.tup ws) st else .bad
def oLst : OpN := fun ws st => if small ws = true then .ok (.lst ws) st else .bad
/-- a new frozen object -/
theorem ok_new {Wx : WX} {K : PySem.W.Frag} {mg : Str → Option Value} {hid μ : List Addr} {st : Sto} {σ : L2.St} {H : Hp} {Q : VK} {w : W} {o : HO} (P : EPost K mg Wx hid μ st σ H Q (.ok w st)) (k : StOk K mg μ st hid H) {p : Addr} (hp : H p = none) (r : ∀ F, Le (Fz μ st hid H) F → F p = some o → Rep K mg F μ w (.ref p)) : Q (.ref p) (upd H p o) := by
  obtain ⟨k1, g1, e1⟩ := k.laid (o := o) hp
  exact P μ _ _ k1 g1 (r _ g1.le e1)
theorem ev_tup {es : List Expr} {f : SemL} {x1} {pos : Pos} (h : AV X Wx es f) : EV X Wx (.Tuple es x1 pos) (eN oTup f) := PEm (pe_tup h) fun σ H Q P => by
  refine eN_read (r := fun vs H1 Q => vs.length ≤ sizeLine ∧ ∀ p, H1 p = none → Q (.ref p) (upd H1 p (.tup vs))) ?_ σ H Q P
  intro Wx hid μ st σ H Q ws vs k r P
  unfold oTup at P
  split at P
  · rename_i hs
    exact ⟨small_line hs r, fun p hp => ok_new P k hp fun F l e => rep_tup e (r.mono l (.refl _))⟩
  · exact P.elim
theorem ev_lst {es : List Expr} {f : SemL} {pos : Pos} (h : AV X Wx es f) : EV X Wx (.List es pos) (eN oLst f) := PEm (pe_lst h) fun σ H Q P => by
  refine eN_read (r := fun vs H1 Q => vs.length ≤ sizeLine ∧ ∀ p, H1 p = none → Q (.ref p) (upd H1 p (.lst vs))) ?_ σ H Q P
  intro Wx hid μ st σ H Q ws vs k r P
  unfold oLst at P
  split at P
  · rename_i hs
    exact ⟨small_line hs r, fun p hp => ok_new P k hp fun F l e => rep_lst e (r.mono l (.refl _))⟩
  · exact P.elim
end
end SL

namespace SL
open PySem PySem.Spec PyProof.Rows L2

/-! ## what a cell or a value holds -/
def lstW (st : Sto) : W → Option (List W)
  | .lst ws => some ws
  | .ro ws => some ws
  | .cell k => match st[k]? with
    | some (.lst ws) => some ws
    | some (.frz (.lst ws)) => some ws
    | _ => none
  | _ => none
def tupW (st : Sto) : W → Option (List W)
  | .tup ws => some ws
  | .tpn ws => some ws
  | .cell k => match st[k]? with
    | some (.frz (.tup ws)) => some ws
    | some (.frz (.tpn ws)) => some ws
    | _ => none
  | _ => none
section
variable {K : PySem.W.Frag} {mg : Str → Option Value} {μ : List Addr} {st : Sto} {hid : List Addr} {H : Hp}
theorem SqL.fz {a : Addr} {vs : List V} (h : Fz μ st hid H a = some (.lst vs)) : SqL K H a vs := .of (Fz.sub h).1
theorem SqL.fz' {a : Addr} {vs : List V} (h : SqL K (Fz μ st hid H) a vs) : SqL K H a vs := SqL.le Fz.le h
theorem TupAt.fz {a : Addr} {vs : List V} (h : TupAt K (Fz μ st hid H) a vs) : SqT K H a vs := SqT.le Fz.le h.sq
theorem TpnAt.fz {a : Addr} {vs : List V} (h : TpnAt (Fz μ st hid H) a vs) : SqT K H a vs := SqT.le Fz.le h.sq
theorem StOk.cell (s : StOk K mg μ st hid H) {k : Nat} {c : Cel} {v : V} (h : st[k]? = some c) (r : Rep K mg (Fz μ st hid H) μ (.cell k) v) : ∃ a, v = .ref a ∧ μ[k]? = some a ∧ CelOk K mg (Fz μ st hid H) μ H a c := by
  obtain ⟨a, h1, h2⟩ := rep_cell_inv r
  exact ⟨a, h2, h1, s.ok k a c h1 h⟩
theorem lstW_at (s : StOk K mg μ st hid H) {w : W} {ws : List W} {v : V} (h : lstW st w = some ws) (r : Rep K mg (Fz μ st hid H) μ w v) : ∃ a vs, v = .ref a ∧ SqL K H a vs ∧ Reps K mg (Fz μ st hid H) μ ws vs := by
  cases w with
  | lst us =>
    unfold lstW at h; cases h
    obtain ⟨a, vs, e, h1, h2⟩ := rep_lst_inv r
    exact ⟨a, vs, e, SqL.fz h1, h2⟩
  | ro us =>
    unfold lstW at h; cases h
    obtain ⟨a, vs, e, h1, h2⟩ := rep_ro_inv r
    exact ⟨a, vs, e, SqL.fz' h1, h2⟩
  | cell k =>
    unfold lstW at h
    simp only at h
    split at h
    · rename_i us e
      cases h
      obtain ⟨a, e1, e2, vs, h1, h2⟩ := s.cell e r
      exact ⟨a, vs, e1, .of h1, h2⟩
    · rename_i us e
      cases h
      obtain ⟨a, e1, e2, h1⟩ := s.cell e r
      obtain ⟨b, vs, e3, h1, h2⟩ := rep_lst_inv h1
      cases e3
      exact ⟨a, vs, e1, SqL.fz h1, h2⟩
    · cases h
  | _ => cases h
theorem tupW_at (s : StOk K mg μ st hid H) {w : W} {ws : List W} {v : V} (h : tupW st w = some ws) (r : Rep K mg (Fz μ st hid H) μ w v) : ∃ a vs, v = .ref a ∧ SqT K H a vs ∧ Reps K mg (Fz μ st hid H) μ ws vs := by
  cases w with
  | tup us =>
    unfold tupW at h; cases h
    obtain ⟨a, vs, e, h1, h2⟩ := rep_tup_inv r
    exact ⟨a, vs, e, h1.fz, h2⟩
  | tpn us =>
    unfold tupW at h; cases h
    obtain ⟨a, vs, e, h1, h2⟩ := rep_tpn_inv r
    exact ⟨a, vs, e, h1.fz, h2⟩
  | cell k =>
    unfold tupW at h
    simp only at h
    split at h
    · rename_i us e
      cases h
      obtain ⟨a, e1, e2, h1⟩ := s.cell e r
      obtain ⟨b, vs, e3, h1, h2⟩ := rep_tup_inv h1
      cases e3
      exact ⟨a, vs, e1, h1.fz, h2⟩
    · rename_i us e
      cases h
      obtain ⟨a, e1, e2, h1⟩ := s.cell e r
      obtain ⟨b, vs, e3, h1, h2⟩ := rep_tpn_inv h1
      cases e3
      exact ⟨a, vs, e1, h1.fz, h2⟩
    · cases h
  | _ => cases h
/-- a tuple that is tracked -/
def trkW (st : Sto) : W → Option (List W)
  | .tup ws => some ws
  | .cell k => match st[k]? with
    | some (.frz (.tup ws)) => some ws
    | _ => none
  | _ => none
theorem trkW_at (s : StOk K mg μ st hid H) {w : W} {ws : List W} {v : V} (h : trkW st w = some ws) (r : Rep K mg (Fz μ st hid H) μ w v) : ∃ a vs, v = .ref a ∧ TupAt K (Fz μ st hid H) a vs ∧ Reps K mg (Fz μ st hid H) μ ws vs := by
  cases w with
  | tup us =>
    unfold trkW at h; cases h
    exact rep_tup_inv r
  | cell k =>
    unfold trkW at h
    simp only at h
    split at h
    · rename_i us e
      cases h
      obtain ⟨a, e1, e2, h1⟩ := s.cell e r
      obtain ⟨b, vs, e3, h1, h2⟩ := rep_tup_inv h1
      cases e3
      exact ⟨a, vs, e1, h1, h2⟩
    · cases h
  | _ => cases h
/-- a list or a tuple -/
def seqW (st : Sto) (w : W) : Option (List W) := match lstW st w with
  | some ws => some ws
  | none => tupW st w
theorem seqW_at (s : StOk K mg μ st hid H) {w : W} {ws : List W} {v : V} (h : seqW st w = some ws) (r : Rep K mg (Fz μ st hid H) μ w v) : ∃ a vs, v = .ref a ∧ (SqL K H a vs ∨ SqT K H a vs) ∧ Reps K mg (Fz μ st hid H) μ ws vs := by
  unfold seqW at h
  split at h
  · rename_i us e
    cases h
    obtain ⟨a, vs, e1, e2, e3⟩ := lstW_at s e r
    exact ⟨a, vs, e1, .inl e2, e3⟩
  · obtain ⟨a, vs, e1, e2, e3⟩ := tupW_at s h r
    exact ⟨a, vs, e1, .inr e2, e3⟩
end
section
variable {X : Cx}

/-! ## ints -/
def LINE : Nat := 16777216
theorem le_line {n : Nat} (h : n ≤ LINE) : n ≤ sizeLine := by rw [sizeLine_eq]; exact h
def oAdd : Op2 := fun x y st => match x, y with
  | .int i, .int j => .ok (.int (i + j)) st
  | .str a, .str b => if a.length + b.length ≤ LINE then .ok (.str (a ++ b)) st else .bad
  | .tup a, .tup b => if a.length + b.length ≤ LINE then .ok (.tup (a ++ b)) st else .bad
  | .lst a, .lst b => if a.length + b.length ≤ LINE then .ok (.lst (a ++ b)) st else .bad
  | _, _ => .bad
def rAddAll (K : PySem.W.Frag) : R2 := fun x y H Q => rI0 (fun i j => .int (i + j)) x y H Q ∨ (∃ i j, x = .str i ∧ y = .str j ∧ i.length + j.length ≤ sizeLine ∧ Q (.str (i ++ j)) H) ∨ rCatA K x y H Q ∨ rCat x y H Q
theorem or_add : OpR X (binaryOp .Add) (rAddAll X.K) := op_add.or (op_add_str.or (op_catA.or op_cat))
theorem os_add : Op2S X oAdd (rAddAll X.K) := by
  intro Wx hid μ st σ H Q w u x y k rx ry P
  unfold oAdd at P
  split at P
  · cases rep_int_inv rx; cases rep_int_inv ry
    exact .inl ⟨_, _, rfl, rfl, P μ H _ k .refl rep_int⟩
  · cases rep_str_inv rx; cases rep_str_inv ry
    split at P
    · rename_i hz
      exact .inr (.inl ⟨_, _, rfl, rfl, le_line hz, P μ H _ k .refl rep_str⟩)
    · exact P.elim
  · split at P
    · rename_i a b hz
      obtain ⟨p, vs, rfl, h1, h2⟩ := rep_tup_inv rx
      obtain ⟨q, zs, rfl, h3, h4⟩ := rep_tup_inv ry
      refine .inr (.inr (.inl ⟨p, q, vs, zs, rfl, rfl, h1.fz, h3.fz, by rw [← h2.length, ← h4.length]; exact le_line hz, fun e => ?_, fun _ e => ?_, fun _ _ t ht => ?_⟩))
      · subst e
        have : a = [] := List.eq_nil_of_length_eq_zero (by rw [h2.length]; rfl)
        subst this
        exact P μ H _ k .refl (by simpa using ry)
      · subst e
        have : b = [] := List.eq_nil_of_length_eq_zero (by rw [h4.length]; rfl)
        subst this
        exact P μ H _ k .refl (by simpa using rx)
      · exact ok_new P k ht fun F l e => rep_tup e ((h2.append h4).mono l (.refl _))
    · exact P.elim
  · split at P
    · rename_i a b hz
      obtain ⟨p, vs, rfl, h1, h2⟩ := rep_lst_inv rx
      obtain ⟨q, zs, rfl, h3, h4⟩ := rep_lst_inv ry
      refine .inr (.inr (.inr ⟨p, q, vs, zs, rfl, rfl, (Fz.sub h1).1, (Fz.sub h3).1, by rw [← h2.length, ← h4.length]; exact le_line hz, fun t ht => ?_⟩))
      exact ok_new P k ht fun F l e => rep_lst e ((h2.append h4).mono l (.refl _))
    · exact P.elim
  · exact P.elim
def oSub : Op2 := fun x y st => match x, y with
  | .int i, .int j => .ok (.int (i - j)) st
  | _, _ => .bad
theorem os_sub : Op2S X oSub (rI0 fun i j => .int (i - j)) := by
  intro Wx hid μ st σ H Q w u x y k rx ry P
  unfold oSub at P
  split at P
  · cases rep_int_inv rx; cases rep_int_inv ry
    exact ⟨_, _, rfl, rfl, P μ H _ k .refl rep_int⟩
  · exact P.elim
/-- a condition that nothing reckons out -/
noncomputable def dec (p : Prop) : Bool := @decide p (Classical.propDecidable p)
theorem dec_of {p : Prop} (h : dec p = true) : p := @of_decide_eq_true p (Classical.propDecidable p) h
theorem dec_mk {p : Prop} (h : p) : dec p = true := @decide_eq_true p (Classical.propDecidable p) h
noncomputable def mulOk (i j : Int) : Bool := dec ((-(2 ^ 64) < i ∧ i < 2 ^ 64) ∨ (-(2 ^ 64) < j ∧ j < 2 ^ 64)) || dec (i.natAbs.log2 + j.natAbs.log2 < 1000000)
noncomputable def oMul : Op2 := fun x y st => match x, y with
  | .int i, .int j => if mulOk i j = true then .ok (.int (i * j)) st else .bad
  | _, _ => .bad
def rMulAll : R2 := fun x y H Q => rI CMul (fun i j => .int (i * j)) x y H Q ∨ rI CMulW (fun i j => .int (i * j)) x y H Q
theorem or_mul : OpR X (binaryOp .Mult) rMulAll := op_mul.or op_mulW
theorem os_mul : Op2S X oMul rMulAll := by
  intro Wx hid μ st σ H Q w u x y k rx ry P
  unfold oMul at P
  split at P
  · cases rep_int_inv rx; cases rep_int_inv ry
    split at P
    · rename_i hz
      unfold mulOk at hz
      rw [Bool.or_eq_true] at hz
      rcases hz with hz | hz
      · have hz' := dec_of hz
        exact .inl ⟨_, _, rfl, rfl, hz', P μ H _ k .refl rep_int⟩
      · have hz' := dec_of hz
        exact .inr ⟨_, _, rfl, rfl, hz', P μ H _ k .refl rep_int⟩
    · exact P.elim
  · exact P.elim
noncomputable def oDiv : Op2 := fun x y st => match x, y with
  | .int i, .int j => if dec (0 < j ∧ j.natAbs.log2 < 9000) = true then .ok (.int (i / j)) st else .bad
  | _, _ => .bad
theorem os_div : Op2S X oDiv (rI CDivW fun i j => .int (i / j)) := by
  intro Wx hid μ st σ H Q w u x y k rx ry P
  unfold oDiv at P
  split at P
  · cases rep_int_inv rx; cases rep_int_inv ry
    split at P
    · rename_i hz
      exact ⟨_, _, rfl, rfl, dec_of hz, P μ H _ k .refl rep_int⟩
    · exact P.elim
  · exact P.elim
def oMod : Op2 := fun x y st => match x, y with
  | .int i, .int j => if 0 < j then .ok (.int (i % j)) st else .bad
  | _, _ => .bad
theorem os_mod : Op2S X oMod (rI (fun _ j => 0 < j) fun i j => .int (i % j)) := by
  intro Wx hid μ st σ H Q w u x y k rx ry P
  unfold oMod at P
  split at P
  · cases rep_int_inv rx; cases rep_int_inv ry
    split at P
    · rename_i hz
      exact ⟨_, _, rfl, rfl, hz, P μ H _ k .refl rep_int⟩
    · exact P.elim
  · exact P.elim
noncomputable def oPow : Op2 := fun x y st => match x, y with
  | .int i, .int j => if dec (0 ≤ j ∧ j ≤ 1000000 ∧ i.natAbs < 2 ^ 64) = true then .ok (.int (i ^ j.toNat)) st else .bad
  | _, _ => .bad
theorem os_pow : Op2S X oPow (rI CPow fun i j => .int (i ^ j.toNat)) := by
  intro Wx hid μ st σ H Q w u x y k rx ry P
  unfold oPow at P
  split at P
  · cases rep_int_inv rx; cases rep_int_inv ry
    split at P
    · rename_i hz
      exact ⟨_, _, rfl, rfl, dec_of hz, P μ H _ k .refl rep_int⟩
    · exact P.elim
  · exact P.elim
/-- order of ints, of texts -/
def oCmpI (p : Int → Int → Bool) (q : List Nat → List Nat → Bool) : Op2 := fun x y st => match x, y with
  | .int i, .int j => .ok (.bl (p i j)) st
  | .str a, .str b => .ok (.bl (q a.cps.toList b.cps.toList)) st
  | _, _ => .bad
def oLt : Op2 := oCmpI (fun i j => decide (i < j)) fun a b => decide (a < b)
def oLe : Op2 := fun x y st => match x, y with
  | .int i, .int j => .ok (.bl (decide (i ≤ j))) st
  | _, _ => .bad
def oGt : Op2 := fun x y st => match x, y with
  | .int i, .int j => .ok (.bl (decide (j < i))) st
  | _, _ => .bad
def oGe : Op2 := fun x y st => match x, y with
  | .int i, .int j => .ok (.bl (decide (j ≤ i))) st
  | _, _ => .bad
def rLtAll : R2 := fun x y H Q => rI0 (fun i j => .bl (decide (i < j))) x y H Q ∨ (∃ i j, x = .str i ∧ y = .str j ∧ Q (.bl (decide (i.cps.toList < j.cps.toList))) H)
theorem or_lt : OpR X (compareOp .Lt) rLtAll := op_lt.or op_lt_str
theorem os_lt : Op2S X oLt rLtAll := by
  intro Wx hid μ st σ H Q w u x y k rx ry P
  unfold oLt oCmpI at P
  split at P
  · cases rep_int_inv rx; cases rep_int_inv ry
    exact .inl ⟨_, _, rfl, rfl, P μ H _ k .refl rep_bl⟩
  · cases rep_str_inv rx; cases rep_str_inv ry
    exact .inr ⟨_, _, rfl, rfl, P μ H _ k .refl rep_bl⟩
  · exact P.elim
theorem os_le : Op2S X oLe (rI0 fun i j => .bl (decide (i ≤ j))) := by
  intro Wx hid μ st σ H Q w u x y k rx ry P
  unfold oLe at P
  split at P
  · cases rep_int_inv rx; cases rep_int_inv ry
    exact ⟨_, _, rfl, rfl, P μ H _ k .refl rep_bl⟩
  · exact P.elim
theorem os_gt : Op2S X oGt (rI0 fun i j => .bl (decide (j < i))) := by
  intro Wx hid μ st σ H Q w u x y k rx ry P
  unfold oGt at P
  split at P
  · cases rep_int_inv rx; cases rep_int_inv ry
    exact ⟨_, _, rfl, rfl, P μ H _ k .refl rep_bl⟩
  · exact P.elim
theorem os_ge : Op2S X oGe (rI0 fun i j => .bl (decide (j ≤ i))) := by
  intro Wx hid μ st σ H Q w u x y k rx ry P
  unfold oGe at P
  split at P
  · cases rep_int_inv rx; cases rep_int_inv ry
    exact ⟨_, _, rfl, rfl, P μ H _ k .refl rep_bl⟩
  · exact P.elim

/-! ## == of data -/
mutual
def pdW : W → Option PyData
  | .non => some .none
  | .bl b => some (.bool b)
  | .int i => some (.int i)
  | .str x => some (.str x)
  | .tup ws => (pdWs ws).map .tuple
  | .lst ws => (pdWs ws).map .list
  | .ro ws => (pdWs ws).map .list
  | .tpn ws => (pdWs ws).map .tuple
  | _ => none
def pdWs : List W → Option (List PyData)
  | [] => some []
  | w :: r => match pdW w, pdWs r with
    | some d, some ds => some (d :: ds)
    | _, _ => none
end
mutual
theorem pdW_at {K : PySem.W.Frag} {mg : Str → Option Value} {F H : Hp} {μ : List Addr} (l : Le F H) : ∀ (w : W) (v : V) (d : PyData), pdW w = some d → Rep K mg F μ w v → Dp K H v d
  | .non, v, d, h, r => by unfold pdW at h; cases h; cases rep_non_inv r; exact .non
  | .bl b, v, d, h, r => by unfold pdW at h; cases h; cases rep_bl_inv r; exact .bl b
  | .int b, v, d, h, r => by unfold pdW at h; cases h; cases rep_int_inv r; exact .int b
  | .str b, v, d, h, r => by unfold pdW at h; cases h; cases rep_str_inv r; exact .str b
  | .tup ws, v, d, h, r => by
    unfold pdW at h
    obtain ⟨a, vs, rfl, h1, h2⟩ := rep_tup_inv r
    cases e : pdWs ws with
    | none => rw [e] at h; cases h
    | some ds =>
      rw [e] at h; cases h
      exact .tup (SqT.le l h1.sq) (pdWs_at l ws vs ds e h2)
  | .lst ws, v, d, h, r => by
    unfold pdW at h
    obtain ⟨a, vs, rfl, h1, h2⟩ := rep_lst_inv r
    cases e : pdWs ws with
    | none => rw [e] at h; cases h
    | some ds =>
      rw [e] at h; cases h
      exact .lst (.of (l.lst h1)) (pdWs_at l ws vs ds e h2)
  | .tpn ws, v, d, h, r => by
    unfold pdW at h
    obtain ⟨a, vs, rfl, h1, h2⟩ := rep_tpn_inv r
    cases e : pdWs ws with
    | none => rw [e] at h; cases h
    | some ds =>
      rw [e] at h; cases h
      exact .tup (SqT.le l h1.sq) (pdWs_at l ws vs ds e h2)
  | .ro ws, v, d, h, r => by
    unfold pdW at h
    obtain ⟨a, vs, rfl, h1, h2⟩ := rep_ro_inv r
    cases e : pdWs ws with
    | none => rw [e] at h; cases h
    | some ds =>
      rw [e] at h; cases h
      exact .lst (SqL.le l h1) (pdWs_at l ws vs ds e h2)
  | .dct ks ws, v, d, h, r => by unfold pdW at h; cases h
  | .ins c ks ws, v, d, h, r => by unfold pdW at h; cases h
  | .cell k, v, d, h, r => by unfold pdW at h; cases h
  | .ty k, v, d, h, r => by unfold pdW at h; cases h
  | .cls k, v, d, h, r => by unfold pdW at h; cases h
theorem pdWs_at {K : PySem.W.Frag} {mg : Str → Option Value} {F H : Hp} {μ : List Addr} (l : Le F H) : ∀ (ws : List W) (vs : List V) (ds : List PyData), pdWs ws = some ds → Reps K mg F μ ws vs → DpAll K H vs ds
  | [], vs, ds, h, r => by
    unfold pdWs at h; cases h
    rw [Reps.nil_iff] at r; subst r; exact .nil
  | w :: ws, vs, ds, h, r => by
    unfold pdWs at h
    obtain ⟨v, vr, rfl, r1, r2⟩ := r.cons_inv
    cases e1 : pdW w with
    | none => rw [e1] at h; cases h
    | some d =>
      cases e2 : pdWs ws with
      | none => rw [e1, e2] at h; cases h
      | some dr =>
        rw [e1, e2] at h; cases h
        exact .cons (pdW_at l w v d e1 r1) (pdWs_at l ws vr dr e2 r2)
end
/-- .. with a cell looked into -/
def pdT (st : Sto) : W → Option PyData
  | .cell k => match st[k]? with
    | some (.lst ws) => (pdWs ws).map .list
    | some (.frz w) => pdW w
    | _ => none
  | w => pdW w
theorem pdT_at {K : PySem.W.Frag} {mg : Str → Option Value} {H : Hp} {hid μ : List Addr} {st : Sto} (k : StOk K mg μ st hid H) {w : W} {v : V} {d : PyData} (h : pdT st w = some d) (r : Rep K mg (Fz μ st hid H) μ w v) : Dp K H v d := by
  cases w with
  | cell n =>
    unfold pdT at h
    simp only at h
    split at h
    · rename_i ws e
      obtain ⟨a, rfl, e2, vs, h1, h2⟩ := k.cell e r
      cases e3 : pdWs ws with
      | none => rw [e3] at h; cases h
      | some ds =>
        rw [e3] at h; cases h
        exact .lst (.of h1) (pdWs_at Fz.le ws vs ds e3 h2)
    · rename_i u e
      obtain ⟨a, rfl, e2, h1⟩ := k.cell e r
      exact pdW_at Fz.le u _ d h h1
    · cases h
  | _ => exact pdW_at Fz.le _ _ _ h r
def eqW (st : Sto) (x y : W) : Option Bool := match pdT st x, pdT st y with
  | some d, some e => if SeqAt.shaped d && SeqAt.shaped e then some (PyData.eqv d e) else none
  | _, _ => none
def oEq : Op2 := fun x y st => match eqW st x y with
  | some b => .ok (.bl b) st
  | none => .bad
def oNe : Op2 := fun x y st => match eqW st x y with
  | some b => .ok (.bl (!b)) st
  | none => .bad
theorem eqW_at {K : PySem.W.Frag} {mg : Str → Option Value} {H : Hp} {hid μ : List Addr} {st : Sto} (k : StOk K mg μ st hid H) {w u : W} {x y : V} {b : Bool} (h : eqW st w u = some b) (rx : Rep K mg (Fz μ st hid H) μ w x) (ry : Rep K mg (Fz μ st hid H) μ u y) :
    ∃ d e, Dp K H x d ∧ Dp K H y e ∧ SeqAt.shaped d = true ∧ SeqAt.shaped e = true ∧ b = PyData.eqv d e := by
  unfold eqW at h
  split at h
  · rename_i d e h1 h2
    split at h
    · rename_i h3
      rw [Bool.and_eq_true] at h3
      cases h
      exact ⟨d, e, pdT_at k h1 rx, pdT_at k h2 ry, h3.1, h3.2, rfl⟩
    · cases h
  · cases h
theorem os_eq : Op2S X oEq (rEqD X.K) := by
  intro Wx hid μ st σ H Q w u x y k rx ry P
  unfold oEq at P
  split at P
  · rename_i b h
    obtain ⟨d, e, h1, h2, h3, h4, rfl⟩ := eqW_at k h rx ry
    exact ⟨d, e, h1, h2, h3, h4, P μ H _ k .refl rep_bl⟩
  · exact P.elim
theorem os_ne : Op2S X oNe (rNeD X.K) := by
  intro Wx hid μ st σ H Q w u x y k rx ry P
  unfold oNe at P
  split at P
  · rename_i b h
    obtain ⟨d, e, h1, h2, h3, h4, rfl⟩ := eqW_at k h rx ry
    exact ⟨d, e, h1, h2, h3, h4, P μ H _ k .refl rep_bl⟩
  · exact P.elim
/-! ## isinstance -/
/-- a walked dict of tuple keys is asked nothing -/
def tlK : List W → Bool
  | .ty t :: _ => t == "TL"
  | _ => false
def tyW (st : Sto) : W → Option String
  | .non => some "NoneType"
  | .bl _ => some "bool"
  | .int _ => some "int"
  | .str _ => some "str"
  | .tup _ => some "tuple"
  | .tpn _ => some "tuple"
  | .lst _ => some "list"
  | .dct ks _ => if tlK ks = true then none else some "dict"
  | .cell k => match st[k]? with
    | some (.lst _) => some "list"
    | some (.dct ks _) => if tlK ks = true then none else some "dict"
    | some (.frz (.lst _)) => some "list"
    | some (.frz (.tup _)) => some "tuple"
    | _ => none
  | _ => none
theorem kind_T {ks : List W} {q : List Key ⊕ List (List Key)} {l : Bool} (h : kindW ks = some (l, q)) : (∃ kk, q = .inl kk) ∨ ((∃ kk, q = .inr kk) ∧ (l = false ∨ tlK ks = true)) := by
  cases ks with
  | nil => cases h; exact .inl ⟨_, rfl⟩
  | cons w ks =>
    cases w with
    | ty t =>
      have z : kindW (.ty t :: ks) = if t = "L" then (mapO keyW ks).map fun kk => (true, .inl kk) else if t = "T" then (mapO keyT ks).map fun kk => (false, .inr kk) else if t = "TL" then (mapO keyT ks).map fun kk => (true, .inr kk) else none := rfl
      rw [z] at h
      by_cases h1 : t = "L"
      · rw [if_pos h1] at h
        cases m : mapO keyW ks with
        | none => rw [m] at h; cases h
        | some kk => rw [m] at h; cases h; exact .inl ⟨_, rfl⟩
      · rw [if_neg h1] at h
        by_cases h2 : t = "T"
        · rw [if_pos h2] at h
          cases m : mapO keyT ks with
          | none => rw [m] at h; cases h
          | some kk => rw [m] at h; cases h; exact .inr ⟨⟨_, rfl⟩, .inl rfl⟩
        · rw [if_neg h2] at h
          by_cases h3 : t = "TL"
          · exact .inr ⟨by
              rw [if_pos h3] at h
              cases m : mapO keyT ks with
              | none => rw [m] at h; cases h
              | some kk => rw [m] at h; cases h; exact ⟨_, rfl⟩, .inr (beq_iff_eq.mpr h3)⟩
          · rw [if_neg h3] at h; cases h
    | int i =>
      have z : kindW (.int i :: ks) = (mapO keyW (.int i :: ks)).map fun kk => (false, .inl kk) := rfl
      rw [z] at h
      cases m : mapO keyW (.int i :: ks) with
      | none => rw [m] at h; cases h
      | some kk => rw [m] at h; cases h; exact .inl ⟨_, rfl⟩
    | str i =>
      have z : kindW (.str i :: ks) = (mapO keyW (.str i :: ks)).map fun kk => (false, .inl kk) := rfl
      rw [z] at h
      cases m : mapO keyW (.str i :: ks) with
      | none => rw [m] at h; cases h
      | some kk => rw [m] at h; cases h; exact .inl ⟨_, rfl⟩
    | _ => cases h
theorem dct_ty {K : PySem.W.Frag} {F H : Hp} {a : Addr} {ks : List W} {vs : List V} (l : ∀ o, F a = some o → H a = some o) (h : DctAt F a ks vs) (ht : ¬ tlK ks = true) : TyX K H (.ref a) (.type "dict") := by
  obtain ⟨b, q, h1, h2, h3, h4⟩ := h
  rcases kind_T h1 with ⟨kk, rfl⟩ | ⟨⟨kk, rfl⟩, hb | hb⟩
  · rcases h3 with h3 | ⟨o, h3⟩
    · exact .base (.dK (l _ h3))
    · exact .fDict (l _ h3)
  · exact .base (.dT (l _ (h4.1 hb kk rfl)))
  · exact absurd hb ht
theorem tup_ty {K : PySem.W.Frag} {F H : Hp} {a : Addr} {vs : List V} (l : Le F H) (h : TupAt K F a vs) : TyX K H (.ref a) (.type "tuple") := by
  exact .base (.tup (l.fix _ _ trivial h))
theorem tyW_at {K : PySem.W.Frag} {mg : Str → Option Value} {H : Hp} {hid μ : List Addr} {st : Sto} (k : StOk K mg μ st hid H) {w : W} {v : V} {t : String} (h : tyW st w = some t) (r : Rep K mg (Fz μ st hid H) μ w v) : TyX K H v (.type t) := by
  cases w with
  | non => unfold tyW at h; cases h; cases rep_non_inv r; exact .base .non
  | bl b => unfold tyW at h; cases h; cases rep_bl_inv r; exact .base (.bl b)
  | int b => unfold tyW at h; cases h; cases rep_int_inv r; exact .base (.int b)
  | str b => unfold tyW at h; cases h; cases rep_str_inv r; exact .base (.str b)
  | tup ws => unfold tyW at h; cases h; obtain ⟨a, vs, rfl, h1, _⟩ := rep_tup_inv r; exact tup_ty Fz.le h1
  | tpn ws => unfold tyW at h; cases h; obtain ⟨a, vs, rfl, ⟨o, _, h1⟩, _⟩ := rep_tpn_inv r; exact .fTuple (Fz.sub h1).1
  | lst ws => unfold tyW at h; cases h; obtain ⟨a, vs, rfl, h1, _⟩ := rep_lst_inv r; exact .base (.lst (Fz.sub h1).1)
  | dct ks ws =>
    have h' : (if tlK ks = true then none else some "dict") = some t := h
    split at h'
    · cases h'
    · rename_i ht
      cases h'
      unfold Rep at r
      obtain ⟨a, vs, rfl, h1, _⟩ := r
      exact dct_ty (fun _ z => (Fz.sub z).1) h1 ht
  | cell n =>
    unfold tyW at h
    simp only at h
    split at h
    · rename_i ws e
      cases h
      obtain ⟨a, rfl, e2, vs, h1, h2⟩ := k.cell e r
      exact .base (.lst h1)
    · rename_i ks ws e
      by_cases ht : tlK ks = true
      · rw [if_pos ht] at h; cases h
      · rw [if_neg ht] at h
        cases h
        obtain ⟨a, rfl, e2, vs, h1, h2⟩ := k.cell e r
        exact dct_ty (fun _ z => z) h1.rd ht
    · rename_i ws e
      cases h
      obtain ⟨a, rfl, e2, h1⟩ := k.cell e r
      obtain ⟨b, vs, e3, h2, _⟩ := rep_lst_inv h1
      cases e3
      exact .base (.lst (Fz.sub h2).1)
    · rename_i ws e
      cases h
      obtain ⟨a, rfl, e2, h1⟩ := k.cell e r
      obtain ⟨b, vs, e3, h2, _⟩ := rep_tup_inv h1
      cases e3
      exact tup_ty Fz.le h2
    · cases h
  | _ => cases h
/-- is a value of the type a one of b? -/
def subT (a b : String) : Bool := a == b || (a == "bool" && b == "int")
def tyNames : List W → Option (List String)
  | [] => some []
  | .ty n :: r => (tyNames r).map (n :: ·)
  | _ => none
def tyN (n : String) : Bool := n == "int" || n == "bool" || n == "str" || n == "tuple" || n == "list" || n == "dict" || n == "NoneType"
theorem kit_sub {K : PySem.W.Frag} {a b : String} (ha : tyN a = true) (hb : tyN b = true) : PySem.W.kitOne K (.type a) (.type b) = some (subT a b) := by
  simp only [tyN, Bool.or_eq_true, beq_iff_eq] at ha hb
  rcases ha with (((((rfl | rfl) | rfl) | rfl) | rfl) | rfl) | rfl <;> rcases hb with (((((rfl | rfl) | rfl) | rfl) | rfl) | rfl) | rfl <;> exact kit_ty (by decide +kernel)
end
end SL

namespace SL
open PySem PySem.Spec PyProof.Rows L2
section
variable {K : PySem.W.Frag} {mg : Str → Option Value} {μ : List Addr} {st : Sto} {hid : List Addr} {H F : Hp}
theorem reps1 {ws : List W} {w : W} {vs : List V} (r : Reps K mg F μ [w] vs) : ∃ v, vs = [v] ∧ Rep K mg F μ w v := by
  obtain ⟨v, t, rfl, h1, h2⟩ := r.cons_inv
  rw [Reps.nil_iff] at h2; subst h2
  exact ⟨v, rfl, h1⟩
theorem reps2 {w u : W} {vs : List V} (r : Reps K mg F μ [w, u] vs) : ∃ v x, vs = [v, x] ∧ Rep K mg F μ w v ∧ Rep K mg F μ u x := by
  obtain ⟨v, t, rfl, h1, h2⟩ := r.cons_inv
  obtain ⟨x, rfl, h3⟩ := reps1 (ws := []) h2
  exact ⟨v, x, rfl, h1, h3⟩
theorem tyNames_at : ∀ {ws : List W} {ns : List String} {vs : List V}, tyNames ws = some ns → Reps K mg F μ ws vs → vs = ns.map V.ty
  | [], ns, vs, h, r => by unfold tyNames at h; cases h; rw [Reps.nil_iff] at r; subst r; rfl
  | .ty n :: ws, ns, vs, h, r => by
    unfold tyNames at h
    obtain ⟨v, t, rfl, h1, h2⟩ := r.cons_inv
    cases e : tyNames ws with
    | none => rw [e] at h; cases h
    | some ms =>
      rw [e] at h; cases h
      rw [rep_ty_inv h1, tyNames_at e h2]; rfl
  | .non :: _, _, _, h, _ | .bl _ :: _, _, _, h, _ | .int _ :: _, _, _, h, _ | .str _ :: _, _, _, h, _ | .tup _ :: _, _, _, h, _ | .lst _ :: _, _, _, h, _ | .dct _ _ :: _, _, _, h, _ | .ins _ _ _ :: _, _, _, h, _ | .cell _ :: _, _, _, h, _ | .ro _ :: _, _, _, h, _ | .tpn _ :: _, _, _, h, _ | .cls _ :: _, _, _, h, _ => by unfold tyNames at h; cases h
theorem kitAny_names {a : String} (ha : tyN a = true) : ∀ ns : List String, ns.all tyN = true → PySem.W.kitAny K (.type a) (ns.map Value.type) = some (ns.any (subT a))
  | [], _ => rfl
  | n :: ns, h => by
    rw [List.all_cons, Bool.and_eq_true] at h
    refine kitAny_cons (kit_sub ha h.1) (fun e => ?_) fun e => ?_
    · rw [kitAny_names ha ns h.2, List.any_cons, e]; rfl
    · rw [List.any_cons, e]; rfl
end
section
variable {X : Cx}
/-- isinstance(x, T), isinstance(x, (T1, ..)) of built-in types -/
def oIsi : OpN := fun ws st => match ws with
  | [x, .ty n] => match tyW st x with
    | some t => if tyN t && tyN n then .ok (.bl (subT t n)) st else .bad
    | none => .bad
  | [x, .tup cs] => match tyW st x, tyNames cs with
    | some t, some ns => if tyN t && ns.all tyN then .ok (.bl (ns.any (subT t))) st else .bad
    | _, _ => .bad
  | _ => .bad
def rIsiAll (K : PySem.W.Frag) : List V → Hp → VK → Prop := fun vs H Q => rIsi K vs H Q ∨ rIsiT K vs H Q ∨ rIsiK K vs H Q
theorem cr_isi : CallR X (.builtin "isinstance") (rIsiAll X.K) := call_isi.or (call_isiT.or call_isiK)
theorem paired_ty : ∀ ns : List String, Paired ClsV (ns.map V.ty) (ns.map Value.type)
  | [] => .nil
  | n :: ns => .cons (.ty n) (paired_ty ns)
theorem os_isi : OpNS X oIsi (rIsiAll X.K) := by
  intro Wx hid μ st σ H Q ws vs k r P
  unfold oIsi at P
  split at P
  · rename_i x n
    obtain ⟨v, c, rfl, r1, r2⟩ := reps2 r
    split at P
    · rename_i t e
      split at P
      · rename_i ht
        rw [Bool.and_eq_true] at ht
        rw [rep_ty_inv r2]
        exact .inl ⟨v, .ty n, .type t, .type n, _, rfl, .ty n, tyW_at k e r1, kit_sub ht.1 ht.2, P μ H _ k .refl rep_bl⟩
      · exact P.elim
    · exact P.elim
  · rename_i x cs
    obtain ⟨v, c, rfl, r1, r2⟩ := reps2 r
    split at P
    · rename_i t ns e1 e2
      split at P
      · rename_i ht
        rw [Bool.and_eq_true] at ht
        obtain ⟨a, us, rfl, h1, h2⟩ := rep_tup_inv r2
        have e3 := tyNames_at e2 h2
        subst e3
        exact .inr (.inl ⟨v, a, _, .type t, _, _, rfl, (Fz.sub h1).1, paired_ty ns, tyW_at k e1 r1, kitAny_names ht.1 ns ht.2, P μ H _ k .refl rep_bl⟩)
      · exact P.elim
    · exact P.elim
  · exact P.elim
theorem ev_ty {n : String} {x : Str} {pos : Pos} {Wx : Wish} (hm : X.mg x = none) (hv : bootBuiltins x = some (.type n) := by decide +kernel) (hg : Gl X x := by rfl) (hn : x ≠ "__name__" := by decide) (hd : (x == ("__debug__" : Str)) = false := by decide) : EV X Wx (.Name x pos) (eC (.ty n)) :=
  ev_c (v := .ty n) (pe_bltn hg hm hv rfl hn hd) fun F μ => by unfold Rep; rfl

/-! ## len, list, tuple, int -/
def oLen : OpN := fun ws st => match ws with
  | [.str z] => if z.length ≤ LINE then .ok (.int z.length) st else .bad
  | [x] => match seqW st x with
    | some us => .ok (.int us.length) st
    | none => .bad
  | _ => .bad
def rLenAll (K : PySem.W.Frag) : List V → Hp → VK → Prop := fun vs H Q => ∃ x n, vs = [x] ∧ LenV K x H n ∧ Q (.int n) H
theorem cr_len : CallR X (.builtin "len") (rLenAll X.K) := call_len
theorem os_len : OpNS X oLen (rLenAll X.K) := by
  intro Wx hid μ st σ H Q ws vs k r P
  unfold oLen at P
  split at P
  · obtain ⟨v, rfl, r1⟩ := reps1 (ws := []) r
    cases rep_str_inv r1
    split at P
    · rename_i hz
      exact ⟨_, _, rfl, ⟨le_line hz, rfl⟩, P μ H _ k .refl rep_int⟩
    · exact P.elim
  · obtain ⟨v, rfl, r1⟩ := reps1 (ws := []) r
    split at P
    · rename_i us e
      obtain ⟨a, xs, rfl, h1, h2⟩ := seqW_at k e r1
      refine ⟨_, xs.length, rfl, ?_, ?_⟩
      · rcases h1 with h1 | h1
        · exact .inl ⟨xs, h1, rfl⟩
        · exact .inr ⟨xs, h1, rfl⟩
      · rw [← h2.length]
        exact P μ H _ k .refl rep_int
    · exact P.elim
  · exact P.elim
def oList : OpN := fun ws st => match ws with
  | [x] => match seqW st x with
    | some us => .ok (.lst us) st
    | none => .bad
  | _ => .bad
theorem os_list : OpNS X oList (fun xs H Q => ∃ p ys, xs = [.ref p] ∧ (SqL X.K H p ys ∨ SqT X.K H p ys) ∧ ∀ l, H l = none → Q (.ref l) (upd H l (.lst ys))) := by
  intro Wx hid μ st σ H Q ws vs k r P
  unfold oList at P
  split at P
  · obtain ⟨v, rfl, r1⟩ := reps1 (ws := []) r
    split at P
    · rename_i us e
      obtain ⟨a, xs, rfl, h1, h2⟩ := seqW_at k e r1
      exact ⟨a, xs, rfl, h1, fun l hl => ok_new P k hl fun F le e => rep_lst e (h2.mono le (.refl _))⟩
    · exact P.elim
  · exact P.elim
def oTuple : OpN := fun ws st => match ws with
  | [x] => match lstW st x with
    | some us => .ok (.tup us) st
    | none => match tupW st x with
      | some _ => .ok x st
      | none => .bad
  | _ => .bad
theorem os_tuple : OpNS X oTuple (fun xs H Q => ∃ a ys, xs = [.ref a] ∧ ((SqL X.K H a ys ∧ ∀ l, H l = none → Q (.ref l) (upd H l (.tup ys))) ∨ (SqT X.K H a ys ∧ Q (.ref a) H))) := by
  intro Wx hid μ st σ H Q ws vs k r P
  unfold oTuple at P
  split at P
  · obtain ⟨v, rfl, r1⟩ := reps1 (ws := []) r
    split at P
    · rename_i us e'
      obtain ⟨a, xs, rfl, h1, h2⟩ := lstW_at k e' r1
      exact ⟨a, xs, rfl, .inl ⟨h1, fun l hl => ok_new P k hl fun F le e => rep_tup e (h2.mono le (.refl _))⟩⟩
    · split at P
      · rename_i us e
        obtain ⟨a, xs, rfl, h1, h2⟩ := tupW_at k e r1
        exact ⟨a, xs, rfl, .inr ⟨h1, P μ H _ k .refl r1⟩⟩
      · exact P.elim
  · exact P.elim
def oInt : OpN := fun ws st => match ws with
  | [.int i] => .ok (.int i) st
  | [.bl b] => .ok (.int (if b then 1 else 0)) st
  | _ => .bad
theorem os_int : OpNS X oInt (fun xs H Q => (∃ i, xs = [.int i] ∧ Q (.int i) H) ∨ ∃ k, xs = [.bl k] ∧ Q (.int (if k then 1 else 0)) H) := by
  intro Wx hid μ st σ H Q ws vs k r P
  unfold oInt at P
  split at P
  · obtain ⟨v, rfl, r1⟩ := reps1 (ws := []) r
    cases rep_int_inv r1
    exact .inl ⟨_, rfl, P μ H _ k .refl rep_int⟩
  · obtain ⟨v, rfl, r1⟩ := reps1 (ws := []) r
    cases rep_bl_inv r1
    exact .inr ⟨_, rfl, P μ H _ k .refl rep_int⟩
  · exact P.elim

/-! ## lists of bools, of ints -/
def blsW : List W → Option (List Bool)
  | [] => some []
  | .bl b :: r => (blsW r).map (b :: ·)
  | _ => none
def intsW : List W → Option (List Int)
  | [] => some []
  | .int b :: r => (intsW r).map (b :: ·)
  | _ => none
theorem blsW_at {K : PySem.W.Frag} {mg : Str → Option Value} {F : Hp} {μ : List Addr} : ∀ {ws : List W} {bs : List Bool} {vs : List V}, blsW ws = some bs → Reps K mg F μ ws vs → vs = bs.map V.bl
  | [], bs, vs, h, r => by unfold blsW at h; cases h; rw [Reps.nil_iff] at r; subst r; rfl
  | .bl b :: ws, bs, vs, h, r => by
    unfold blsW at h
    obtain ⟨v, t, rfl, h1, h2⟩ := r.cons_inv
    cases e : blsW ws with
    | none => rw [e] at h; cases h
    | some ms => rw [e] at h; cases h; rw [rep_bl_inv h1, blsW_at e h2]; rfl
  | .non :: _, _, _, h, _ | .ty _ :: _, _, _, h, _ | .int _ :: _, _, _, h, _ | .str _ :: _, _, _, h, _ | .tup _ :: _, _, _, h, _ | .lst _ :: _, _, _, h, _ | .dct _ _ :: _, _, _, h, _ | .ins _ _ _ :: _, _, _, h, _ | .cell _ :: _, _, _, h, _ | .ro _ :: _, _, _, h, _ | .tpn _ :: _, _, _, h, _ | .cls _ :: _, _, _, h, _ => by unfold blsW at h; cases h
/-- f of a list of bools -/
def oBls (f : List Bool → Bool) : OpN := fun ws st => match ws with
  | [x] => match (lstW st x).bind blsW with
    | some bs => .ok (.bl (f bs)) st
    | none => .bad
  | _ => .bad
theorem bls_of {hid μ : List Addr} {st : Sto} {H : Hp} (k : StOk X.K X.mg μ st hid H) {x : W} {bs : List Bool} {v : V} (h : (lstW st x).bind blsW = some bs) (r : Rep X.K X.mg (Fz μ st hid H) μ x v) : ∃ a, v = .ref a ∧ SqL X.K H a (bs.map V.bl) := by
  cases e : lstW st x with
  | none => rw [e] at h; cases h
  | some us =>
    rw [e] at h
    obtain ⟨a, xs, rfl, h1, h2⟩ := lstW_at k e r
    rw [blsW_at h h2] at h1
    exact ⟨a, rfl, h1⟩
def oAll : OpN := oBls fun bs => bs.all id
theorem os_all : OpNS X oAll (rAll X.K) := by
  intro Wx hid μ st σ H Q ws vs k r P
  unfold oAll oBls at P
  split at P
  · obtain ⟨v, rfl, r1⟩ := reps1 (ws := []) r
    split at P
    · rename_i bs e
      obtain ⟨a, rfl, h1⟩ := bls_of k e r1
      exact ⟨a, bs, rfl, h1, P μ H _ k .refl rep_bl⟩
    · exact P.elim
  · exact P.elim
/-! ## an item -/
theorem atI_rep {K : PySem.W.Frag} {mg : Str → Option Value} {F : Hp} {μ : List Addr} {ws : List W} {vs : List V} {i : Int} {w : W} (r : Reps K mg F μ ws vs) (h : atI ws i = some w) : ∃ v, atI vs i = some v ∧ Rep K mg F μ w v := by
  unfold atI at h ⊢
  rw [← r.length]
  cases e : ixN ws.length i with
  | none => rw [e] at h; cases h
  | some j =>
    rw [e] at h
    exact r.get h
def oIx : Op2 := fun x y st => match y with
  | .int i => match x with
    | .str z => if z.length ≤ LINE then (match atI z.cps.toList i with
      | some c => .ok (.str ⟨#[c]⟩) st
      | none => .bad) else .bad
    | _ => match (seqW st x).bind fun ws => atI ws i with
      | some w => .ok w st
      | none => .bad
  | _ => .bad
theorem os_ix : Op2S X oIx (rIx X.K) := by
  intro Wx hid μ st σ H Q w u x y k rx ry P
  unfold oIx at P
  split at P
  · rename_i i
    cases rep_int_inv ry
    split at P
    · rename_i z
      cases rep_str_inv rx
      split at P
      · rename_i hz
        split at P
        · rename_i c e
          exact .inr (.inr ⟨z, i, c, rfl, rfl, le_line hz, e, P μ H _ k .refl rep_str⟩)
        · exact P.elim
      · exact P.elim
    · split at P
      · rename_i w' e
        cases e2 : seqW st w with
        | none => rw [e2] at e; cases e
        | some ws =>
          rw [e2] at e
          obtain ⟨a, vs, rfl, h1, h2⟩ := seqW_at k e2 rx
          obtain ⟨v, h3, h4⟩ := atI_rep h2 e
          rcases h1 with h1 | h1
          · exact .inl ⟨a, vs, i, v, rfl, rfl, h1, h3, P μ H _ k .refl h4⟩
          · exact .inr (.inl ⟨a, vs, i, v, rfl, rfl, h1, h3, P μ H _ k .refl h4⟩)
      · exact P.elim
  · exact P.elim

/-! ## slices -/
def cutW (ws : List W) (lo hi : Option Int) : List W := (ws.drop (HT.sIx ws.length 0 lo)).take (HT.sIx ws.length ws.length hi - HT.sIx ws.length 0 lo)
theorem cutW_rep {K : PySem.W.Frag} {mg : Str → Option Value} {F : Hp} {μ : List Addr} {ws : List W} {vs : List V} (lo hi : Option Int) (r : Reps K mg F μ ws vs) : Reps K mg F μ (cutW ws lo hi) (cutV vs lo hi) := by
  unfold cutW cutV
  rw [← r.length]
  exact (r.drop _).take _
abbrev SemO := Fr → Sto → Out (Option Int)
def pNo : SemO := fun _ st => .ok none st
def pYes (f : Sem) : SemO := fun fr st => (f fr st).bind fun w st1 => match w with
  | .int i => .ok (some i) st1
  | _ => .bad
def OPost (K : PySem.W.Frag) (mg : Str → Option Value) (Wx : WX) (hid μ : List Addr) (st : Sto) (σ : L2.St) (H : Hp) (Q : Option Int → Hp → Prop) : Out (Option Int) → Prop
  | .ok b st' => ∀ μ' H', StOk K mg μ' st' hid H' → Grow hid μ st H μ' st' H' → Q b H'
  | .err x st' => ∀ μ' H' c d, StOk K mg μ' st' hid H' → Grow hid μ st H μ' st' H' → XRep K mg (Fz μ' st' hid H') μ' x c d → Wx c d σ H'
  | .bad => False
def tO (K : PySem.W.Frag) (mg : Str → Option Value) (Wx : Wish) (f : SemO) : TO := fun σ H Q => ∃ μ st hid fr, SI K mg Wx μ st hid fr σ H ∧ OPost K mg Wx.w hid μ st σ H Q (f fr st)
abbrev OV (X : Cx) (Wx : Wish) (e : Option Expr) (f : SemO) : Prop := PO X e (tO X.K X.mg Wx f)
theorem POm {e : Option Expr} {t t' : TO} (h : PO X e t) (i : ∀ σ H Q, t' σ H Q → t σ H Q) : PO X e t' := ⟨fun pins s σ H Q I q => h.run pins s σ H Q I (i σ H Q q)⟩
variable {Wx : Wish}
theorem ov_no : OV X Wx none pNo := POm po_none fun σ H Q ⟨μ, st, hid, fr, S, P⟩ => P μ H S.sto .refl
theorem ov_yes {e : Expr} {f : Sem} (h : EV X Wx e f) : OV X Wx (some e) (pYes f) := POm (po_some h) fun σ H Q ⟨μ, st, hid, fr, S, P⟩ => by
  refine ⟨μ, st, hid, fr, S, ?_⟩
  unfold pYes at P
  cases h : f fr st with
  | bad => rw [h] at P; exact P
  | err x s => rw [h] at P; exact P
  | ok w st1 =>
    rw [h, Out.bind_ok] at P
    intro μ1 H1 v k1 g1 r1
    cases w with
    | int i => exact ⟨i, rep_int_inv r1, P μ1 H1 k1 g1⟩
    | _ => exact P.elim
def oSl (x : W) (lo hi : Option Int) (st : Sto) : Out W := match x with
  | .str z => if z.length ≤ LINE then .ok (.str (cutS z lo hi)) st else .bad
  | _ => match lstW st x with
    | some ws => .ok (.lst (cutW ws lo hi)) st
    | none => match trkW st x with
      | some ws => .ok (.tup (cutW ws lo hi)) st
      | none => .bad
def eSl (f : Sem) (l h : SemO) : Sem := fun fr st => (f fr st).bind fun x st1 => (l fr st1).bind fun lo st2 => (h fr st2).bind fun hi st3 => oSl x lo hi st3
def rSlAll (K : PySem.W.Frag) : V → Option Int → Option Int → Hp → VK → Prop := fun x lo hi H Q => rSlS x lo hi H Q ∨ rSlL K x lo hi H Q ∨ rSlA K x lo hi H Q
theorem sr_all : SlR X (rSlAll X.K) := sl_str.or (sl_list.or sl_tupA)
theorem cutW_whole {ws : List W} {lo hi : Option Int} (h : HT.sIx ws.length 0 lo = 0 ∧ HT.sIx ws.length ws.length hi = ws.length) : cutW ws lo hi = ws := by
  unfold cutW
  rw [h.1, h.2]
  simp
theorem os_sl {Wx : WX} {hid μ : List Addr} {st : Sto} {σ : L2.St} {H : Hp} {Q : VK} {w : W} {x : V} {lo hi : Option Int} (k : StOk X.K X.mg μ st hid H) (rx : Rep X.K X.mg (Fz μ st hid H) μ w x)
    (P : EPost X.K X.mg Wx hid μ st σ H Q (oSl w lo hi st)) : rSlAll X.K x lo hi H Q := by
  unfold oSl at P
  split at P
  · split at P
    · rename_i hz
      cases rep_str_inv rx
      exact .inl ⟨_, rfl, le_line hz, P μ H _ k .refl rep_str⟩
    · exact P.elim
  · split at P
    · rename_i ws e
      obtain ⟨a, xs, rfl, h1, h2⟩ := lstW_at k e rx
      exact .inr (.inl ⟨a, xs, rfl, h1, fun p hp => ok_new P k hp fun F l e => rep_lst e ((cutW_rep lo hi h2).mono l (.refl _))⟩)
    · split at P
      · rename_i ws e
        obtain ⟨a, xs, rfl, h1, h2⟩ := trkW_at k e rx
        refine .inr (.inr ⟨a, xs, rfl, h1.fz, fun hw => ?_, fun _ p hp => ok_new P k hp fun F l e => rep_tup e ((cutW_rep lo hi h2).mono l (.refl _))⟩)
        rw [← h2.length] at hw
        rw [cutW_whole hw] at P
        refine P μ H _ k .refl ?_
        unfold Rep
        exact ⟨a, xs, rfl, h1, h2⟩
      · exact P.elim
theorem ev_sl {e : Expr} {l h : Option Expr} {f : Sem} {fl fh : SemO} {p2 pos : Pos} (he : EV X Wx e f) (hl : OV X Wx l fl) (hh : OV X Wx h fh) : EV X Wx (.Subscript e (.Slice l h none p2) pos) (eSl f fl fh) := PEm (pe_slice sr_all he hl hh) fun σ H Q ⟨μ, st, hid, fr, S, P⟩ => by
  refine ⟨μ, st, hid, fr, S, ?_⟩
  unfold eSl at P
  cases h1 : f fr st with
  | bad => rw [h1] at P; exact P
  | err x s => rw [h1] at P; exact P
  | ok x st1 =>
    rw [h1, Out.bind_ok] at P
    intro μ1 H1 vx k1 g1 r1
    refine ⟨μ1, st1, hid, fr, S.next k1 g1, ?_⟩
    have P1 := EPost.from g1 P
    cases h2 : fl fr st1 with
    | bad => rw [h2] at P1; exact P1
    | err x s => rw [h2] at P1; exact P1
    | ok lo st2 =>
      rw [h2, Out.bind_ok] at P1
      intro μ2 H2 k2 g2
      refine ⟨μ2, st2, hid, fr, (S.next k1 g1).next k2 g2, ?_⟩
      have P2 := EPost.from g2 P1
      cases h3 : fh fr st2 with
      | bad => rw [h3] at P2; exact P2
      | err x s => rw [h3] at P2; exact P2
      | ok hi st3 =>
        rw [h3, Out.bind_ok] at P2
        intro μ3 H3 k3 g3
        exact os_sl k3 (Rep.mono (g2.trans g3).le (g2.trans g3).pre _ _ r1) (EPost.from g3 P2)
end
end SL

namespace SL
open PySem PySem.Spec PyProof.Rows L2

/-! ## targets -/
abbrev TgF := W → Fr → Sto → Option Fr
abbrev TgsF := List W → Fr → Sto → Option Fr
def gNm (i : Nat) : TgF := fun w fr _ => some (fr.set i (some w))
def gsNil : TgsF := fun ws fr _ => match ws with
  | [] => some fr
  | _ => none
def gsCons (g : TgF) (r : TgsF) : TgsF := fun ws fr st => match ws with
  | w :: us => (g w fr st).bind fun fr1 => r us fr1 st
  | [] => none
/-- all but the slots at sl is as it was -/
def Agree (sl : List Nat) (σ σ' : L2.St) : Prop := σ'.length = σ.length ∧ ∀ j, j ∉ sl → σ'[j]? = σ[j]?
theorem Agree.refl (sl : List Nat) (σ : L2.St) : Agree sl σ σ := ⟨rfl, fun _ _ => rfl⟩
theorem Agree.trans {sl sl' : List Nat} {σ σ' σ'' : L2.St} (a : Agree sl σ σ') (b : Agree sl' σ' σ'') : Agree (sl ++ sl') σ σ'' :=
  ⟨b.1.trans a.1, fun j h => (b.2 j fun z => h (List.mem_append_right _ z)).trans (a.2 j fun z => h (List.mem_append_left _ z))⟩
section
variable {X : Cx} {Wx : Wish}
def tG (K : PySem.W.Frag) (mg : Str → Option Value) (Wx : Wish) (g : TgF) (sl : List Nat) : TG := fun v σ H Q => ∃ μ st hid fr w fr', SI K mg Wx μ st hid fr σ H ∧ Rep K mg (Fz μ st hid H) μ w v ∧ g w fr st = some fr' ∧ ∀ σ', SI K mg Wx μ st hid fr' σ' H → Agree sl σ σ' → Q σ' H
def tGs (K : PySem.W.Frag) (mg : Str → Option Value) (Wx : Wish) (g : TgsF) (sl : List Nat) : TGs := fun vs σ H Q => ∃ μ st hid fr ws fr', SI K mg Wx μ st hid fr σ H ∧ Reps K mg (Fz μ st hid H) μ ws vs ∧ g ws fr st = some fr' ∧ ∀ σ', SI K mg Wx μ st hid fr' σ' H → Agree sl σ σ' → Q σ' H
abbrev GV (X : Cx) (Wx : Wish) (e : Expr) (g : TgF) (sl : List Nat) : Prop := PG X e (tG X.K X.mg Wx g sl)
abbrev GsV (X : Cx) (Wx : Wish) (es : List Expr) (g : TgsF) (sl : List Nat) : Prop := PGs X es (tGs X.K X.mg Wx g sl)
theorem PGm {e : Expr} {t t' : TG} (h : PG X e t) (i : ∀ v σ H Q, t' v σ H Q → t v σ H Q) : PG X e t' := ⟨fun pins s σ H v u Q I r q => h.run pins s σ H v u Q I r (i v σ H Q q)⟩
theorem PGsm {e : List Expr} {t t' : TGs} (h : PGs X e t) (i : ∀ v σ H Q, t' v σ H Q → t v σ H Q) : PGs X e t' := ⟨fun pins s σ H v u Q I r q => h.run pins s σ H v u Q I r (i v σ H Q q)⟩
theorem gv_nm {i : Nat} {x : Str} {pos : Pos} (hN : X.N.Nodup) (hi : X.N[i]? = some x := by rfl) (hx : Loc X.env.scope x := by first | exact Or.inl rfl | exact Or.inr rfl) (hf : X.fn x = true ∨ X.env.scope.names.lookup x = some .local := by first | exact .inl rfl | exact .inr rfl) (hk : i ∉ Wx.lock := by first | exact List.not_mem_nil | decide) : GV X Wx (.Name x pos) (gNm i) [i] :=
  PGm (pg_name hN hi hx hf) fun v σ H Q ⟨μ, st, hid, fr, w, fr', S, r, e, q⟩ => by
    unfold gNm at e
    cases e
    exact q _ (S.set i hk r) ⟨by simp, fun j h => by rw [List.getElem?_set_ne]; simp at h; exact fun z => h z.symm⟩
theorem gvs_nil : GsV X Wx [] gsNil [] := PGsm pgs_nil fun vs σ H Q ⟨μ, st, hid, fr, ws, fr', S, r, e, q⟩ => by
  unfold gsNil at e
  split at e
  · cases e
    rw [Reps.nil_iff] at r
    exact ⟨r, q _ S (.refl _ _)⟩
  · cases e
theorem gvs_cons {e : Expr} {es : List Expr} {g : TgF} {r : TgsF} {sl sl' : List Nat} (h1 : GV X Wx e g sl) (h2 : GsV X Wx es r sl') (hs : (assignEach (e :: es) X.env).map (·.2) = assign e X.env :: (assignEach es X.env).map (·.2) := by rfl) : GsV X Wx (e :: es) (gsCons g r) (sl ++ sl') :=
  PGsm (pgs_cons h1 h2 hs) fun vs σ H Q ⟨μ, st, hid, fr, ws, fr', S, rr, e, q⟩ => by
    unfold gsCons at e
    split at e
    · rename_i w us
      obtain ⟨v, vr, rfl, r1, r2⟩ := rr.cons_inv
      cases e1 : g w fr st with
      | none => rw [e1] at e; cases e
      | some fr1 =>
        rw [e1] at e
        exact ⟨v, vr, rfl, μ, st, hid, fr, w, fr1, S, r1, e1, fun σ1 S1 a1 => ⟨μ, st, hid, fr1, us, fr', S1, r2, e, fun σ2 S2 a2 => q σ2 S2 (a1.trans a2)⟩⟩
    · cases e
end

/-! ## what is walked -/
abbrev SemI := Fr → Sto → Out (W × List W)
def numbered (ws : List W) : List W := ws.mapIdx fun i w => .tup [.int (i : Nat), w]
/-- the walked thing holds what it held; .int k stands for the list in cell k, numbered -/
def srcOk (x : W) (ws : List W) (st : Sto) : Prop := match x with
  | .cell _ => lstW st x = some ws
  | .int k => ∃ us, lstW st (.cell k.toNat) = some us ∧ ws = numbered us
  | _ => True
/-- the iterator J gives the items ws; F, μ0: where it began -/
structure ItOk (K : PySem.W.Frag) (mg : Str → Option Value) (J : It) (x : W) (ws : List W) (F : Hp) (μ0 : List Addr) (L : Hp) : Prop where
  len : ws.length ≤ sizeLine
  go : ∀ hid μ st H i, StOk K mg μ st hid H → Le F (Fz μ st hid H) → Pre μ0 μ → Lk L H → srcOk x ws st → i < ws.length → J.go i H
  yld : ∀ hid μ st H i v H', StOk K mg μ st hid H → Le F (Fz μ st hid H) → Pre μ0 μ → Lk L H → srcOk x ws st → i < ws.length → J.yld i H v H' →
    StOk K mg μ st hid H' ∧ Grow hid μ st H μ st H' ∧ ∃ w, ws[i]? = some w ∧ Rep K mg (Fz μ st hid H') μ w v
  stop : ∀ hid μ st H i, StOk K mg μ st hid H → Le F (Fz μ st hid H) → Pre μ0 μ → Lk L H → srcOk x ws st → ws.length ≤ i → J.stop i H
def IPost (K : PySem.W.Frag) (mg : Str → Option Value) (Wx : WX) (hid μ : List Addr) (st : Sto) (σ : L2.St) (H : Hp) (R : It → Hp → Prop) : Out (W × List W) → Prop
  | .ok (x, ws) st' => ∀ μ' H' J, StOk K mg μ' st' hid H' → Grow hid μ st H μ' st' H' → ItOk K mg J x ws (Fz μ' st' hid H') μ' H' → R J H'
  | .err x st' => ∀ μ' H' c d, StOk K mg μ' st' hid H' → Grow hid μ st H μ' st' H' → XRep K mg (Fz μ' st' hid H') μ' x c d → Wx c d σ H'
  | .bad => False
def tI (K : PySem.W.Frag) (mg : Str → Option Value) (Wx : Wish) (f : SemI) : TI := fun σ H R => ∃ μ st hid fr, SI K mg Wx μ st hid fr σ H ∧ IPost K mg Wx.w hid μ st σ H R (f fr st)
abbrev IV (X : Cx) (Wx : Wish) (tg e : Expr) (f : SemI) : Prop := PI X tg e (tI X.K X.mg Wx f)
theorem PIm {X : Cx} {tg e : Expr} {t t' : TI} (h : PI X tg e t) (i : ∀ σ H R, t' σ H R → t σ H R) : PI X tg e t' := ⟨fun pins s σ H R I q => h.run pins s σ H R I (i σ H R q)⟩
theorem IPost.from {K : PySem.W.Frag} {mg : Str → Option Value} {Wx : WX} {hid μ μ' : List Addr} {st st' : Sto} {σ : L2.St} {H H' : Hp} {R : It → Hp → Prop} {o : Out (W × List W)} (x : Grow hid μ st H μ' st' H') (h : IPost K mg Wx hid μ st σ H R o) : IPost K mg Wx hid μ' st' σ H' R o := by
  cases o with
  | ok w s => exact fun μ2 H2 v a b c => h μ2 H2 v a (x.trans b) c
  | err e s => exact fun μ2 H2 c d a b r => h μ2 H2 c d a (x.trans b) r
  | bad => exact h
section
variable {X : Cx} {Wx : Wish} {tg : Expr}
/-- a list or a tuple, walked -/
def iSeqT (K : PySem.W.Frag) (tl : TE) : TI := fun σ H R => tl σ H fun x H1 => ∃ a xs, x = .ref a ∧ ((SqL K H1 a xs ∧ (xs.length ≤ sizeLine → R (Itl K a) H1)) ∨ (SqT K H1 a xs ∧ (xs.length ≤ sizeLine → R (Itt K a) H1)))
theorem pi_seqT {l : Expr} {tl : TE} (hl : PE X l tl) : PI X tg l (iSeqT X.K tl) := by
  refine ⟨fun pins s σ H R I hh => thn (hl.run pins s σ H _ I hh) fun u s' ⟨y, HH, J1, ry, a, zs, ey, qq⟩ => ?_⟩
  subst ey
  cases ry
  rcases qq with ⟨hq, qq⟩ | ⟨hq, qq⟩
  · obtain ⟨us, ru, pp, hle⟩ := J1.list hq
    refine wpAny_pyIter_list pp.isList ⟨_, [s'.heap.objs.size], _, _, HH, rfl, J1.kept (t' := s'.toks) fun c oo ee => Heap.get?_push_of_some _ ee, turn_list a _, ⟨_, Heap.get?_push_size _ rfl, rfl, rfl⟩, fun c hc => ?_, qq hle⟩
    cases (List.mem_singleton.mp hc)
    exact J1.fpOk (Nat.le_refl _) (J1.hok.fresh (Nat.le_refl _))
  · obtain ⟨us, ru, pp, hle⟩ := J1.tuple hq
    refine wpAny_pyIter_tuple (show s'.heap.IsTuple a us.toArray from pp) ⟨_, [s'.heap.objs.size], _, _, HH, rfl, J1.kept (t' := s'.toks) fun c oo ee => Heap.get?_push_of_some _ ee, turn_tuple a _, ⟨_, Heap.get?_push_size _ rfl, rfl, rfl⟩, fun c hc => ?_, qq hle⟩
    cases (List.mem_singleton.mp hc)
    exact J1.fpOk (Nat.le_refl _) (J1.hok.fresh (Nat.le_refl _))
def itW (st : Sto) (x : W) : Option (List W) := match x with
  | .cell _ => lstW st x
  | _ => seqW st x
def iSeq (f : Sem) : SemI := fun fr st => (f fr st).bind fun x st1 => match itW st1 x with
  | some ws => .ok (x, ws) st1
  | none => .bad
/-- a list in the air -/
theorem itOk_list {K : PySem.W.Frag} {mg : Str → Option Value} {x : W} {ws : List W} {F L : Hp} {μ0 : List Addr} {a : Addr} (hl : ws.length ≤ sizeLine)
    (now : ∀ hid μ st H, StOk K mg μ st hid H → Le F (Fz μ st hid H) → Pre μ0 μ → srcOk x ws st → ∃ vs, SqL K H a vs ∧ Reps K mg (Fz μ st hid H) μ ws vs) : ItOk K mg (Itl K a) x ws F μ0 L where
  len := hl
  go := fun hid μ st H i k l p _ s hi => by
    obtain ⟨vs, h1, h2⟩ := now hid μ st H k l p s
    exact ⟨vs, vs[i]'(by rw [← h2.length]; exact hi), h1, by simp⟩
  yld := fun hid μ st H i v H' k l p _ s hi y => by
    obtain ⟨vs, h1, h2⟩ := now hid μ st H k l p s
    obtain ⟨rfl, y⟩ := y
    exact ⟨k, .refl, h2.get' (y vs h1)⟩
  stop := fun hid μ st H i k l p _ s hi => by
    obtain ⟨vs, h1, h2⟩ := now hid μ st H k l p s
    exact ⟨vs, h1, by rw [← h2.length]; exact hi⟩
theorem itOk_tup {K : PySem.W.Frag} {mg : Str → Option Value} {x : W} {ws : List W} {F L : Hp} {μ0 : List Addr} {a : Addr} (hl : ws.length ≤ sizeLine)
    (now : ∀ hid μ st H, StOk K mg μ st hid H → Le F (Fz μ st hid H) → Pre μ0 μ → srcOk x ws st → ∃ vs, SqT K H a vs ∧ Reps K mg (Fz μ st hid H) μ ws vs) : ItOk K mg (Itt K a) x ws F μ0 L where
  len := hl
  go := fun hid μ st H i k l p _ s hi => by
    obtain ⟨vs, h1, h2⟩ := now hid μ st H k l p s
    exact ⟨vs, vs[i]'(by rw [← h2.length]; exact hi), h1, by simp⟩
  yld := fun hid μ st H i v H' k l p _ s hi y => by
    obtain ⟨vs, h1, h2⟩ := now hid μ st H k l p s
    obtain ⟨rfl, y⟩ := y
    exact ⟨k, .refl, h2.get' (y vs h1)⟩
  stop := fun hid μ st H i k l p _ s hi => by
    obtain ⟨vs, h1, h2⟩ := now hid μ st H k l p s
    exact ⟨vs, h1, by rw [← h2.length]; exact hi⟩
/-- a list or tuple value: how it stands later -/
theorem seq_now {K : PySem.W.Frag} {mg : Str → Option Value} {hid0 μ0 : List Addr} {st0 : Sto} {H0 : Hp} {x : W} {ws : List W} {v : V} (k0 : StOk K mg μ0 st0 hid0 H0) (h : itW st0 x = some ws) (r : Rep K mg (Fz μ0 st0 hid0 H0) μ0 x v) :
    ∃ a vs0, v = .ref a ∧ vs0.length = ws.length ∧ ((SqL K H0 a vs0 ∧ ∀ hid μ st H, StOk K mg μ st hid H → Le (Fz μ0 st0 hid0 H0) (Fz μ st hid H) → Pre μ0 μ → srcOk x ws st → ∃ vs, SqL K H a vs ∧ Reps K mg (Fz μ st hid H) μ ws vs) ∨
      (SqT K H0 a vs0 ∧ ∀ hid μ st H, StOk K mg μ st hid H → Le (Fz μ0 st0 hid0 H0) (Fz μ st hid H) → Pre μ0 μ → srcOk x ws st → ∃ vs, SqT K H a vs ∧ Reps K mg (Fz μ st hid H) μ ws vs)) := by
  cases x with
  | lst us =>
    have e : us = ws := by unfold itW seqW lstW at h; exact Option.some.inj h
    subst e
    obtain ⟨a, vs, rfl, h1, h2⟩ := rep_lst_inv r
    exact ⟨a, vs, rfl, h2.length.symm, .inl ⟨SqL.fz h1, fun hid μ st H k l p _ => ⟨vs, SqL.fz (l.lst h1), h2.mono l p⟩⟩⟩
  | ro us =>
    have e : us = ws := by unfold itW seqW lstW at h; exact Option.some.inj h
    subst e
    obtain ⟨a, vs, rfl, h1, h2⟩ := rep_ro_inv r
    exact ⟨a, vs, rfl, h2.length.symm, .inl ⟨SqL.fz' h1, fun hid μ st H k l p _ => ⟨vs, SqL.fz' (SqL.le l h1), h2.mono l p⟩⟩⟩
  | tup us =>
    have e : us = ws := by unfold itW seqW lstW at h; exact Option.some.inj h
    subst e
    obtain ⟨a, vs, rfl, h1, h2⟩ := rep_tup_inv r
    exact ⟨a, vs, rfl, h2.length.symm, .inr ⟨h1.fz, fun hid μ st H k l p _ => ⟨vs, (h1.le l).fz, h2.mono l p⟩⟩⟩
  | tpn us =>
    have e : us = ws := by unfold itW seqW lstW at h; exact Option.some.inj h
    subst e
    obtain ⟨a, vs, rfl, h1, h2⟩ := rep_tpn_inv r
    exact ⟨a, vs, rfl, h2.length.symm, .inr ⟨h1.fz, fun hid μ st H k l p _ => ⟨vs, (h1.le l).fz, h2.mono l p⟩⟩⟩
  | cell n =>
    have h' : lstW st0 (.cell n) = some ws := h
    obtain ⟨a, vs, rfl, h1, h2⟩ := lstW_at k0 h' r
    obtain ⟨b, e1, e2⟩ := rep_cell_inv r
    cases e2
    refine ⟨a, vs, rfl, h2.length.symm, .inl ⟨h1, fun hid μ st H k l p s => ?_⟩⟩
    have s' : lstW st (.cell n) = some ws := s
    have r' : Rep K mg (Fz μ st hid H) μ (.cell n) (.ref a) := by unfold Rep; exact ⟨a, p.get e1, rfl⟩
    obtain ⟨c, us, e3, h3, h4⟩ := lstW_at k s' r'
    cases e3
    exact ⟨us, h3, h4⟩
  | _ => cases h
theorem iv_seq {e : Expr} {f : Sem} (he : EV X Wx e f) : IV X Wx tg e (iSeq f) := PIm (pi_seqT he) fun σ H R ⟨μ, st, hid, fr, S, P⟩ => by
  refine ⟨μ, st, hid, fr, S, ?_⟩
  unfold iSeq at P
  cases h1 : f fr st with
  | bad => rw [h1] at P; exact P
  | err x s => rw [h1] at P; exact P
  | ok x st1 =>
    rw [h1, Out.bind_ok] at P
    intro μ1 H1 v k1 g1 r1
    have P1 := IPost.from g1 P
    split at P1
    · rename_i ws e
      obtain ⟨a, vs, rfl, hl, q | q⟩ := seq_now k1 e r1
      · exact ⟨a, vs, rfl, .inl ⟨q.1, fun hz => P1 μ1 H1 _ k1 .refl (itOk_list (by rw [← hl]; exact hz) q.2)⟩⟩
      · exact ⟨a, vs, rfl, .inr ⟨q.1, fun hz => P1 μ1 H1 _ k1 .refl (itOk_tup (by rw [← hl]; exact hz) q.2)⟩⟩
    · exact P1.elim
/-- range -/
def rngW (lo c : Int) (n : Nat) : List W := (List.range n).map fun (i : Nat) => W.int (lo + (i : Int) * c)
theorem rngW_length (lo c : Int) (n : Nat) : (rngW lo c n).length = n := by unfold rngW; simp
theorem rngW_get {lo c : Int} {n i : Nat} (h : i < n) : (rngW lo c n)[i]? = some (.int (lo + (i : Int) * c)) := by
  unfold rngW
  rw [List.getElem?_map, List.getElem?_range h]; rfl
theorem itOk_rng {K : PySem.W.Frag} {mg : Str → Option Value} {F L : Hp} {μ0 : List Addr} {J : It} {lo c : Int} {n : Nat} (hn : n ≤ LINE) (h1 : ∀ i H, i < n → J.go i H) (h2 : ∀ i H x H', J.yld i H x H' → H' = H ∧ x = .int (lo + (i : Nat) * c)) (h3 : ∀ i H, n ≤ i → J.stop i H) :
    ItOk K mg J .non (rngW lo c n) F μ0 L where
  len := by rw [rngW_length]; exact le_line hn
  go := fun hid μ st H i k l p _ s hi => h1 i H (by rw [rngW_length] at hi; exact hi)
  yld := fun hid μ st H i v H' k l p _ s hi y => by
    rw [rngW_length] at hi
    obtain ⟨rfl, rfl⟩ := h2 i H v H' y
    exact ⟨k, .refl, _, rngW_get hi, rep_int⟩
  stop := fun hid μ st H i k l p _ s hi => h3 i H (by rw [rngW_length] at hi; exact hi)
noncomputable def big (j : Int) : Bool := dec (-(2 ^ 62) ≤ j ∧ j < 2 ^ 62)
theorem big_of {j : Int} (h : big j = true) : -(2 ^ 62) ≤ j ∧ j < 2 ^ 62 := dec_of h
abbrev RgF := List W → Option (Int × Int × Nat)
def iRng (op : RgF) (f : SemL) : SemI := fun fr st => (f fr st).bind fun ws st1 => match op ws with
  | some (lo, c, n) => if n ≤ LINE then .ok (.non, rngW lo c n) st1 else .bad
  | none => .bad
/-- J counts from lo by c, n turns -/
def Cnt (lo c : Int) (n : Nat) (J : It) : Prop := (∀ i H, i < n → J.go i H) ∧ (∀ i H x H', J.yld i H x H' → H' = H ∧ x = .int (lo + (i : Nat) * c)) ∧ ∀ i H, n ≤ i → J.stop i H
theorem iRng_read {op : RgF} {f : SemL} {wi : List V → Hp → (It → Hp → Prop) → Prop} (hw : ∀ (F : Hp) (μ : List Addr) (ws : List W) (vs : List V) (lo c : Int) (n : Nat) (H : Hp) (R : It → Hp → Prop), op ws = some (lo, c, n) → Reps X.K X.mg F μ ws vs → (∀ J, Cnt lo c n J → R J H) → wi vs H R) :
    ∀ σ H R, tI X.K X.mg Wx (iRng op f) σ H R → tA X.K X.mg Wx f σ H (fun vs H1 => wi vs H1 R) := fun σ H R ⟨μ, st, hid, fr, S, P⟩ => by
  refine ⟨μ, st, hid, fr, S, ?_⟩
  unfold iRng at P
  cases h1 : f fr st with
  | bad => rw [h1] at P; exact P
  | err x s => rw [h1] at P; exact P
  | ok ws st1 =>
    rw [h1, Out.bind_ok] at P
    intro μ1 H1 vs k1 g1 r1
    have P1 := IPost.from g1 P
    split at P1
    · rename_i lo c n e
      split at P1
      · rename_i hn
        exact hw _ _ ws vs lo c n H1 R e r1 fun J hJ => P1 μ1 H1 J k1 .refl (itOk_rng hn hJ.1 hJ.2.1 hJ.2.2)
      · exact P1.elim
    · exact P1.elim
theorem cnt_r (lo : Int) (n : Nat) : Cnt lo 1 n (Itr lo n) := ⟨fun _ _ h => h, fun i H x H' h => ⟨h.1, by rw [Int.mul_one]; exact h.2⟩, fun _ _ h => h⟩
noncomputable def rg1 : RgF := fun ws => match ws with
  | [.int j] => if big j = true then some (0, 1, j.toNat) else none
  | _ => none
theorem iv_rng1 {a : Expr} {f : SemL} {p pos : Pos} (hm : X.mg "range" = none) (ha : AV X Wx [a] f) (hg : Gl X "range" := by rfl) (hs : starEach [a] X.env = [(false, eval a X.env)] := by rfl) : IV X Wx tg (.Call (.Name "range" p) [a] [] pos) (iRng rg1 f) :=
  PIm (pi_range1 hg hm ha hs) (iRng_read fun F μ ws vs lo c n H R e r q => by
    unfold rg1 at e
    split at e
    · split at e
      · rename_i j hj
        cases e
        obtain ⟨v, rfl, r1⟩ := reps1 (ws := []) r
        cases rep_int_inv r1
        exact ⟨j, rfl, (big_of hj).1, (big_of hj).2, q _ (cnt_r 0 _)⟩
      · cases e
    · cases e)
/-- a text, sign by sign -/
def sgnW (z : Str) : List W := z.cps.toList.map fun c => W.str ⟨#[c]⟩
def iStrF (f : Sem) : SemI := fun fr st => (f fr st).bind fun x st1 => match x with
  | .str z => if z.length ≤ LINE then .ok (.non, sgnW z) st1 else .bad
  | _ => .bad
end
end SL

namespace SL
open PySem PySem.Spec PyProof.Rows L2

/-! ## hidden objects -/
section
variable {K : PySem.W.Frag} {mg : Str → Option Value} {μ : List Addr} {st : Sto} {hid : List Addr} {H : Hp}
theorem live_cons {p a : Addr} : LiveA μ st (p :: hid) a ↔ a = p ∨ LiveA μ st hid a := by
  unfold LiveA
  constructor
  · rintro (h | h)
    · rcases List.mem_cons.mp h with h | h
      · exact .inl h
      · exact .inr (.inl h)
    · exact .inr (.inr h)
  · rintro (h | h | h)
    · exact .inl (List.mem_cons.mpr (.inl h))
    · exact .inl (List.mem_cons_of_mem _ h)
    · exact .inr h
theorem Fz.hide {p : Addr} (hp : H p = none) : Fz μ st (p :: hid) H = Fz μ st hid H := by
  funext a
  by_cases h : LiveA μ st hid a
  · unfold Fz
    rw [if_pos h, if_pos (live_cons.mpr (.inr h))]
  · by_cases e : a = p
    · subst e
      unfold Fz
      rw [if_pos (live_cons.mpr (.inl rfl)), if_neg h, hp]
    · unfold Fz
      rw [if_neg h, if_neg (fun z => (live_cons.mp z).elim e h)]
theorem Fz.hidUpd {p : Addr} {o : HO} (hm : p ∈ hid) : Fz μ st hid (upd H p o) = Fz μ st hid H := by
  funext a
  by_cases h : LiveA μ st hid a
  · unfold Fz
    rw [if_pos h, if_pos h]
  · have e : a ≠ p := fun e => h (.inl (e ▸ hm))
    unfold Fz
    rw [if_neg h, if_neg h, upd_ne e]
theorem CelOk.of_eq {F : Hp} {H H' : Hp} {a : Addr} {c : Cel} (l : c.live = true → H' a = H a) (h : CelOk K mg F μ H a c) : CelOk K mg F μ H' a c := by
  cases c with
  | lst ws => obtain ⟨vs, e, r⟩ := h; exact ⟨vs, by rw [l rfl]; exact e, r⟩
  | dct ks ws => obtain ⟨vs, e, r⟩ := h; exact ⟨vs, e.of_eq (l rfl), r⟩
  | ins c ns ws => obtain ⟨C, dx, vs, g, l', e, r⟩ := h; exact ⟨C, dx, vs, g, l', by rw [l rfl]; exact e, r⟩
  | frz w => exact h
  | nct l' wo ks ws => obtain ⟨xs, e, kn, r⟩ := h; exact ⟨xs, e.of_eq (l rfl), kn, r⟩
theorem CelOk.le {F F' : Hp} {μ' : List Addr} {a : Addr} {c : Cel} (x : Le F F') (p : Pre μ μ') (h : CelOk K mg F μ H a c) : CelOk K mg F' μ' H a c := by
  cases c with
  | lst ws => obtain ⟨vs, e, r⟩ := h; exact ⟨vs, e, r.mono x p⟩
  | dct ks ws => obtain ⟨vs, e, r⟩ := h; exact ⟨vs, e, r.mono x p⟩
  | ins c ns ws => obtain ⟨C, dx, vs, g, l', e, r⟩ := h; exact ⟨C, dx, vs, g, l', e, r.mono x p⟩
  | frz w => exact Rep.mono x p _ _ h
  | nct l wo ks ws => obtain ⟨xs, e, kn, r⟩ := h; exact ⟨xs, e, kn.mono x p, r.mono x p⟩
/-- a new object that is hidden -/
theorem StOk.hideNew (k : StOk K mg μ st hid H) {p : Addr} {o : HO} (hp : H p = none) (nt : ∀ vs, o ≠ .tup vs := by intro _ h; cases h) : StOk K mg μ st (p :: hid) (upd H p o) ∧ Fz μ st (p :: hid) (upd H p o) = Fz μ st hid H := by
  have e : Fz μ st (p :: hid) (upd H p o) = Fz μ st hid H := by rw [Fz.hidUpd List.mem_cons_self, Fz.hide hp]
  have ne : ∀ (n : Nat) (a : Addr) (c : Cel), μ[n]? = some a → st[n]? = some c → c.live = true → a ≠ p := fun n a c h1 h2 h3 z => by
    obtain ⟨u, q⟩ := (k.ok n a c h1 h2).there h3
    rw [z, hp] at q; cases q
  refine ⟨⟨k.len, k.inj, fun n a c h1 h2 h3 z => ?_, fun a ha => ?_, fun n a c h1 h2 => ?_⟩, e⟩
  · rcases List.mem_cons.mp z with z | z
    · exact ne n a c h1 h2 h3 z
    · exact k.hidn n a c h1 h2 h3 z
  · rcases List.mem_cons.mp ha with z | z
    · rw [z, upd_same]; exact ⟨(fun q => nomatch q), fun vs q => nt vs (Option.some.inj q)⟩
    · by_cases q : a = p
      · rw [q, upd_same]; exact ⟨(fun q => nomatch q), fun vs q => nt vs (Option.some.inj q)⟩
      · rw [upd_ne q]; exact k.hidt a z
  · rw [e]
    exact (k.ok n a c h1 h2).of_eq fun l => upd_ne (ne n a c h1 h2 l)
/-- a hidden object changes -/
theorem StOk.hidUpd (k : StOk K mg μ st hid H) {p : Addr} {o : HO} (hm : p ∈ hid) (nt : ∀ vs, o ≠ .tup vs := by intro _ h; cases h) : StOk K mg μ st hid (upd H p o) := by
  refine ⟨k.len, k.inj, k.hidn, fun a ha => ?_, fun n a c h1 h2 => ?_⟩
  · by_cases q : a = p
    · rw [q, upd_same]; exact ⟨(fun q => nomatch q), fun vs q => nt vs (Option.some.inj q)⟩
    · rw [upd_ne q]; exact k.hidt a ha
  · rw [Fz.hidUpd hm]
    exact (k.ok n a c h1 h2).of_eq fun l => upd_ne fun z => k.hidn n a c h1 h2 l (z ▸ hm)
/-- what was hidden is seen -/
theorem StOk.seen {p : Addr} {o : HO} (k : StOk K mg μ st (p :: hid) H) (hn : p ∉ hid) (e : H p = some o) : StOk K mg μ st hid H ∧ Le (Fz μ st (p :: hid) H) (Fz μ st hid H) ∧ Fz μ st hid H p = some o := by
  have l : Le (Fz μ st (p :: hid) H) (Fz μ st hid H) := Le.of fun a u h => by
    obtain ⟨h1, h2⟩ := Fz.sub h
    exact Fz.mk h1 fun z => h2 (live_cons.mpr (.inr z))
  refine ⟨⟨k.len, k.inj, fun n a c h1 h2 h3 z => k.hidn n a c h1 h2 h3 (List.mem_cons_of_mem _ z), fun a ha => k.hidt a (List.mem_cons_of_mem _ ha), fun n a c h1 h2 => (k.ok n a c h1 h2).le l (.refl _)⟩, l, Fz.mk e fun z => ?_⟩
  rcases z with z | ⟨n, c, h1, h2, h3⟩
  · exact hn z
  · exact k.hidn n p c h1 h2 h3 List.mem_cons_self
end

/-! ## comprehensions -/
def wipeF (fr : Fr) : List Nat → Fr
  | [] => fr
  | v :: vs => (wipeF fr vs).set v none
theorem wipeF_length (fr : Fr) : ∀ vs : List Nat, (wipeF fr vs).length = fr.length
  | [] => rfl
  | v :: vs => by unfold wipeF; rw [List.length_set, wipeF_length fr vs]
theorem wipe_at {α : Type} (σ : List (Option α)) (w : List (Option α) → List Nat → List (Option α)) (h0 : ∀ f, w f [] = f) (h1 : ∀ f v vs, w f (v :: vs) = (w f vs).set v none) : ∀ (vs : List Nat) (j : Nat), (j ∉ vs → (w σ vs)[j]? = σ[j]?) ∧ (j ∈ vs → ∀ x, (w σ vs)[j]? ≠ some (some x))
  | [], j => ⟨fun _ => by rw [h0], fun h => by simp at h⟩
  | v :: vs, j => by
    obtain ⟨a, b⟩ := wipe_at σ w h0 h1 vs j
    rw [h1]
    by_cases e : v = j
    · subst e
      refine ⟨fun h => by simp at h, fun _ x z => ?_⟩
      by_cases q : v < (w σ vs).length
      · rw [List.getElem?_set_self q] at z; cases z
      · rw [List.getElem?_eq_none (by simpa using q)] at z; cases z
    · rw [List.getElem?_set_ne e]
      exact ⟨fun h => a fun z => h (List.mem_cons_of_mem _ z), fun h => b (by rcases List.mem_cons.mp h with z | z; exact absurd z.symm e; exact z)⟩
theorem wipeF_at (fr : Fr) (vs : List Nat) (j : Nat) : (j ∉ vs → (wipeF fr vs)[j]? = fr[j]?) ∧ (j ∈ vs → ∀ x, (wipeF fr vs)[j]? ≠ some (some x)) := wipe_at fr wipeF (fun _ => rfl) (fun _ _ _ => rfl) vs j
theorem wipe_at' (σ : L2.St) (vs : List Nat) (j : Nat) : (j ∉ vs → (wipe σ vs)[j]? = σ[j]?) ∧ (j ∈ vs → ∀ x, (wipe σ vs)[j]? ≠ some (some x)) := wipe_at σ wipe (fun _ => rfl) (fun _ _ _ => rfl) vs j
theorem wipe_ext {σ σ2 : L2.St} {vs : List Nat} (hl : σ2.length = σ.length) (h : ∀ j, j ∉ vs → σ2[j]? = (wipe σ vs)[j]?) : wipe σ2 vs = wipe σ vs := by
  apply List.ext_getElem?
  intro j
  by_cases hj : j ∈ vs
  · have a := (wipe_at' σ vs j).2 hj
    have b := (wipe_at' σ2 vs j).2 hj
    have l1 := wipe_length σ vs
    have l2 := wipe_length σ2 vs
    by_cases q : j < σ.length
    · have q1 : j < (wipe σ vs).length := by omega
      have q2 : j < (wipe σ2 vs).length := by omega
      rw [List.getElem?_eq_getElem q1] at a ⊢
      rw [List.getElem?_eq_getElem q2] at b ⊢
      cases e1 : (wipe σ vs)[j] with
      | some x => rw [e1] at a; exact absurd rfl (a x)
      | none =>
        cases e2 : (wipe σ2 vs)[j] with
        | some x => rw [e2] at b; exact absurd rfl (b x)
        | none => rfl
    · rw [List.getElem?_eq_none (by omega), List.getElem?_eq_none (by omega)]
  · rw [(wipe_at' σ2 vs j).1 hj]
    exact h j hj
theorem SI.wipe {K : PySem.W.Frag} {mg : Str → Option Value} {Wx : Wish} {μ : List Addr} {st : Sto} {hid : List Addr} {fr : Fr} {σ : L2.St} {H : Hp} (s : SI K mg Wx μ st hid fr σ H) (vs : List Nat) (hv : ∀ i ∈ Wx.lock, i ∉ vs) : SI K mg Wx μ st hid (wipeF fr vs) (L2.wipe σ vs) H :=
  ⟨s.sto, by rw [wipeF_length, wipe_length]; exact s.len, fun i w h => by
    by_cases hi : i ∈ vs
    · exact absurd h ((wipeF_at fr vs i).2 hi w)
    · rw [(wipeF_at fr vs i).1 hi] at h
      rw [(wipe_at' σ vs i).1 hi]
      exact s.loc i w h, Wx.slot _ _ _ _ (fun j hj => (wipe_at' σ vs j).1 (hv j hj)) s.ex⟩
/-- nothing may be raised within -/
def Wish.blk (Wx : Wish) : Wish := ⟨fun _ _ _ _ => False, Wx.lock, Wx.y, Wx.mono, Wx.slot⟩
theorem SI.blk {K : PySem.W.Frag} {mg : Str → Option Value} {Wx : Wish} {μ : List Addr} {st : Sto} {hid : List Addr} {fr : Fr} {σ : L2.St} {H : Hp} (s : SI K mg Wx μ st hid fr σ H) : SI K mg Wx.blk μ st hid fr σ H := ⟨s.sto, s.len, s.loc, s.ex⟩
open Classical in
noncomputable def lcRun (x : W) (all : List W) (g : TgF) (t : SemB) (e : Sem) (fr : Fr) : List W → Sto → Out (List W)
  | [], st => if srcOk x all st then .ok [] st else .bad
  | w :: r, st => if srcOk x all st then (match g w fr st with
    | some fr1 => match t fr1 st with
      | .ok true st1 => match e fr1 st1 with
        | .ok y st2 => match lcRun x all g t e fr r st2 with
          | .ok ys st3 => .ok (y :: ys) st3
          | _ => .bad
        | _ => .bad
      | .ok false st1 => lcRun x all g t e fr r st1
      | _ => .bad
    | none => .bad) else .bad
/-- what is done with the finished list -/
abbrev LFin := List W → Sto → Out W
noncomputable def eLcG (fin : LFin) (f : SemI) (g : TgF) (own : List Nat) (t : SemB) (e : Sem) : Sem := fun fr st => (f fr st).bind fun p st1 => match lcRun p.1 p.2 g t e (wipeF fr own) p.2 st1 with
  | .ok ys st2 => fin ys st2
  | _ => .bad
def finL : LFin := fun ys st => .ok (.lst ys) st
def finC : LFin := fun ys st => .ok (.cell st.length) (st ++ [.lst ys])
noncomputable abbrev eLc (f : SemI) (g : TgF) (own : List Nat) (t : SemB) (e : Sem) : Sem := eLcG finL f g own t e
noncomputable abbrev eLcC (f : SemI) (g : TgF) (own : List Nat) (t : SemB) (e : Sem) : Sem := eLcG finC f g own t e
def FinOk (K : PySem.W.Frag) (mg : Str → Option Value) (fin : LFin) : Prop := ∀ (Wx : WX) (σ : L2.St) (Q : VK) (hid μ0 : List Addr) (st0 : Sto) (H0 : Hp) (μ : List Addr) (st : Sto) (H : Hp) (D : Addr) (acc : List V) (ys : List W), StOk K mg μ st (D :: hid) H → D ∉ hid → H D = some (.lst acc) → Reps K mg (Fz μ st (D :: hid) H) μ ys acc → Pre μ0 μ → Le (Fz μ0 st0 hid H0) (Fz μ st (D :: hid) H) → (∀ a ∈ hid, H a = H0 a) → Lk H0 H →
  EPost K mg Wx hid μ0 st0 σ H0 Q (fin ys st) → Q (.ref D) H
theorem fin_lst {K : PySem.W.Frag} {mg : Str → Option Value} : FinOk K mg finL := fun Wx σ Q hid μ0 st0 H0 μ st H D acc ys k hD e r p l hh hlk P => by
  obtain ⟨k6, l6, e6⟩ := k.seen hD e
  exact P μ H _ k6 ⟨p, l.trans l6, hh, hlk⟩ (rep_lst e6 (r.mono l6 (.refl _)))
/-- a hidden list becomes a cell -/
theorem StOk.cellOf {K : PySem.W.Frag} {mg : Str → Option Value} {μ : List Addr} {st : Sto} {hid : List Addr} {H : Hp} {p : Addr} {acc : List V} {ys : List W} (k : StOk K mg μ st (p :: hid) H) (hn : p ∉ hid) (hp : H p = some (.lst acc)) (r : Reps K mg (Fz μ st (p :: hid) H) μ ys acc) :
    StOk K mg (μ ++ [p]) (st ++ [.lst ys]) hid H ∧ Fz (μ ++ [p]) (st ++ [.lst ys]) hid H = Fz μ st (p :: hid) H := by
  have spl : ∀ {m : Nat} {a : Addr} {d : Cel}, (μ ++ [p])[m]? = some a → (st ++ [Cel.lst ys])[m]? = some d → (m < st.length ∧ μ[m]? = some a ∧ st[m]? = some d) ∨ (m = st.length ∧ a = p ∧ d = .lst ys) := fun {m a d} e1 e2 => by
    by_cases z : m < st.length
    · rw [List.getElem?_append_left (by rw [k.len]; exact z)] at e1
      rw [List.getElem?_append_left z] at e2
      exact .inl ⟨z, e1, e2⟩
    · by_cases y : m = st.length
      · subst y
        rw [List.getElem?_append_right (by rw [k.len]; exact Nat.le_refl _), k.len] at e1
        rw [List.getElem?_append_right (Nat.le_refl _)] at e2
        simp at e1 e2
        exact .inr ⟨rfl, e1.symm, e2.symm⟩
      · rw [List.getElem?_append_right (by omega)] at e2
        rw [List.getElem?_eq_none (by simp; omega)] at e2; cases e2
  have lv : ∀ a, LiveA (μ ++ [p]) (st ++ [.lst ys]) hid a ↔ LiveA μ st (p :: hid) a := fun a => by
    constructor
    · rintro (h | ⟨m, d, e1, e2, e3⟩)
      · exact .inl (List.mem_cons_of_mem _ h)
      · rcases spl e1 e2 with ⟨y1, y2, y3⟩ | ⟨y1, y2, y3⟩
        · exact .inr ⟨m, d, y2, y3, e3⟩
        · subst y2; exact .inl List.mem_cons_self
    · rintro (h | ⟨m, d, e1, e2, e3⟩)
      · rcases List.mem_cons.mp h with h | h
        · subst h
          exact .inr ⟨st.length, .lst ys, by rw [List.getElem?_append_right (by rw [k.len]; exact Nat.le_refl _), k.len]; simp, by simp, rfl⟩
        · exact .inl h
      · have z : m < st.length := by
          rcases Nat.lt_or_ge m st.length with q | q
          · exact q
          · rw [List.getElem?_eq_none q] at e2; cases e2
        exact .inr ⟨m, d, by rw [List.getElem?_append_left (by rw [k.len]; exact z)]; exact e1, by rw [List.getElem?_append_left z]; exact e2, e3⟩
  have e : Fz (μ ++ [p]) (st ++ [.lst ys]) hid H = Fz μ st (p :: hid) H := by
    funext a
    by_cases h : LiveA μ st (p :: hid) a
    · unfold Fz; rw [if_pos h, if_pos ((lv a).mpr h)]
    · unfold Fz; rw [if_neg h, if_neg fun y => h ((lv a).mp y)]
  have pre : Pre μ (μ ++ [p]) := ⟨[p], rfl⟩
  have np : ∀ {m : Nat} {a : Addr} {d : Cel}, μ[m]? = some a → st[m]? = some d → d.live = true → a ≠ p := fun {m a d} e1 e2 e3 z => k.hidn m a d e1 e2 e3 (z ▸ List.mem_cons_self)
  refine ⟨⟨by simp [k.len], fun i j a d d' h2 h3 h4 h4' h5 h5' => ?_, fun j a d h2 h3 h4 => ?_, fun a ha => k.hidt a (List.mem_cons_of_mem _ ha), fun j a d h2 h3 => ?_⟩, e⟩
  · rcases spl h2 h4 with ⟨y1, y2, y3⟩ | ⟨y1, y2, y3⟩ <;> rcases spl h3 h4' with ⟨z1, z2, z3⟩ | ⟨z1, z2, z3⟩
    · exact k.inj i j a d d' y2 z2 y3 z3 h5 h5'
    · exact absurd z2 (np y2 y3 h5)
    · exact absurd y2 (np z2 z3 h5')
    · omega
  · rcases spl h2 h3 with ⟨y1, y2, y3⟩ | ⟨y1, y2, y3⟩
    · exact fun z => k.hidn j a d y2 y3 h4 (List.mem_cons_of_mem _ z)
    · subst y2; exact hn
  · rw [e]
    rcases spl h2 h3 with ⟨y1, y2, y3⟩ | ⟨y1, y2, y3⟩
    · exact (k.ok j a d y2 y3).le (.refl _) pre
    · subst y2 y3; exact ⟨acc, hp, r.mono (.refl _) pre⟩
theorem fin_cel {K : PySem.W.Frag} {mg : Str → Option Value} : FinOk K mg finC := fun Wx σ Q hid μ0 st0 H0 μ st H D acc ys k hD e r p l hh hlk P => by
  obtain ⟨k6, e6⟩ := k.cellOf hD e r
  refine P _ H _ k6 ⟨p.trans ⟨[D], rfl⟩, by rw [e6]; exact l, hh, hlk⟩ ?_
  unfold Rep
  exact ⟨D, by rw [← k.len]; simp, rfl⟩
/-- a comprehension's own state: what the list at D holds -/
structure LcSt (K : PySem.W.Frag) (mg : Str → Option Value) (D : Addr) (hid μ0 : List Addr) (F0 : Hp) (H0 : Hp) (i : Nat) (μ : List Addr) (st : Sto) (H : Hp) (ys : List W) (acc : List V) : Prop where
  sto : StOk K mg μ st (D :: hid) H
  le : Le F0 (Fz μ st (D :: hid) H)
  pre : Pre μ0 μ
  hidk : ∀ a ∈ hid, H a = H0 a
  lck : Lk H0 H
  at_ : H D = some (.lst acc)
  rep : Reps K mg (Fz μ st (D :: hid) H) μ ys acc
  len : acc.length ≤ i
theorem lc_read {X : Cx} {Wx : Wish} {fin : LFin} {f : SemI} {g : TgF} {sl own : List Nat} {t : SemB} {e : Sem} (hf : FinOk X.K X.mg fin) (hsl : ∀ i ∈ sl, i ∈ own) (hlk : ∀ i ∈ Wx.lock, i ∉ own) : ∀ σ H Q, tE X.K X.mg Wx (eLcG fin f g own t e) σ H Q →
    tLc (tI X.K X.mg Wx f) (tG X.K X.mg Wx.blk g sl) (tB' X.K X.mg Wx.blk t) (tE X.K X.mg Wx.blk e) own σ H Q := fun σ H Q ⟨μ, st, hid, fr, S, P⟩ => by
  refine ⟨μ, st, hid, fr, S, ?_⟩
  unfold eLcG at P
  cases h1 : f fr st with
  | bad => rw [h1] at P; exact P
  | err x s => rw [h1] at P; exact P
  | ok p st1 =>
    obtain ⟨x, all⟩ := p
    rw [h1, Out.bind_ok] at P
    intro μ1 H1 J k1 g1 ji D hD
    have P1 := EPost.from g1 P
    have S1 := S.next k1 g1
    simp only at P1
    cases hr : lcRun x all g t e (wipeF fr own) all st1 with
    | bad => rw [hr] at P1; exact P1.elim
    | err z s => rw [hr] at P1; exact P1.elim
    | ok tot stE =>
      rw [hr] at P1
      have hDn : D ∉ hid := fun z => (k1.hidt D z).1 hD
      obtain ⟨k2, e2⟩ := k1.hideNew (o := .lst []) hD
      refine ⟨fun i m H => m = all.length - i ∧ i ≤ all.length ∧ ∃ μ st ys acc rest, LcSt X.K X.mg D hid μ1 (Fz μ1 st1 hid H1) H1 i μ st H ys acc ∧ lcRun x all g t e (wipeF fr own) (all.drop i) st = .ok rest stE ∧ ys ++ rest = tot,
        ⟨_, rfl, Nat.zero_le _, μ1, st1, [], [], tot, ⟨k2, by rw [e2]; exact .refl _, .refl _, fun a ha => upd_ne fun z => hDn (z ▸ ha), fun a o u h => by rw [upd_ne (ne_of_none h hD)]; exact h, upd_same, .nil, Nat.le_refl _⟩, hr, rfl⟩, ?_⟩
      rintro i m H2 ⟨rfl, hi, μ2, st2, ys, acc, rest, L, run, tt⟩
      by_cases hlt : i < all.length
      · rw [List.drop_eq_getElem_cons hlt, lcRun] at run
        split at run
        · rename_i hs
          refine .inr ⟨ji.go _ _ _ _ i L.sto L.le L.pre L.lck hs hlt, fun H => ∃ μ st ys acc rest, LcSt X.K X.mg D hid μ1 (Fz μ1 st1 hid H1) H1 (i + 1) μ st H ys acc ∧ lcRun x all g t e (wipeF fr own) (all.drop (i + 1)) st = .ok rest stE ∧ ys ++ rest = tot,
            fun H' q => ⟨_, by omega, rfl, hlt, q⟩, fun v H3 hy => ?_⟩
          obtain ⟨k3, g3, w, hw, rw_⟩ := ji.yld _ _ _ _ i v H3 L.sto L.le L.pre L.lck hs hlt hy
          have ew : all[i] = w := by
            rw [List.getElem?_eq_getElem hlt] at hw; exact Option.some.inj hw
          rw [ew] at run
          cases e3 : g w (wipeF fr own) st2 with
          | none => rw [e3] at run; cases run
          | some fr1 =>
            rw [e3] at run
            simp only at run
            have S3 : SI X.K X.mg Wx.blk μ2 st2 (D :: hid) (wipeF fr own) (wipe σ own) H3 := by
              have W := (S1.wipe own hlk).blk
              have l3 : Le (Fz μ1 st1 hid H1) (Fz μ2 st2 (D :: hid) H3) := L.le.trans g3.le
              exact ⟨k3, W.len, fun j u hj => by
                obtain ⟨v, ev, rv⟩ := W.loc j u hj
                exact ⟨v, ev, Rep.mono l3 L.pre _ _ rv⟩, Wx.blk.mono _ _ _ _ _ l3 L.pre W.ex⟩
            refine ⟨μ2, st2, D :: hid, wipeF fr own, w, fr1, S3, rw_, e3, fun σ2 S4 ag => ⟨wipe_ext (by rw [ag.1, wipe_length]) fun j hj => ag.2 j fun z => hj (hsl j z), μ2, st2, D :: hid, fr1, S4, ?_⟩⟩
            cases e4 : t fr1 st2 with
            | bad => rw [e4] at run; cases run
            | err z s => rw [e4] at run; cases run
            | ok b st3 =>
              rw [e4] at run
              intro μ3 H4 k4 g4
              have keep : ∀ {μ' : List Addr} {st' : Sto} {H' : Hp}, Grow (D :: hid) μ2 st2 H3 μ' st' H' → StOk X.K X.mg μ' st' (D :: hid) H' → LcSt X.K X.mg D hid μ1 (Fz μ1 st1 hid H1) H1 i μ' st' H' ys acc := fun gg kk =>
                ⟨kk, (L.le.trans g3.le).trans gg.le, L.pre.trans gg.pre, fun a ha => ((gg.hid a (List.mem_cons_of_mem _ ha)).trans (g3.hid a (List.mem_cons_of_mem _ ha))).trans (L.hidk a ha), L.lck.trans (g3.lck.trans gg.lck),
                  ((gg.hid D List.mem_cons_self).trans (g3.hid D List.mem_cons_self)).trans L.at_, L.rep.mono (g3.le.trans gg.le) gg.pre, L.len⟩
              cases b with
              | false =>
                refine iteF ?_
                have Q4 := keep g4 k4
                exact ⟨μ3, st3, ys, acc, rest, ⟨Q4.sto, Q4.le, Q4.pre, Q4.hidk, Q4.lck, Q4.at_, Q4.rep, Nat.le_succ_of_le Q4.len⟩, run, tt⟩
              | true =>
                refine iteT ⟨μ3, st3, D :: hid, fr1, S4.next k4 g4, ?_⟩
                simp only at run
                cases e5 : e fr1 st3 with
                | bad => rw [e5] at run; cases run
                | err z s => rw [e5] at run; cases run
                | ok y st4 =>
                  rw [e5] at run
                  simp only at run
                  intro μ4 H5 vy k5 g5 r5
                  have Q5 := keep (g4.trans g5) k5
                  cases e6 : lcRun x all g t e (wipeF fr own) (all.drop (i + 1)) st4 with
                  | bad => rw [e6] at run; cases run
                  | err z s => rw [e6] at run; cases run
                  | ok more stF =>
                    rw [e6] at run
                    simp only at run
                    injection run with ra rb
                    subst ra rb
                    refine ⟨acc, Q5.at_, Nat.lt_of_le_of_lt Q5.len (Nat.lt_of_lt_of_le hlt ji.len), μ4, st4, ys ++ [y], acc ++ [vy], more, ⟨Q5.sto.hidUpd List.mem_cons_self, ?_, Q5.pre, fun a ha => ?_, fun a o u h => ?_, upd_same, ?_, ?_⟩, e6, by rw [← tt]; simp⟩
                    · rw [Fz.hidUpd List.mem_cons_self]; exact Q5.le
                    · rw [upd_ne (fun z : a = D => hDn (z ▸ ha))]; exact Q5.hidk a ha
                    · have q := Q5.lck a o u h
                      rw [upd_ne fun z => by rw [z, Q5.at_] at q; cases q]; exact q
                    · rw [Fz.hidUpd List.mem_cons_self]; exact Q5.rep.append (.cons r5 .nil)
                    · rw [List.length_append, List.length_singleton]; exact Nat.succ_le_succ Q5.len
        · cases run
      · have hi2 : i = all.length := by omega
        subst hi2
        rw [List.drop_length, lcRun] at run
        split at run
        · rename_i hs
          injection run with ra rb
          subst ra rb
          refine .inl ⟨ji.stop _ _ _ _ _ L.sto L.le L.pre L.lck hs (Nat.le_refl _), ?_⟩
          rw [List.append_nil] at tt
          subst tt
          exact hf _ _ _ _ _ _ _ _ _ _ _ _ _ L.sto hDn L.at_ L.rep L.pre L.le L.hidk L.lck P1
        · cases run
section
variable {X : Cx} {Wx : Wish}
def tTrue : SemB := fun _ st => .ok true st
theorem tv_ifs0 : PTs X [] (tB' X.K X.mg Wx tTrue) := ⟨fun pins s σ H Q I h => pts_nil.run pins s σ H Q I (by
  obtain ⟨μ, st, hid, fr, S, P⟩ := h
  exact P μ H S.sto .refl)⟩
theorem tv_ifs1 {c : Expr} {t : SemB} (h : TV X Wx c t) : PTs X [c] (tB' X.K X.mg Wx t) := pts_one h
theorem ev_lcG {fin : LFin} (hf : FinOk X.K X.mg fin) {elt tg iter : Expr} {ifs : List Expr} {scope : Scope} {own : List (Str × Nat)} {pos : Pos} {f : SemI} {g : TgF} {sl : List Nat} {t : SemB} {e : Sem} (hc : X.calm = true) (hN : X.N.Nodup) (hi : IV X Wx tg iter f) (ok : blkC X.N X.env.scope scope own = true)
    (hsl : ∀ i ∈ sl, i ∈ own.map (·.2)) (hlk : ∀ i ∈ Wx.lock, i ∉ own.map (·.2))
    (hg : ∀ (s : Shared) (H : Hp) (C : Addr) (cl : List (Str × Addr)) (fp : List Addr), GV (X.blk s H scope (compEnvC scope cl C X.env) fp) Wx.blk tg g sl)
    (ht : ∀ (s : Shared) (H : Hp) (C : Addr) (cl : List (Str × Addr)) (fp : List Addr), PTs (X.blk s H scope (compEnvC scope cl C X.env) fp) ifs (tB' X.K X.mg Wx.blk t))
    (he : ∀ (s : Shared) (H : Hp) (C : Addr) (cl : List (Str × Addr)) (fp : List Addr), EV (X.blk s H scope (compEnvC scope cl C X.env) fp) Wx.blk elt e) (hs : ∀ x, foldedSetIterable iter X.env x = pure x := by intro _; rfl) :
    EV X Wx (.ListComp elt [⟨tg, iter, ifs, 0⟩] scope pos) (eLcG fin f g (own.map (·.2)) t e) :=
  PEm (pe_lc hc hN hi (blkOk_by ok) hg ht he hs) (lc_read hf hsl hlk)
end
end SL

namespace SL
open PySem PySem.Spec PyProof.Rows L2

/-! ## the contexts -/
structure Ctx (X : Cx) (Wx : Wish) (k : Nat) : Prop where
  calm : X.calm = true
  nd : X.N.Nodup
  room : Room k X.A
  tk : Takes X Wx.w
  hp : PassesOwn (model X.prog X.w) X.A X.env X.xe
theorem Ctx.blk {X : Cx} {Wx : Wish} {k : Nat} (C : Ctx X Wx k) (s : Shared) (H : Hp) (scope : Scope) (cenv : Env) (fp : List Addr) : Ctx (X.blk s H scope cenv fp) Wx.blk k := ⟨C.calm, C.nd, C.room, takes0, PassesOwn.never⟩
theorem Ctx.mono {X : Cx} {Wx : Wish} {j k : Nat} (C : Ctx X Wx k) (h : j ≤ k) : Ctx X Wx j := ⟨C.calm, C.nd, C.room.mono h, C.tk, C.hp⟩

/-! ## a cell changes -/
section
variable {K : PySem.W.Frag} {mg : Str → Option Value} {μ : List Addr} {st : Sto} {hid : List Addr} {H : Hp}
theorem live_set {n : Nat} {c c' : Cel} {p : Addr} (h1 : st[n]? = some c) (l : c.live = true) (l' : c'.live = true) (a : Addr) : LiveA μ (st.set n c') hid a ↔ LiveA μ st hid a := by
  have hn : n < st.length := by
    rcases Nat.lt_or_ge n st.length with q | q
    · exact q
    · rw [List.getElem?_eq_none q] at h1; cases h1
  unfold LiveA
  constructor
  · rintro (h | ⟨m, d, e1, e2, e3⟩)
    · exact .inl h
    · by_cases e : n = m
      · subst e; exact .inr ⟨n, c, e1, h1, l⟩
      · rw [List.getElem?_set_ne e] at e2; exact .inr ⟨m, d, e1, e2, e3⟩
  · rintro (h | ⟨m, d, e1, e2, e3⟩)
    · exact .inl h
    · by_cases e : n = m
      · subst e; exact .inr ⟨n, c', e1, by rw [List.getElem?_set_self hn], l'⟩
      · exact .inr ⟨m, d, e1, by rw [List.getElem?_set_ne e]; exact e2, e3⟩
theorem StOk.setCell0 (k : StOk K mg μ st hid H) {n : Nat} {c c' : Cel} {p : Addr} {o : HO} (h0 : μ[n]? = some p) (h1 : st[n]? = some c) (l : c.live = true) (l' : c'.live = true) (q : CelOk K mg (Fz μ st hid H) μ (upd H p o) p c') :
    StOk K mg μ (st.set n c') hid (upd H p o) ∧ Fz μ (st.set n c') hid (upd H p o) = Fz μ st hid H ∧ p ∉ hid := by
  have lp : LiveA μ st hid p := .inr ⟨n, c, h0, h1, l⟩
  have e : Fz μ (st.set n c') hid (upd H p o) = Fz μ st hid H := by
    funext a
    by_cases h : LiveA μ st hid a
    · unfold Fz; rw [if_pos h, if_pos ((live_set (p := p) h1 l l' a).mpr h)]
    · have hne : a ≠ p := fun z => h (z ▸ lp)
      unfold Fz; rw [if_neg h, if_neg (fun z => h ((live_set (p := p) h1 l l' a).mp z)), upd_ne hne]
  have hn : n < st.length := by
    rcases Nat.lt_or_ge n st.length with q | q
    · exact q
    · rw [List.getElem?_eq_none q] at h1; cases h1
  have hh : p ∉ hid := k.hidn n p c h0 h1 l
  refine ⟨⟨by rw [List.length_set]; exact k.len, fun i j a d d' h2 h3 h4 h4' h5 h5' => ?_, fun j a d h2 h3 h4 => ?_, fun a ha => ?_, fun j a d h2 h3 => ?_⟩, e, hh⟩
  · have old : ∀ {m : Nat} {b : Addr} {e : Cel}, (st.set n c')[m]? = some e → e.live = true → ∃ e', st[m]? = some e' ∧ e'.live = true := fun {m b e} y1 y2 => by
      by_cases z : n = m
      · subst z; exact ⟨c, h1, l⟩
      · rw [List.getElem?_set_ne z] at y1; exact ⟨e, y1, y2⟩
    obtain ⟨e1, y1, y2⟩ := old (b := a) h4 h5
    obtain ⟨e2, y3, y4⟩ := old (b := a) h4' h5'
    exact k.inj i j a e1 e2 h2 h3 y1 y3 y2 y4
  · by_cases z : n = j
    · subst z
      rw [h0] at h2; cases h2; exact hh
    · rw [List.getElem?_set_ne z] at h3; exact k.hidn j a d h2 h3 h4
  · by_cases z : a = p
    · exact absurd (z ▸ ha) hh
    · rw [upd_ne z]; exact k.hidt a ha
  · rw [e]
    by_cases z : n = j
    · subst z
      rw [h0] at h2; cases h2
      rw [List.getElem?_set_self hn] at h3
      cases h3; exact q
    · rw [List.getElem?_set_ne z] at h3
      refine (k.ok j a d h2 h3).of_eq fun ld => upd_ne fun y => z ?_
      subst y
      exact k.inj n j a c d h0 h2 h1 h3 l ld
/-- what is not locked -/
def Cel.unl : Cel → Bool
  | .lst _ | .ins _ _ _ => true
  | .dct (.ty t :: _) _ => t == "T"
  | .dct _ _ => true
  | .frz _ => false
  | .nct l _ _ _ => !l
theorem unl_nf {F : Hp} {a : Addr} {c : Cel} (h : CelOk K mg F μ H a c) (hu : c.unl = true) : ∀ o u, H a ≠ some (.frz o u) := by
  intro o u e
  cases c with
  | lst ws => obtain ⟨vs, h, _⟩ := h; rw [e] at h; cases h
  | ins c ns ws => obtain ⟨C, dx, vs, _, _, h, _⟩ := h; rw [e] at h; cases h
  | frz w => cases hu
  | nct l wo ks ws =>
    obtain ⟨xs, h, _⟩ := h
    cases l with
    | true => cases hu
    | false =>
      have h : H a = some (DkN wo a xs) := h
      rw [e] at h; cases h
  | dct ks ws =>
    obtain ⟨vs, ⟨l, q, h1, h2, h3⟩, _⟩ := h
    have hl : l = false := by
      cases ks with
      | nil => cases h1; rfl
      | cons w ks =>
        cases w with
        | ty t =>
          have ht : t = "T" := beq_iff_eq.mp hu
          subst ht
          have z : kindW (.ty "T" :: ks) = (mapO keyT ks).map fun kk => (false, .inr kk) := rfl
          rw [z] at h1
          cases m : mapO keyT ks with
          | none => rw [m] at h1; cases h1
          | some kk => rw [m] at h1; cases h1; rfl
        | int i =>
          have z : kindW (.int i :: ks) = (mapO keyW (.int i :: ks)).map fun kk => (false, .inl kk) := rfl
          rw [z] at h1
          cases m : mapO keyW (.int i :: ks) with
          | none => rw [m] at h1; cases h1
          | some kk => rw [m] at h1; cases h1; rfl
        | str x =>
          have z : kindW (.str x :: ks) = (mapO keyW (.str x :: ks)).map fun kk => (false, .inl kk) := rfl
          rw [z] at h1
          cases m : mapO keyW (.str x :: ks) with
          | none => rw [m] at h1; cases h1
          | some kk => rw [m] at h1; cases h1; rfl
        | _ => cases h1
    subst hl
    have h3' : H a = some (dObj q vs) := h3
    rw [e] at h3'
    cases q <;> cases h3'
theorem StOk.setCell (k : StOk K mg μ st hid H) {n : Nat} {c c' : Cel} {p : Addr} {o : HO} (h0 : μ[n]? = some p) (h1 : st[n]? = some c) (l : c.live = true) (l' : c'.live = true) (q : CelOk K mg (Fz μ st hid H) μ (upd H p o) p c') (hu : c.unl = true := by rfl) :
    StOk K mg μ (st.set n c') hid (upd H p o) ∧ Grow hid μ st H μ (st.set n c') (upd H p o) := by
  obtain ⟨k1, e, hh⟩ := k.setCell0 h0 h1 l l' q
  have nf := unl_nf (k.ok n p c h0 h1) hu
  exact ⟨k1, ⟨.refl _, by rw [e]; exact .refl _, fun a ha => upd_ne fun z => hh (z ▸ ha), fun a o' u h => by
    have ne : a ≠ p := fun z => nf o' u (by rw [← z]; exact h)
    rw [upd_ne ne]; exact h⟩⟩
/-- a new cell -/
theorem StOk.newCell (k : StOk K mg μ st hid H) {c : Cel} {p : Addr} {o : HO} (hp : H p = none) (lc : c.live = true) (q : CelOk K mg (Fz μ st hid H) (μ ++ [p]) (upd H p o) p c) :
    StOk K mg (μ ++ [p]) (st ++ [c]) hid (upd H p o) ∧ Grow hid μ st H (μ ++ [p]) (st ++ [c]) (upd H p o) := by
  have nl := k.notLive hp
  have lv : ∀ a, LiveA (μ ++ [p]) (st ++ [c]) hid a ↔ a = p ∨ LiveA μ st hid a := fun a => by
    unfold LiveA
    constructor
    · rintro (h | ⟨m, d, e1, e2, e3⟩)
      · exact .inr (.inl h)
      · by_cases z : m < st.length
        · rw [List.getElem?_append_left (by rw [k.len]; exact z)] at e1
          rw [List.getElem?_append_left z] at e2
          exact .inr (.inr ⟨m, d, e1, e2, e3⟩)
        · by_cases y : m = st.length
          · subst y
            rw [List.getElem?_append_right (by rw [k.len]; exact Nat.le_refl _), k.len] at e1
            simp at e1
            exact .inl e1.symm
          · rw [List.getElem?_append_right (by omega)] at e2
            rw [List.getElem?_eq_none (by simp; omega)] at e2; cases e2
    · rintro (h | h | ⟨m, d, e1, e2, e3⟩)
      · subst h
        exact .inr ⟨st.length, c, by rw [List.getElem?_append_right (by rw [k.len]; exact Nat.le_refl _), k.len]; simp, by simp, lc⟩
      · exact .inl h
      · have z : m < st.length := by
          rcases Nat.lt_or_ge m st.length with q | q
          · exact q
          · rw [List.getElem?_eq_none q] at e2; cases e2
        exact .inr ⟨m, d, by rw [List.getElem?_append_left (by rw [k.len]; exact z)]; exact e1, by rw [List.getElem?_append_left z]; exact e2, e3⟩
  have e : Fz (μ ++ [p]) (st ++ [c]) hid (upd H p o) = Fz μ st hid H := by
    funext a
    by_cases h : LiveA μ st hid a
    · unfold Fz; rw [if_pos h, if_pos ((lv a).mpr (.inr h))]
    · by_cases z : a = p
      · subst z
        unfold Fz; rw [if_neg h, if_pos ((lv a).mpr (.inl rfl)), hp]
      · unfold Fz; rw [if_neg h, if_neg (fun y => ((lv a).mp y).elim z h), upd_ne z]
  have pre : Pre μ (μ ++ [p]) := ⟨[p], rfl⟩
  have spl : ∀ {m : Nat} {a : Addr} {d : Cel}, (μ ++ [p])[m]? = some a → (st ++ [c])[m]? = some d → (m < st.length ∧ μ[m]? = some a ∧ st[m]? = some d) ∨ (m = st.length ∧ a = p ∧ d = c) := fun {m a d} e1 e2 => by
    by_cases z : m < st.length
    · rw [List.getElem?_append_left (by rw [k.len]; exact z)] at e1
      rw [List.getElem?_append_left z] at e2
      exact .inl ⟨z, e1, e2⟩
    · by_cases y : m = st.length
      · subst y
        rw [List.getElem?_append_right (by rw [k.len]; exact Nat.le_refl _), k.len] at e1
        rw [List.getElem?_append_right (Nat.le_refl _)] at e2
        simp at e1 e2
        exact .inr ⟨rfl, e1.symm, e2.symm⟩
      · rw [List.getElem?_append_right (by omega)] at e2
        rw [List.getElem?_eq_none (by simp; omega)] at e2; cases e2
  have np : ∀ {m : Nat} {a : Addr} {d : Cel}, μ[m]? = some a → st[m]? = some d → d.live = true → a ≠ p := fun {m a d} e1 e2 e3 z => by
    obtain ⟨u, y⟩ := (k.ok m a d e1 e2).there e3
    rw [z, hp] at y; cases y
  refine ⟨⟨by simp [k.len], fun i j a d d' h2 h3 h4 h4' h5 h5' => ?_, fun j a d h2 h3 h4 => ?_, fun a ha => ?_, fun j a d h2 h3 => ?_⟩, ⟨pre, by rw [e]; exact .refl _, fun a ha => upd_ne fun z => (k.hidt a ha).1 (z ▸ hp), fun a o' u h => by rw [upd_ne (ne_of_none h hp)]; exact h⟩⟩
  · rcases spl h2 h4 with ⟨y1, y2, y3⟩ | ⟨y1, y2, y3⟩ <;> rcases spl h3 h4' with ⟨z1, z2, z3⟩ | ⟨z1, z2, z3⟩
    · exact k.inj i j a d d' y2 z2 y3 z3 h5 h5'
    · exact absurd z2 (np y2 y3 h5)
    · exact absurd y2 (np z2 z3 h5')
    · omega
  · rcases spl h2 h3 with ⟨y1, y2, y3⟩ | ⟨y1, y2, y3⟩
    · exact k.hidn j a d y2 y3 h4
    · subst y2; exact fun z => (k.hidt a z).1 hp
  · have hne : a ≠ p := fun z => (k.hidt a ha).1 (z ▸ hp)
    rw [upd_ne hne]; exact k.hidt a ha
  · rw [e]
    rcases spl h2 h3 with ⟨y1, y2, y3⟩ | ⟨y1, y2, y3⟩
    · exact ((k.ok j a d y2 y3).le (.refl _) pre).of_eq fun l => upd_ne (np y2 y3 l)
    · subst y2 y3; exact q
end
end SL

namespace SL
open PySem PySem.Spec PyProof.Rows L2

inductive SOut where
  | nx (fr : Fr) (st : Sto) | rt (w : W) (st : Sto) | bk (fr : Fr) (st : Sto) | ct (fr : Fr) (st : Sto) | er (x : Exc) (fr : Fr) (st : Sto) | bad
abbrev SSem := Fr → Sto → SOut
def Out.stm {α : Type} (o : Out α) (fr : Fr) (f : α → Sto → SOut) : SOut := match o with
  | .ok a st => f a st
  | .err x st => .er x fr st
  | .bad => .bad
@[simp] theorem Out.stm_ok {α : Type} (a : α) (st : Sto) (fr : Fr) (f : α → Sto → SOut) : (Out.ok a st).stm fr f = f a st := rfl
@[simp] theorem Out.stm_err {α : Type} (x : Exc) (st : Sto) (fr : Fr) (f : α → Sto → SOut) : (Out.err x st).stm fr f = .er x fr st := rfl
@[simp] theorem Out.stm_bad {α : Type} (fr : Fr) (f : α → Sto → SOut) : (Out.bad).stm fr f = .bad := rfl
def SPost (K : PySem.W.Frag) (mg : Str → Option Value) (Wx : Wish) (hid μ : List Addr) (st : Sto) (H : Hp) (D : Ends) : SOut → Prop
  | .nx fr' st' => ∀ μ' σ' H', SI K mg Wx μ' st' hid fr' σ' H' → Grow hid μ st H μ' st' H' → D.nx σ' H'
  | .rt w st' => ∀ μ' H' v, StOk K mg μ' st' hid H' → Grow hid μ st H μ' st' H' → Rep K mg (Fz μ' st' hid H') μ' w v → D.rt v H'
  | .bk fr' st' => ∀ μ' σ' H', SI K mg Wx μ' st' hid fr' σ' H' → Grow hid μ st H μ' st' H' → D.bk σ' H'
  | .ct fr' st' => ∀ μ' σ' H', SI K mg Wx μ' st' hid fr' σ' H' → Grow hid μ st H μ' st' H' → D.ct σ' H'
  | .er x fr' st' => ∀ μ' σ' H' c d, SI K mg Wx μ' st' hid fr' σ' H' → Grow hid μ st H μ' st' H' → XRep K mg (Fz μ' st' hid H') μ' x c d → Wx.w c d σ' H'
  | .bad => False
theorem SPost.from {K : PySem.W.Frag} {mg : Str → Option Value} {Wx : Wish} {hid μ μ' : List Addr} {st st' : Sto} {H H' : Hp} {D : Ends} {o : SOut} (x : Grow hid μ st H μ' st' H') (h : SPost K mg Wx hid μ st H D o) : SPost K mg Wx hid μ' st' H' D o := by
  cases o with
  | nx fr s => exact fun μ2 σ2 H2 a b => h μ2 σ2 H2 a (x.trans b)
  | rt w s => exact fun μ2 H2 v a b c => h μ2 H2 v a (x.trans b) c
  | bk fr s => exact fun μ2 σ2 H2 a b => h μ2 σ2 H2 a (x.trans b)
  | ct fr s => exact fun μ2 σ2 H2 a b => h μ2 σ2 H2 a (x.trans b)
  | er e fr s => exact fun μ2 σ2 H2 c d a b r => h μ2 σ2 H2 c d a (x.trans b) r
  | bad => exact h
def tS (K : PySem.W.Frag) (mg : Str → Option Value) (Wx : Wish) (f : SSem) : TS := fun D σ H => ∃ μ st hid fr, SI K mg Wx μ st hid fr σ H ∧ SPost K mg Wx hid μ st H D (f fr st)
abbrev SV (X : Cx) (Wx : Wish) (s : Stmt) (f : SSem) : Prop := PS X s (tS X.K X.mg Wx f)
abbrev BV (X : Cx) (Wx : Wish) (s : List Stmt) (f : SSem) : Prop := PSs X s (tS X.K X.mg Wx f)
section
variable {X : Cx} {Wx : Wish}
/-! ## blocks -/
def sNil : SSem := fun fr st => .nx fr st
def sSeq (f g : SSem) : SSem := fun fr st => match f fr st with
  | .nx fr1 st1 => g fr1 st1
  | o => o
theorem bv_nil : BV X Wx [] sNil := PSsm pss_nil fun D σ H ⟨μ, st, hid, fr, S, P⟩ => P μ σ H S .refl
theorem bv_cons {s : Stmt} {r : List Stmt} {f g : SSem} (h1 : SV X Wx s f) (h2 : BV X Wx r g) : BV X Wx (s :: r) (sSeq f g) := PSsm (pss_cons h1 h2) fun D σ H ⟨μ, st, hid, fr, S, P⟩ => by
  refine ⟨μ, st, hid, fr, S, ?_⟩
  unfold sSeq at P
  cases h : f fr st with
  | nx fr1 st1 =>
    rw [h] at P
    exact fun μ1 σ1 H1 S1 g1 => ⟨μ1, st1, hid, fr1, S1, SPost.from g1 P⟩
  | rt w s => rw [h] at P; exact P
  | bk fr s => rw [h] at P; exact P
  | ct fr s => rw [h] at P; exact P
  | er e fr s => rw [h] at P; exact P
  | bad => rw [h] at P; exact P
theorem bv_one {s : Stmt} {f : SSem} (h : SV X Wx s f) : BV X Wx [s] f := pss_one h
/-- an expression, then what follows -/
theorem stm_read {f : Sem} {k : W → Sto → SOut} {t : VK → VK} {hid μ : List Addr} {st : Sto} {fr : Fr} {σ : L2.St} {H : Hp} {D : Ends} {Q : VK} (S : SI X.K X.mg Wx μ st hid fr σ H) (P : SPost X.K X.mg Wx hid μ st H D ((f fr st).stm fr k))
    (h : ∀ w st1 μ1 H1 v, SI X.K X.mg Wx μ1 st1 hid fr σ H1 → Grow hid μ st H μ1 st1 H1 → Rep X.K X.mg (Fz μ1 st1 hid H1) μ1 w v → SPost X.K X.mg Wx hid μ1 st1 H1 D (k w st1) → Q v H1) : tE X.K X.mg Wx f σ H Q := by
  refine ⟨μ, st, hid, fr, S, ?_⟩
  cases e : f fr st with
  | bad => rw [e] at P; exact P
  | err x s => rw [e] at P; exact fun μ1 H1 c d k1 g1 xr => P μ1 σ H1 c d (S.next k1 g1) g1 xr
  | ok w st1 =>
    rw [e, Out.stm_ok] at P
    exact fun μ1 H1 v k1 g1 r1 => h w st1 μ1 H1 v (S.next k1 g1) g1 r1 (SPost.from g1 P)
def sExp (f : Sem) : SSem := fun fr st => (f fr st).stm fr fun _ st1 => .nx fr st1
theorem sv_expr {e : Expr} {f : Sem} {pos : Pos} (he : EV X Wx e f) (hs : swapsWith e none pos.line X.env = pure false := by rfl) : SV X Wx (.Expr e pos) (sExp f) := PSm (ps_expr he hs) fun D σ H ⟨μ, st, hid, fr, S, P⟩ => by
  exact stm_read (t := id) S P fun w st1 μ1 H1 v S1 g1 r1 P1 => P1 μ1 σ H1 S1 .refl
def sRet (f : Sem) : SSem := fun fr st => (f fr st).stm fr fun w st1 => .rt w st1
theorem sv_ret {e : Expr} {f : Sem} {pos : Pos} (he : EV X Wx e f) : SV X Wx (.Return (some e) pos) (sRet f) := PSm (ps_ret he) fun D σ H ⟨μ, st, hid, fr, S, P⟩ => by
  exact stm_read (t := id) S P fun w st1 μ1 H1 v S1 g1 r1 P1 => P1 μ1 H1 v S1.sto .refl r1
def sAsg (f : Sem) (g : TgF) : SSem := fun fr st => (f fr st).stm fr fun w st1 => match g w fr st1 with
  | some fr1 => .nx fr1 st1
  | none => .bad
/-- name = value -/
theorem sv_set {i : Nat} {x : Str} {e : Expr} {f : Sem} {pos pos' : Pos} (hN : X.N.Nodup) (he : EV X Wx e f) (hi : X.N[i]? = some x := by rfl) (hx : Loc X.env.scope x := by first | exact Or.inl rfl | exact Or.inr rfl) (hs : swapsWith e (some (.Name x pos')) pos.line X.env = pure false := by rfl)
    (hf : X.fn x = true ∨ X.env.scope.names.lookup x = some .local := by first | exact .inl rfl | exact .inr rfl) (hk : i ∉ Wx.lock := by first | exact List.not_mem_nil | decide) : SV X Wx (.Assign [.Name x pos'] e pos) (sAsg f (gNm i)) := PSm (ps_set hN hi hx he hs hf) fun D σ H ⟨μ, st, hid, fr, S, P⟩ => by
  refine stm_read (t := id) S P fun w st1 μ1 H1 v S1 g1 r1 P1 => ?_
  exact P1 μ1 _ H1 (S1.set i hk r1) .refl
/-- name = [..] -/
theorem sv_setLcG {fin : LFin} (hf : FinOk X.K X.mg fin) {i : Nat} {y : Str} {py : Pos} {elt tg iter : Expr} {ifs : List Expr} {scope : Scope} {own : List (Str × Nat)} {pos spos : Pos} {f : SemI} {g : TgF} {sl : List Nat} {t : SemB} {e : Sem} (hc : X.calm = true) (hN : X.N.Nodup) (hi : IV X Wx tg iter f) (ok : blkC X.N X.env.scope scope own = true)
    (hsl : ∀ i ∈ sl, i ∈ own.map (·.2)) (hlk : ∀ i ∈ Wx.lock, i ∉ own.map (·.2))
    (hg : ∀ (s : Shared) (H : Hp) (C : Addr) (cl : List (Str × Addr)) (fp : List Addr), GV (X.blk s H scope (compEnvC scope cl C X.env) fp) Wx.blk tg g sl)
    (ht : ∀ (s : Shared) (H : Hp) (C : Addr) (cl : List (Str × Addr)) (fp : List Addr), PTs (X.blk s H scope (compEnvC scope cl C X.env) fp) ifs (tB' X.K X.mg Wx.blk t))
    (he : ∀ (s : Shared) (H : Hp) (C : Addr) (cl : List (Str × Addr)) (fp : List Addr), EV (X.blk s H scope (compEnvC scope cl C X.env) fp) Wx.blk elt e)
    (hsw : swapsWith (.ListComp elt [⟨tg, iter, ifs, 0⟩] scope pos) (some (.Name y py)) spos.line X.env = pure true) (hy : X.N[i]? = some y := by rfl) (hyl : X.env.scope.names.lookup y = some .local := by rfl) (hs : ∀ x, foldedSetIterable iter X.env x = pure x := by intro _; rfl) (hk : i ∉ Wx.lock := by first | exact List.not_mem_nil | decide) :
    SV X Wx (.Assign [.Name y py] (.ListComp elt [⟨tg, iter, ifs, 0⟩] scope pos) spos) (sAsg (eLcG fin f g (own.map (·.2)) t e) (gNm i)) :=
  PSm (ps_setLc hc hN hy hyl hsw hi (blkOk_by ok) hg ht he hs) fun D σ H ⟨μ, st, hid, fr, S, P⟩ => by
    refine lc_read hf hsl hlk σ H _ (stm_read (t := id) S P fun w st1 μ1 H1 v S1 g1 r1 P1 => ?_)
    exact P1 μ1 _ H1 (S1.set i hk r1) .refl
/-! ## if, for, while -/
def sIf (c : SemB) (f g : SSem) : SSem := fun fr st => (c fr st).stm fr fun b st1 => if b = true then f fr st1 else g fr st1
theorem sv_if {c : Expr} {a b : List Stmt} {fc : SemB} {f g : SSem} {pos : Pos} (hc : TV X Wx c fc) (ha : BV X Wx a f) (hb : BV X Wx b g) : SV X Wx (.If c a b pos) (sIf fc f g) := PSm (ps_if hc ha hb) fun D σ H ⟨μ, st, hid, fr, S, P⟩ => by
  refine ⟨μ, st, hid, fr, S, ?_⟩
  unfold sIf at P
  cases h : fc fr st with
  | bad => rw [h] at P; exact P
  | err x s => rw [h] at P; exact fun μ1 H1 c d k1 g1 xr => P μ1 σ H1 c d (S.next k1 g1) g1 xr
  | ok b st1 =>
    rw [h, Out.stm_ok] at P
    intro μ1 H1 k1 g1
    cases b with
    | true => exact iteT ⟨μ1, st1, hid, fr, S.next k1 g1, SPost.from g1 (by simpa using P)⟩
    | false => exact iteF ⟨μ1, st1, hid, fr, S.next k1 g1, SPost.from g1 (by simpa using P)⟩
open Classical in
noncomputable def forRun (x : W) (all : List W) (g : TgF) (b : SSem) : List W → Fr → Sto → SOut
  | [], fr, st => if srcOk x all st then .nx fr st else .bad
  | w :: r, fr, st => if srcOk x all st then (match g w fr st with
    | some fr1 => match b fr1 st with
      | .nx fr2 st2 => forRun x all g b r fr2 st2
      | .ct fr2 st2 => forRun x all g b r fr2 st2
      | .bk fr2 st2 => .nx fr2 st2
      | .rt u st2 => .rt u st2
      | .er e fr2 st2 => .er e fr2 st2
      | .bad => .bad
    | none => .bad) else .bad
noncomputable def sFor (f : SemI) (g : TgF) (b : SSem) : SSem := fun fr st => (f fr st).stm fr fun p st1 => forRun p.1 p.2 g b p.2 fr st1
theorem for_read {f : SemI} {g : TgF} {sl : List Nat} {b : SSem} : ∀ D σ H, tS X.K X.mg Wx (sFor f g b) D σ H → tFor (tI X.K X.mg Wx f) (tG X.K X.mg Wx g sl) (tS X.K X.mg Wx b) D σ H := fun D σ H ⟨μ, st, hid, fr, S, P⟩ => by
  refine ⟨μ, st, hid, fr, S, ?_⟩
  unfold sFor at P
  cases h1 : f fr st with
  | bad => rw [h1] at P; exact P
  | err x s => rw [h1] at P; exact fun μ1 H1 c d k1 g1 xr => P μ1 σ H1 c d (S.next k1 g1) g1 xr
  | ok p st1 =>
    obtain ⟨x, all⟩ := p
    rw [h1, Out.stm_ok] at P
    intro μ1 H1 J k1 g1 ji
    have P1 := SPost.from g1 P
    simp only at P1
    refine ⟨fun i m σ H => m = all.length - i ∧ i ≤ all.length ∧ ∃ μ st fr, SI X.K X.mg Wx μ st hid fr σ H ∧ Grow hid μ1 st1 H1 μ st H ∧ SPost X.K X.mg Wx hid μ st H D (forRun x all g b (all.drop i) fr st),
      ⟨_, rfl, Nat.zero_le _, μ1, st1, fr, S.next k1 g1, .refl, P1⟩, ?_⟩
    rintro i m σ2 H2 ⟨rfl, hi, μ2, st2, fr2, S2, g2, P2⟩
    by_cases hlt : i < all.length
    · rw [List.drop_eq_getElem_cons hlt, forRun] at P2
      split at P2
      · rename_i hs
        refine .inr ⟨ji.go _ _ _ _ i S2.sto g2.le g2.pre g2.lck hs hlt, fun σ H => ∃ μ st fr, SI X.K X.mg Wx μ st hid fr σ H ∧ Grow hid μ1 st1 H1 μ st H ∧ SPost X.K X.mg Wx hid μ st H D (forRun x all g b (all.drop (i + 1)) fr st),
          fun σ' H' q => ⟨_, by omega, rfl, hlt, q⟩, fun v H3 hy => ?_⟩
        obtain ⟨k3, g3, w, hw, rw_⟩ := ji.yld _ _ _ _ i v H3 S2.sto g2.le g2.pre g2.lck hs hlt hy
        have ew : all[i] = w := by
          rw [List.getElem?_eq_getElem hlt] at hw; exact Option.some.inj hw
        rw [ew] at P2
        cases e3 : g w fr2 st2 with
        | none => rw [e3] at P2; exact P2.elim
        | some fr3 =>
          rw [e3] at P2
          simp only at P2
          have P3 := SPost.from g3 P2
          refine ⟨μ2, st2, hid, fr2, w, fr3, S2.next k3 g3, rw_, e3, fun σ3 S3 _ => ⟨μ2, st2, hid, fr3, S3, ?_⟩⟩
          cases e4 : b fr3 st2 with
          | bad => rw [e4] at P3; exact P3
          | er e fr s => rw [e4] at P3; exact P3
          | rt w s => rw [e4] at P3; exact P3
          | bk fr s => rw [e4] at P3; exact P3
          | nx fr4 st4 => rw [e4] at P3; exact fun μ4 σ4 H4 S4 g4 => ⟨μ4, st4, fr4, S4, (g2.trans g3).trans g4, SPost.from g4 P3⟩
          | ct fr4 st4 => rw [e4] at P3; exact fun μ4 σ4 H4 S4 g4 => ⟨μ4, st4, fr4, S4, (g2.trans g3).trans g4, SPost.from g4 P3⟩
      · exact P2.elim
    · have hi2 : i = all.length := by omega
      subst hi2
      rw [List.drop_length, forRun] at P2
      split at P2
      · rename_i hs
        exact .inl ⟨ji.stop _ _ _ _ _ S2.sto g2.le g2.pre g2.lck hs (Nat.le_refl _), P2 μ2 σ2 H2 S2 .refl⟩
      · exact P2.elim
theorem sv_for {k : Nat} {tg iter : Expr} {body : List Stmt} {f : SemI} {g : TgF} {sl : List Nat} {b : SSem} {pos : Pos} (C : Ctx X Wx k) (hi : IV X Wx tg iter f) (hg : GV X Wx tg g sl) (hb : BV X Wx body b) (hs : ∀ x, foldedSetIterable iter X.env x = pure x := by intro _; rfl) :
    SV X Wx (.For tg iter body [] pos) (sFor f g b) := PSm (ps_for C.hp C.calm hi hg hb hs) for_read
/-! ## a[i] = e -/
abbrev Op3 := W → W → W → Sto → Option Sto
def Op3S (X : Cx) (op : Op3) (t : TSet) : Prop := ∀ (hid μ : List Addr) (st st' : Sto) (H : Hp) (Q : Hp → Prop) (o i w : W) (ov iv v : V), StOk X.K X.mg μ st hid H → Rep X.K X.mg (Fz μ st hid H) μ o ov → Rep X.K X.mg (Fz μ st hid H) μ i iv → Rep X.K X.mg (Fz μ st hid H) μ w v →
  op o i w st = some st' → (∀ μ' H', StOk X.K X.mg μ' st' hid H' → Grow hid μ st H μ' st' H' → Q H') → t ov iv v H Q
def sSub (op : Op3) (f fo fi : Sem) : SSem := fun fr st => (f fr st).stm fr fun w st1 => (fo fr st1).stm fr fun o st2 => (fi fr st2).stm fr fun i st3 => match op o i w st3 with
  | some st4 => .nx fr st4
  | none => .bad
theorem sv_sub {o i e : Expr} {op : Op3} {t : TSet} {f fo fi : Sem} {pos tpos : Pos} (hp : PSet X t) (hs : Op3S X op t) (he : EV X Wx e f) (ho : EV X Wx o fo) (hi : EV X Wx i fi)
    (ha : ∀ v, assign (.Subscript o i tpos) X.env v = (do
      let ov ← holding [v] (eval o X.env)
      let iv ← holding [v, ov] (eval i X.env)
      standAt tpos
      holding [v, ov, iv] (setItem ov iv v)
      release [v, ov, iv] []) := by intro _; rfl)
    (hs1 : swapsWithSole [.Subscript o i tpos] e pos.line X.env = pure false := by rfl) (hw : swappedStores [.Subscript o i tpos] e X.env = pure none := by rfl) (h1 : (assignEach [.Subscript o i tpos] X.env).map (·.2) = [assign (.Subscript o i tpos) X.env] := by rfl) :
    SV X Wx (.Assign [.Subscript o i tpos] e pos) (sSub op f fo fi) := PSm (ps_asg he (pg_sub ho hi hp ha) hs1 hw h1) fun D σ H ⟨μ, st, hid, fr, S, P⟩ => by
  refine stm_read (t := id) S P fun w st1 μ1 H1 v S1 g1 r1 P1 => ?_
  refine stm_read (t := id) S1 P1 fun o st2 μ2 H2 ov S2 g2 r2 P2 => ?_
  refine stm_read (t := id) S2 P2 fun i st3 μ3 H3 iv S3 g3 r3 P3 => ?_
  split at P3
  · rename_i st4 e4
    exact hs hid μ3 st3 st4 H3 _ o i w ov iv v S3.sto (Rep.mono g3.le g3.pre _ _ r2) r3 (Rep.mono (g2.trans g3).le (g2.trans g3).pre _ _ r1) e4 fun μ4 H4 k4 g4 => P3 μ4 σ H4 (S3.next k4 g4) g4
  · exact P3.elim
/-- a list's cell -/
def uLst : Op3 := fun o i w st => match o, i with
  | .cell k, .int j => match st[k]? with
    | some (.lst ws) => (ixN ws.length j).map fun n => st.set k (.lst (ws.set n w))
    | _ => none
  | _, _ => none
theorem os_setL : Op3S X uLst rSetL := by
  intro hid μ st st' H Q o i w ov iv v k ro ri rw_ e q
  unfold uLst at e
  split at e
  · rename_i n j
    cases rep_int_inv ri
    split at e
    · rename_i ws e1
      obtain ⟨a, rfl, h1, vs, h2, h3⟩ := k.cell e1 ro
      cases e2 : ixN ws.length j with
      | none => rw [e2] at e; cases e
      | some m =>
        rw [e2] at e
        cases e
        refine ⟨a, vs, j, m, rfl, rfl, h2, by rw [← h3.length]; exact e2, ?_⟩
        obtain ⟨k2, g2⟩ := k.setCell (c' := .lst (ws.set m w)) (o := .lst (vs.set m v)) h1 e1 rfl rfl ⟨_, upd_same, h3.set m rw_⟩
        exact q _ _ k2 g2
    · cases e
  · cases e

/-! ## methods of lists -/
abbrev OpM := W → List W → Sto → Out W
def OpMS (X : Cx) (op : OpM) (r : V → List V → Hp → VK → Prop) : Prop := ∀ (Wx : WX) (hid μ : List Addr) (st : Sto) (σ : L2.St) (H : Hp) (Q : VK) (w : W) (ws : List W) (x : V) (vs : List V), StOk X.K X.mg μ st hid H → Rep X.K X.mg (Fz μ st hid H) μ w x → Reps X.K X.mg (Fz μ st hid H) μ ws vs →
  EPost X.K X.mg Wx hid μ st σ H Q (op w ws st) → r x vs H Q
/-- what a method's receiver must be -/
def isLst (st : Sto) (w : W) : Bool := (lstW st w).isSome
def eM (ty : Sto → W → Bool) (op : OpM) (f : Sem) (g : SemL) : Sem := fun fr st => (f fr st).bind fun w st1 => if ty st1 w = true then (g fr st1).bind fun ws st2 => op w ws st2 else .bad
theorem eM_read {T : String} {ty : Sto → W → Bool} {op : OpM} {r : V → List V → Hp → VK → Prop} {f : Sem} {g : SemL} (ht : ∀ (hid μ : List Addr) (st : Sto) (H : Hp) (w : W) (v : V), StOk X.K X.mg μ st hid H → Rep X.K X.mg (Fz μ st hid H) μ w v → ty st w = true → tyV X.K T v H) (hs : OpMS X op r) :
    ∀ σ H Q, tE X.K X.mg Wx (eM ty op f g) σ H Q → tBM X.K T r (tE X.K X.mg Wx f) (tA X.K X.mg Wx g) σ H Q := fun σ H Q ⟨μ, st, hid, fr, S, P⟩ => by
  refine ⟨μ, st, hid, fr, S, ?_⟩
  unfold eM at P
  cases h : f fr st with
  | bad => rw [h] at P; exact P
  | err x s => rw [h] at P; exact P
  | ok w st1 =>
    rw [h, Out.bind_ok] at P
    intro μ1 H1 v k1 g1 r1
    have P1 := EPost.from g1 P
    split at P1
    · rename_i hty
      refine ⟨ht hid μ1 st1 H1 w v k1 r1 hty, μ1, st1, hid, fr, S.next k1 g1, ?_⟩
      cases h2 : g fr st1 with
      | bad => rw [h2] at P1; exact P1
      | err x s => rw [h2] at P1; exact P1
      | ok ws st2 =>
        rw [h2, Out.bind_ok] at P1
        intro μ2 H2 vs k2 g2 r2
        exact hs Wx.w hid μ2 st2 σ H2 Q w ws v vs k2 (Rep.mono g2.le g2.pre _ _ r1) r2 (EPost.from g2 P1)
    · exact P1.elim
theorem ty_lst : ∀ (hid μ : List Addr) (st : Sto) (H : Hp) (w : W) (v : V), StOk X.K X.mg μ st hid H → Rep X.K X.mg (Fz μ st hid H) μ w v → isLst st w = true → tyV X.K "list" v H := fun hid μ st H w v k r h => by
  unfold isLst at h
  cases e : lstW st w with
  | none => rw [e] at h; cases h
  | some ws =>
    obtain ⟨a, vs, rfl, h1, _⟩ := lstW_at k e r
    exact .inl ⟨rfl, vs, h1⟩
def mAppend : OpM := fun x ws st => match x, ws with
  | .cell k, [w] => match st[k]? with
    | some (.lst us) => if us.length < LINE then .ok .non (st.set k (.lst (us ++ [w]))) else .bad
    | _ => .bad
  | _, _ => .bad
theorem os_append : OpMS X mAppend rAppend := by
  intro Wx hid μ st σ H Q w ws x vs k rx rs P
  unfold mAppend at P
  split at P
  · obtain ⟨v, rfl, r1⟩ := reps1 (ws := []) rs
    split at P
    · rename_i us e1
      split at P
      · rename_i hz
        obtain ⟨a, rfl, h1, zs, h2, h3⟩ := k.cell e1 rx
        refine ⟨a, zs, v, rfl, rfl, h2, by rw [← h3.length, sizeLine_eq]; exact hz, ?_⟩
        obtain ⟨k2, g2⟩ := k.setCell (c' := .lst (us ++ [_])) (o := .lst (zs ++ [v])) h1 e1 rfl rfl ⟨_, upd_same, h3.append (.cons r1 .nil)⟩
        exact P μ _ _ k2 g2 rep_non
      · exact P.elim
    · exact P.elim
  · exact P.elim
def mInsert : OpM := fun x ws st => match x, ws with
  | .cell k, [.int i, w] => match st[k]? with
    | some (.lst us) => if us.length < LINE ∧ 0 ≤ i ∧ i < 2 ^ 63 then .ok .non (st.set k (.lst (us.take i.toNat ++ [w] ++ us.drop i.toNat))) else .bad
    | _ => .bad
  | _, _ => .bad
theorem os_insert : OpMS X mInsert (fun x vs H Q => ∃ (l : Addr) (xs : List V) (i : Int) (y : V), x = .ref l ∧ vs = [.int i, y] ∧ H l = some (.lst xs) ∧ xs.length < sizeLine ∧ 0 ≤ i ∧ i < 2 ^ 63 ∧ Q .non (upd H l (.lst (xs.take i.toNat ++ [y] ++ xs.drop i.toNat)))) := by
  intro Wx hid μ st σ H Q w ws x vs k rx rs P
  unfold mInsert at P
  split at P
  · obtain ⟨v, y, rfl, r0, r1⟩ := reps2 rs
    cases rep_int_inv r0
    split at P
    · rename_i us e1
      split at P
      · rename_i hz
        obtain ⟨a, rfl, h1, zs, h2, h3⟩ := k.cell e1 rx
        refine ⟨a, zs, _, y, rfl, rfl, h2, by rw [← h3.length, sizeLine_eq]; exact hz.1, hz.2.1, hz.2.2, ?_⟩
        obtain ⟨k2, g2⟩ := k.setCell (c' := .lst (us.take _ ++ [_] ++ us.drop _)) (o := .lst (zs.take _ ++ [y] ++ zs.drop _)) h1 e1 rfl rfl ⟨_, upd_same, ((h3.take _).append (.cons r1 .nil)).append (h3.drop _)⟩
        exact P μ _ _ k2 g2 rep_non
      · exact P.elim
    · exact P.elim
  · exact P.elim
/-- a display that is to change: a new cell -/
def oCell : OpN := fun ws st => if small ws = true then .ok (.cell st.length) (st ++ [.lst ws]) else .bad
theorem ev_lstC {es : List Expr} {f : SemL} {pos : Pos} (h : AV X Wx es f) : EV X Wx (.List es pos) (eN oCell f) := PEm (pe_lst h) fun σ H Q P => by
  refine eN_read (r := fun vs H1 Q => vs.length ≤ sizeLine ∧ ∀ p, H1 p = none → Q (.ref p) (upd H1 p (.lst vs))) ?_ σ H Q P
  intro Wx hid μ st σ H Q ws vs k r P
  unfold oCell at P
  split at P
  · rename_i hs
    refine ⟨small_line hs r, fun p hp => ?_⟩
    obtain ⟨k2, g2⟩ := k.newCell (c := .lst ws) (o := .lst vs) hp rfl ⟨vs, upd_same, r.mono (.refl _) ⟨[p], rfl⟩⟩
    refine P _ _ _ k2 g2 ?_
    unfold Rep
    exact ⟨p, by rw [← k.len]; simp, rfl⟩
  · exact P.elim
end
end SL

namespace SL
open PySem PySem.Spec PyProof.Rows L2

/-! ## several except clauses, with and without a name -/
abbrev Hnd := Value × Option Nat × (Addr → Value → Option Addr → TS)
def clr (sl : Option Nat) (D : Ends) : Ends := match sl with
  | none => D
  | some i => { nx := fun σ H => D.nx (σ.set i none) H, rt := D.rt, bk := fun σ H => D.bk (σ.set i none) H, ct := fun σ H => D.ct (σ.set i none) H }
def stoE (sl : Option Nat) (σ : L2.St) (a : Addr) : L2.St := match sl with
  | none => σ
  | some i => σ.set i (some (.ref a))
def wGen (K : PySem.W.Frag) (Wo : WX) (D : Ends) : List Hnd → WX
  | [] => Wo
  | (c, sl, ts) :: r => fun cls d σ H => ∃ b, PySem.W.exmOne K cls c = some b ∧ (b = true → ∀ a, H a = none → ts a cls d (clr sl D) (stoE sl σ a) H) ∧ (b = false → wGen K Wo D r cls d σ H)
def SuiteOk (X : Cx) (ss : List Stmt) (ts : Addr → Value → Option Addr → TS) : Prop := ∀ (a : Addr) (ob : Obj) (cls : Value) (d : Option Addr) (pl : List (Addr × Obj)), Zc cls d ob → (∃ vs, ob.data = .fields vs) → PSs (X.suite a ((a, ob) :: pl)) ss (ts a cls d)
inductive HdsG (X : Cx) : List ExceptHandler → List Hnd → Prop
  | nil : HdsG X [] []
  | one {x : Str} {c : Value} {ts : Addr → Value → Option Addr → TS} {s0 : Stmt} {ss : List Stmt} {p1 p2 : Pos} {hs : List ExceptHandler} {l : List Hnd} (hc : Names X x c) (hu : SuiteOk X (s0 :: ss) ts) (r : HdsG X hs l) :
      HdsG X (.ExceptHandler (some (.Name x p1)) none (s0 :: ss) p2 :: hs) ((c, none, ts) :: l)
  | as {x n : Str} {i : Nat} {c : Value} {ts : Addr → Value → Option Addr → TS} {s0 : Stmt} {ss : List Stmt} {p1 p2 : Pos} {hs : List ExceptHandler} {l : List Hnd} (hc : Names X x c) (hi : X.N[i]? = some n) (hl : X.env.kindOf n = some .local) (hu : SuiteOk X (s0 :: ss) ts) (r : HdsG X hs l) :
      HdsG X (.ExceptHandler (some (.Name x p1)) (some n) (s0 :: ss) p2 :: hs) ((c, some i, ts) :: l)
section
variable {X : Cx}
theorem ps_tryG {body : List Stmt} {g0 : ExceptHandler} {gs : List ExceptHandler} {l : List Hnd} {pos : Pos} {tb : WX → TS} {Wo : WX} (hN : X.N.Nodup) (hst : X.stack = X.env :: X.outer) (hfm : X.env.frame = some X.env.locals) (tk : Takes X Wo)
    (hb : ∀ (W : WX) (pl : List (Addr × Obj)) (xe : Value → Shared → Prop), Takes (X.tr pl xe) W → PassesOwn (model X.prog X.w) X.A X.env xe → PSs (X.tr pl xe) body (tb W))
    (hh : HdsG X (g0 :: gs) l) : PS X (.Try body (g0 :: gs) [] [] pos) (fun D σ H => tb (wGen X.K Wo D l) D σ H) := by
  refine ⟨fun pins s σ H D I0 hw => ?_⟩
  have ok := I0.ok
  have hfr : X.A.frames = some (X.env :: X.outer) := by rw [← hst]; exact ok.frames
  refine wpAny_Try_except (wpAny_mono ((hb (wGen X.K Wo D l) (X.pn ++ pins) _ (fun u s' hx => ?_) PassesOwn.looking).run [] s σ H D (I0.toTry _) hw) (fun f s1 hf => ?_) fun _ _ z => z)
  · obtain ⟨a, B, sI, pq, σ1, H1, cls, d, rfl, J0, nb, up, sky, na, os, ag, wi⟩ := hx
    have J1 : Inv X pins σ1 H1 sI := J0.ofTry ok
    have sky1 : Sky B (X.env :: X.outer) a (Zc cls d) X.env.locals s'.heap := by rw [← hst]; exact sky
    refine Sky.land Zc.steady hfr hfm sky1 fun h3 fl up3 => ?_
    have J3 : Inv X pins σ1 H1 { s' with heap := h3 } := J1.landed nb fl.1 (up.trans up3) os ag
    obtain ⟨ob, vs, hob, hz, hdt⟩ := fl.there
    have nfr : a ∉ frs (X.env :: X.outer) := fun hm => by
      obtain ⟨_, ob', e', hnf⟩ := fl.2.2.1.mem hm
      rw [hob] at e'; cases e'
      exact hnf _ hdt
    have nL : a ≠ X.env.locals := fun z => nfr (List.mem_filterMap.mpr ⟨X.env, List.mem_cons_self, by rw [hfm, z]⟩)
    have nF : a ∉ X.fs := fun hm => by
      obtain ⟨e, he, q⟩ := List.mem_filterMap.mp hm
      exact nfr (List.mem_filterMap.mpr ⟨e, List.mem_cons_of_mem _ he, q⟩)
    have S3 := J3.suite hob hdt na nL nF
    -- the class's test
    have tst : ∀ {x : Str} {c : Value} {p : Pos} {Q : Value → Shared → Prop} {E : Value → Shared → Prop}, Names X x c → Q c { s' with heap := h3 } → wpAny (model X.prog X.w) (X.A.mark (some (.ref a))) (eval (.Name x p) X.env) Q E { s' with heap := h3 } := fun {x c p Q E} hc q => by
      obtain ⟨hg, hdb, hm | ⟨hm, hv, hnn⟩⟩ := hc
      · exact ld_glob (X := X.suite a ((a, ob) :: (X.pn ++ pins))) S3 hg hm q hdb
      · exact ld_blt (X := X.suite a ((a, ob) :: (X.pn ++ pins))) S3 hg hm hv q hnn hdb
    have lty : PySem.W.Looks (model X.prog X.w) h3 (typeOf (.ref a)) cls := fun A Q E s k q => wpAny_typeOf_ref (k _ _ hob) (by rw [hz.1]; exact q)
    -- the suite lands
    have lnd : ∀ {Q : Unit → Shared → Prop} {E : Value → Shared → Prop}, (∀ h4 ob4, Inv X pins σ1 H1 { s' with heap := h4 } → Zc cls d ob4 → (∃ vs, ob4.data = .fields vs) → Inv (X.suite a ((a, ob4) :: (X.pn ++ pins))) [] σ1 H1 { s' with heap := h4 } → Q () { s' with heap := h4 }) → wpAny (model X.prog X.w) (X.A.mark (some (.ref a))) (setFlight (.ref a) none) Q E { s' with heap := h3 } := fun {Q E} q => by
      refine HandSPX.lands_againZ fl fun h4 fl4 up4 => ?_
      have J4 : Inv X pins σ1 H1 { s' with heap := h4 } := J1.landed nb fl4.1 ((up.trans up3).trans up4) os ag
      obtain ⟨ob4, vs4, hob4, hz4, hdt4⟩ := fl4.there
      exact q h4 ob4 J4 hz4 ⟨_, hdt4⟩ (J4.suite hob4 hdt4 na nL nF)
    suffices go : ∀ {hs : List ExceptHandler} {l2 : List Hnd}, HdsG X hs l2 → wGen X.K Wo D l2 cls d σ1 H1 → wpAny (model X.prog X.w) X.A (handleBy (.ref a) X.env hs) (SP X pins D) X.xe { s' with heap := h3 } from go hh wi
    intro hs l2 hk
    induction hk with
    | nil =>
      intro wo
      refine wpAny_handleBy_nil ?_
      obtain ⟨_, _, _, ob2, us, T, _, _, e2, _, dt2, q1, _⟩ := id fl
      unfold PySem.passOn
      refine wpAny_bind (wpAny_field e2 dt2 q1 ?_)
      rw [if_neg (show ¬ ((Value.ref T == Value.none) = true) from by simp)]
      have fin : wpAny (model X.prog X.w) X.A (setFlight (.ref a) X.env.frame) (fun _ s4 => wpAny (model X.prog X.w) X.A (throw (Value.ref a) : PySem.Sem Flow) (SP X pins D) X.xe s4) X.xe { s' with heap := h3 } := by
        rw [hfm]
        exact HandSPX.setFlight_upZ fl fun h4 hd4 up4 => wpAny_throw (tk _ _ ⟨a, B, sI, pins, σ1, H1, cls, d, rfl, J1, nb, (up.trans up3).trans up4, .inr (.inr (by rw [hst]; exact hd4)), na, os, ag, wo⟩)
      first
        | exact wpAny_bind (wpAny_pure (wpAny_bind fin))
        | exact wpAny_bind fin
    | one hc hu r ih =>
      rintro ⟨b, hb1, yes, no⟩
      refine wpAny_handleBy_cons (codeAny_handlers_test ?_) (by intro q; cases q)
      refine tst hc ((PySem.W.exm_one (M := model X.prog X.w) J3.kIn lty hb1).here ?_)
      cases b with
      | false => exact ih (no rfl)
      | true =>
        refine codeAny_handlers_suite (lnd fun h4 ob4 J4 z4 d4 S4 => ?_)
        refine wpAny_mono ((hu a ob4 cls d (X.pn ++ pins) z4 d4).run [] _ _ H1 _ S4 (yes rfl a na)) (fun f s6 hf => ?_) (fun _ _ z => False.elim z)
        cases f with
        | next => obtain ⟨_, _, S6, q⟩ := hf; exact ⟨_, _, S6.unsuite ok, q⟩
        | brk => obtain ⟨_, _, S6, q⟩ := hf; exact ⟨_, _, S6.unsuite ok, q⟩
        | cont => obtain ⟨_, _, S6, q⟩ := hf; exact ⟨_, _, S6.unsuite ok, q⟩
        | ret u => obtain ⟨_, _, _, S6, rr, q⟩ := hf; exact ⟨_, _, _, S6.unsuite ok, rr, q⟩
    | @as x n i c ts s0 ss p1 p2 hs l2 hc hi hl hu r ih =>
      rintro ⟨b, hb1, yes, no⟩
      refine wpAny_handleBy_cons (codeAny_handlers_test ?_) (by intro q; cases q)
      refine tst hc ((PySem.W.exm_one (M := model X.prog X.w) J3.kIn lty hb1).here ?_)
      cases b with
      | false => exact ih (no rfl)
      | true =>
        refine codeAny_handlers_suite_as (lnd fun h4 ob4 J4 z4 d4 S4 => ?_)
        refine store_ok (X := X.suite a ((a, ob4) :: (X.pn ++ pins))) (v := .ref a) S4 hN hi (.inl hl) rfl (fun s5 S5 => ?_) (.inr hl)
        refine wpAny_mono ((hu a ob4 cls d (X.pn ++ pins) z4 d4).run [] s5 _ H1 _ S5 (yes rfl a na)) (fun f s6 hf => ?_) (fun _ _ z => False.elim z)
        have gone : ∀ {σ6 : L2.St} {H6 : Hp} {Q : Shared → Prop}, Inv (X.suite a ((a, ob4) :: (X.pn ++ pins))) [] σ6 H6 s6 → (∀ s7, Inv X pins (σ6.set i none) H6 s7 → Q s7) →
            wpAny (model X.prog X.w) X.A (do bindName X.env n .none; unbindBehindTheSuite X.env n p2) (fun _ s7 => Q s7) X.xe s6 := fun S6 hq => gone_ok (S6.unsuite ok) hN hi hl hq
        cases f with
        | next => obtain ⟨_, _, S6, q⟩ := hf; exact gone S6 fun _ J7 => ⟨_, _, J7, q⟩
        | brk => obtain ⟨_, _, S6, q⟩ := hf; exact gone S6 fun _ J7 => ⟨_, _, J7, q⟩
        | cont => obtain ⟨_, _, S6, q⟩ := hf; exact gone S6 fun _ J7 => ⟨_, _, J7, q⟩
        | ret u => obtain ⟨_, _, _, S6, rr, q⟩ := hf; exact gone S6 fun _ J7 => ⟨_, _, _, J7, rr, q⟩
  · cases f with
    | next => obtain ⟨_, _, J2, q⟩ := hf; exact wpAny_execs_nil ⟨_, _, J2.ofTry ok, q⟩
    | brk => obtain ⟨_, _, J2, q⟩ := hf; exact ⟨_, _, J2.ofTry ok, q⟩
    | cont => obtain ⟨_, _, J2, q⟩ := hf; exact ⟨_, _, J2.ofTry ok, q⟩
    | ret u => obtain ⟨_, _, _, J2, rr, q⟩ := hf; exact ⟨_, _, _, J2.ofTry ok, rr, q⟩
end
end SL

namespace SL
open PySem PySem.Spec PyProof.Rows L2

/-! ## own exceptions with one field -/
/-- what __init__ promises: the one field is laid -/
def spI1 (C : Addr) (fld : Str) : Sp := fun vs H Q _ => ∃ a y, vs = [.ref a, y] ∧ H a = some (exo a C none) ∧ ∀ dx, H dx = none → dx ≠ a → Q .non (upd (upd H dx (exd dx [(fld, y)])) a (exo a C (some dx)))
structure Exc1 (P : Program) (w : World) (K : PySem.W.Frag) (mg : Str → Option Value) (base : Heap) (c fld : Str) : Prop where
  ex : ∃ (C fI : Addr) (fd : FuncData) (x : Str), OexC K C ∧ PySem.W.findIn K (.ref C) "__init__" = some (some (.ref fI)) ∧ PySem.W.typeIn K (.ref fI) = some (.type "function") ∧ FnOk P w K mg base (L2.CX P w) 1 fI fd ["self", x] (spI1 C fld) ∧ Binds K fd ["self", x] [] ∧ mg c = some (.ref C)
theorem init1 {P : Program} {w : World} {K : PySem.W.Frag} {mg : Str → Option Value} {base : Heap} {qual : Str} {st : Stmt} {f C : Addr} {fd : FuncData} {x fld : Str} {p1 p2 p3 p4 : Pos} (F : Fun K "__init__" qual st f fd) (S : FnScope ["self", x] ["self", x] (defScope st))
    (hb : defBody st = [.Assign [.Attribute (.Name "self" p1) fld p2] (.Name x p3) p4]) (T : OexC K C) (hno : PySem.W.findIn K (.ref C) fld = some none) (hd : (x == ("__debug__" : Str)) = false) (hcd : (x == ("__classdict__" : Str)) = false) : FnOk P w K mg base (L2.CX P w) 1 f fd ["self", x] (spI1 C fld) := by
  refine F.okX (k := 0) S (fun vs H Q E h => ?_) (fun cdv A outer s H vs Q E hr h => ?_)
  · obtain ⟨a, y, rfl, _⟩ := h; rfl
  · rw [hb]
    have vis : ∀ z ∈ (["self", x] : List Str), Vis (defScope st) z := fun z hz => by
      rcases S.par z hz with q | q
      · exact .inl q
      · exact .inr (.inl q)
    refine ⟨_, pss_one (ps_ost (pe_var (i := 0) rfl (vis "self" (by simp))) (pe_var (i := 1) rfl (vis x (by simp)) hd hcd)), ?_⟩
    obtain ⟨a, y, rfl, h1, h2⟩ := h
    exact ⟨y, rfl, .ref a, rfl, a, C, rfl, T, hno, .inl ⟨h1, fun dx n ne => h2 dx n ne⟩⟩
theorem del_eq {H : Hp} {a d : Addr} {o o1 o2 o3 : HO} (ha : H a = none) (hd : d ≠ a) : upd (del (upd (upd (upd H a o) d o1) a o2) a) d o3 = upd H d o3 := by
  funext b
  by_cases e : b = d
  · subst e; rw [upd_same, upd_same]
  · rw [upd_ne e, upd_ne e]
    by_cases z : b = a
    · subst z; rw [del_same, ha]
    · rw [del_ne z, upd_ne z, upd_ne e, upd_ne z]
/-- raise C(e, ..): the error's fields are the arguments -/
def sRaise (c : Str) (ns : List Str) (f : SemL) : SSem := fun fr st => (f fr st).stm fr fun ws st1 => if ws.length = ns.length then .er ⟨c, ns, ws⟩ fr st1 else .bad
section
variable {X : Cx} {Wx : Wish}
theorem sv_raise1 {k : Nat} {c fld : Str} {f : SemL} {e : Expr} {es : List Expr} {p p2 pos : Pos} (C : Ctx X Wx k) (hk : 2 ≤ k) (E : Exc1 X.prog X.w X.K X.mg X.base c fld) (ha : AV X Wx (e :: es) f) (hg : Gl X c := by rfl) (hdb : (c == ("__debug__" : Str)) = false := by decide)
    (he : starEach (e :: es) X.env = (false, eval e X.env) :: starEach es X.env := by rfl) (hpl : (backTo p2 (starEach es X.env)).any (·.1) = false := by rfl) :
    SV X Wx (.Raise (some (.Call (.Name c p) (e :: es) [] p2)) none pos) (sRaise c [fld] f) := by
  obtain ⟨A, fI, fd, x, T, h1, h2, F, B, hm⟩ := E.ex
  refine PSm (ps_raise C.calm C.tk (pmk_oex (CX := L2.CX X.prog X.w) (k := 1) T h1 h2 F (C.room.mono hk) B .nil (fun pins σ H s u s' I z => ?_) hg hm ha hdb he hpl)) fun D σ H ⟨μ, st, hid, fr, S, P⟩ => ?_
  · obtain ⟨_, _, _, _, _, _, _, _, _, _, _, _, z⟩ := z
    exact z.elim
  · refine ⟨μ, st, hid, fr, S, ?_⟩
    unfold sRaise at P
    cases e1 : f fr st with
    | bad => rw [e1] at P; exact P
    | err x s => rw [e1] at P; exact fun μ1 H1 c d k1 g1 xr => P μ1 σ H1 c d (S.next k1 g1) g1 xr
    | ok ws st1 =>
      rw [e1, Out.stm_ok] at P
      intro μ1 H1 vs k1 g1 r1
      have P1 := SPost.from g1 P
      split at P1
      · rename_i hl
        have hv : vs.length = 1 := by rw [← r1.length]; exact hl
        obtain ⟨y, rfl⟩ : ∃ y, vs = [y] := by
          match vs, hv with
          | [y], _ => exact ⟨y, rfl⟩
        refine ⟨by simp, fun a na => ⟨a, y, rfl, upd_same, fun dx nd ne => ⟨rfl, dx, [(fld, y)], upd_same, by rw [upd_ne ne, upd_same], ?_, ?_⟩⟩⟩
        · rw [upd_ne ne] at nd; exact nd
        · rw [upd_ne ne] at nd
          rw [del_eq na ne]
          obtain ⟨k2, g2, e2⟩ := k1.laid (o := .xd [(fld, y)]) nd
          exact P1 μ1 σ _ _ _ ((S.next k1 g1).next k2 g2) g2 ⟨A, hm, rfl, .inr ⟨dx, [y], rfl, rfl, e2, r1.mono g2.le (.refl _)⟩⟩
      · exact P1.elim

/-! ## try -/
def clrF (sl : Option Nat) (fr : Fr) : Fr := match sl with
  | none => fr
  | some i => fr.set i none
structure HndS where
  cn : Str
  sl : Option Nat
  h : Exc → SSem
def SOut.clr (sl : Option Nat) : SOut → SOut
  | .nx fr st => .nx (clrF sl fr) st
  | .bk fr st => .bk (clrF sl fr) st
  | .ct fr st => .ct (clrF sl fr) st
  | .rt w st => .rt w st
  | .er _ _ _ => .bad
  | .bad => .bad
/-- which class stands under which -/
abbrev ExT := Str → Str → Option Bool
def slOk (sl : Option Nat) (fr : Fr) : Bool := match sl with
  | none => true
  | some i => decide (i < fr.length)
def hRun (T : ExT) (x : Exc) : List HndS → Fr → Sto → SOut
  | [], fr, st => .er x fr st
  | hd :: r, fr, st => match T x.c hd.cn with
    | some true => if slOk hd.sl fr = true then (hd.h x (clrF hd.sl fr) st).clr hd.sl else .bad
    | some false => hRun T x r fr st
    | none => .bad
def sTry (T : ExT) (b : SSem) (hs : List HndS) : SSem := fun fr st => match b fr st with
  | .er x fr1 st1 => hRun T x hs fr1 st1
  | o => o
theorem XRep.mono {K : PySem.W.Frag} {mg : Str → Option Value} {F F' : Hp} {μ μ' : List Addr} {x : Exc} {c : Value} {d : Option Addr} (l : Le F F') (p : Pre μ μ') (h : XRep K mg F μ x c d) : XRep K mg F' μ' x c d := by
  obtain ⟨C, h1, h2, h3⟩ := h
  refine ⟨C, h1, h2, ?_⟩
  rcases h3 with h3 | ⟨dx, vs, h3, h4, h5, h6⟩
  · exact .inl h3
  · exact .inr ⟨dx, vs, h3, h4, l.xd h5, h6.mono l p⟩
def Wish.suite (Wx : Wish) (K : PySem.W.Frag) (mg : Str → Option Value) (sl : Option Nat) (x : Exc) (a : Addr) (cls : Value) (d : Option Addr) : Wish where
  w := fun _ _ _ _ => False
  lock := sl.toList ++ Wx.lock
  y := fun σ F μ => Wx.y σ F μ ∧ XRep K mg F μ x cls d ∧ ∀ i, sl = some i → σ[i]? = some (some (.ref a))
  mono := fun σ F F' μ μ' l p h => ⟨Wx.mono _ _ _ _ _ l p h.1, h.2.1.mono l p, h.2.2⟩
  slot := fun σ σ' F μ e h => ⟨Wx.slot _ _ _ _ (fun i hi => e i (List.mem_append_right _ hi)) h.1, h.2.1, fun i hi => by
    rw [e i (List.mem_append_left _ (by rw [hi]; simp))]; exact h.2.2 i hi⟩
/-- what a wish within a try's body is -/
def Wish.tr (Wx : Wish) (W : WX) : Wish := ⟨W, Wx.lock, Wx.y, Wx.mono, Wx.slot⟩
theorem SI.tr {K : PySem.W.Frag} {mg : Str → Option Value} {μ : List Addr} {st : Sto} {hid : List Addr} {fr : Fr} {σ : L2.St} {H : Hp} (W : WX) (s : SI K mg Wx μ st hid fr σ H) : SI K mg (Wx.tr W) μ st hid fr σ H := ⟨s.sto, s.len, s.loc, s.ex⟩
theorem SI.ofTr {K : PySem.W.Frag} {mg : Str → Option Value} {μ : List Addr} {st : Sto} {hid : List Addr} {fr : Fr} {σ : L2.St} {H : Hp} {W : WX} (s : SI K mg (Wx.tr W) μ st hid fr σ H) : SI K mg Wx μ st hid fr σ H := ⟨s.sto, s.len, s.loc, s.ex⟩
def tsOf (K : PySem.W.Frag) (mg : Str → Option Value) (Wx : Wish) (sl : Option Nat) (h : Exc → SSem) : Addr → Value → Option Addr → TS := fun a cls d D σ H => ∃ x, tS K mg (Wx.suite K mg sl x a cls d) (h x) D σ H
/-- a suite by its meaning -/
def SuV (X : Cx) (Wx : Wish) (sl : Option Nat) (ss : List Stmt) (h : Exc → SSem) : Prop := ∀ (a : Addr) (ob : Obj) (cls : Value) (d : Option Addr) (pl : List (Addr × Obj)) (x : Exc), Zc cls d ob → (∃ vs, ob.data = .fields vs) → BV (X.suite a ((a, ob) :: pl)) (Wx.suite X.K X.mg sl x a cls d) ss (h x)
theorem SuV.ok {sl : Option Nat} {ss : List Stmt} {h : Exc → SSem} (u : SuV X Wx sl ss h) : SuiteOk X ss (tsOf X.K X.mg Wx sl h) := fun a ob cls d pl hz hf =>
  ⟨fun pins s σ H D I ⟨x, q⟩ => (u a ob cls d pl x hz hf).run pins s σ H D I q⟩
/-- the clauses by their meaning -/
inductive HV (X : Cx) (Wx : Wish) : List ExceptHandler → List HndS → List Hnd → Prop
  | nil : HV X Wx [] [] []
  | one {x : Str} {C : Addr} {h : Exc → SSem} {s0 : Stmt} {ss : List Stmt} {p1 p2 : Pos} {hs : List ExceptHandler} {l : List HndS} {m : List Hnd} (hg : Gl X x) (hd : (x == ("__debug__" : Str)) = false) (hm : X.mg x = some (.ref C)) (hu : SuV X Wx none (s0 :: ss) h) (r : HV X Wx hs l m) :
      HV X Wx (.ExceptHandler (some (.Name x p1)) none (s0 :: ss) p2 :: hs) (⟨x, none, h⟩ :: l) ((.ref C, none, tsOf X.K X.mg Wx none h) :: m)
  | as {x n : Str} {i : Nat} {C : Addr} {h : Exc → SSem} {s0 : Stmt} {ss : List Stmt} {p1 p2 : Pos} {hs : List ExceptHandler} {l : List HndS} {m : List Hnd} (hg : Gl X x) (hd : (x == ("__debug__" : Str)) = false) (hm : X.mg x = some (.ref C)) (hi : X.N[i]? = some n) (hl : X.env.kindOf n = some .local) (hk : i ∉ Wx.lock) (hu : SuV X Wx (some i) (s0 :: ss) h) (r : HV X Wx hs l m) :
      HV X Wx (.ExceptHandler (some (.Name x p1)) (some n) (s0 :: ss) p2 :: hs) (⟨x, some i, h⟩ :: l) ((.ref C, some i, tsOf X.K X.mg Wx (some i) h) :: m)
theorem HV.ok {hs : List ExceptHandler} {l : List HndS} {m : List Hnd} (v : HV X Wx hs l m) : HdsG X hs m := by
  induction v with
  | nil => exact .nil
  | one hg hd hm hu r ih => exact .one ⟨hg, hd, .inl hm⟩ hu.ok ih
  | as hg hd hm hi hl hk hu r ih => exact .as ⟨hg, hd, .inl hm⟩ hi hl hu.ok ih
/-- the table of classes says what is so -/
def ExTOk (K : PySem.W.Frag) (mg : Str → Option Value) (T : ExT) : Prop := ∀ c c' b, T c c' = some b → ∀ C C', mg c = some (.ref C) → mg c' = some (.ref C') → PySem.W.exmOne K (.ref C) (.ref C') = some b
theorem SI.clr {K : PySem.W.Frag} {mg : Str → Option Value} {μ : List Addr} {st : Sto} {hid : List Addr} {fr : Fr} {σ : L2.St} {H : Hp} {sl : Option Nat} {x : Exc} {a : Addr} {cls : Value} {d : Option Addr} (s : SI K mg (Wx.suite K mg sl x a cls d) μ st hid fr σ H) (hk : ∀ i, sl = some i → i ∉ Wx.lock) :
    SI K mg Wx μ st hid (clrF sl fr) (match sl with | none => σ | some i => σ.set i none) H := by
  cases sl with
  | none => exact ⟨s.sto, s.len, s.loc, s.ex.1⟩
  | some i =>
    refine ⟨s.sto, by simpa [clrF] using s.len, fun j w h => ?_, Wx.slot _ _ _ _ (fun j hj => List.getElem?_set_ne fun (z : i = j) => hk i rfl (z ▸ hj)) s.ex.1⟩
    have h' : (fr.set i none)[j]? = some (some w) := h
    by_cases e : i = j
    · subst e
      by_cases q : i < fr.length
      · rw [List.getElem?_set_self q] at h'; cases h'
      · rw [List.getElem?_eq_none (by simpa using q)] at h'; cases h'
    · rw [List.getElem?_set_ne e] at h'
      obtain ⟨v, e1, e2⟩ := s.loc j w h'
      exact ⟨v, by show (σ.set i none)[j]? = _; rw [List.getElem?_set_ne e]; exact e1, e2⟩
theorem hRun_at {T : ExT} (hT : ExTOk X.K X.mg T) {D : Ends} : ∀ {hs : List ExceptHandler} {l : List HndS} {m : List Hnd}, HV X Wx hs l m → ∀ {hid μ : List Addr} {st : Sto} {fr : Fr} {σ : L2.St} {H : Hp} {x : Exc} {cls : Value} {d : Option Addr}, SI X.K X.mg Wx μ st hid fr σ H → XRep X.K X.mg (Fz μ st hid H) μ x cls d →
    SPost X.K X.mg Wx hid μ st H D (hRun T x l fr st) → wGen X.K Wx.w D m cls d σ H := by
  intro hs l m v
  -- one clause: its suite at the cleared frame
  have key : ∀ {sl : Option Nat} {h : Exc → SSem} {hid μ : List Addr} {st : Sto} {fr : Fr} {σ : L2.St} {H : Hp} {x : Exc} {cls : Value} {d : Option Addr}, (∀ i, sl = some i → i ∉ Wx.lock ∧ i < fr.length) → SI X.K X.mg Wx μ st hid fr σ H → XRep X.K X.mg (Fz μ st hid H) μ x cls d →
      SPost X.K X.mg Wx hid μ st H D ((h x (clrF sl fr) st).clr sl) → ∀ a, tsOf X.K X.mg Wx sl h a cls d (clr sl D) (stoE sl σ a) H := by
    intro sl h hid μ st fr σ H x cls d hk S xr P a
    refine ⟨x, μ, st, hid, clrF sl fr, ?_, ?_⟩
    · cases sl with
      | none => exact ⟨S.sto, S.len, S.loc, S.ex, xr, fun i z => nomatch z⟩
      | some i =>
        obtain ⟨hk1, hk2⟩ := hk i rfl
        refine ⟨S.sto, by simpa [clrF, stoE] using S.len, fun j w h' => ?_, Wx.slot _ _ _ _ (fun j hj => List.getElem?_set_ne fun (z : i = j) => hk1 (z ▸ hj)) S.ex, xr, fun j z => ?_⟩
        · have h'' : (fr.set i none)[j]? = some (some w) := h'
          by_cases e : i = j
          · subst e
            rw [List.getElem?_set_self hk2] at h''; cases h''
          · rw [List.getElem?_set_ne e] at h''
            obtain ⟨v, e1, e2⟩ := S.loc j w h''
            exact ⟨v, by show (σ.set i _)[j]? = _; rw [List.getElem?_set_ne e]; exact e1, e2⟩
        · cases z
          exact List.getElem?_set_self (by rw [← S.len]; exact hk2)
    · have hkl : ∀ i, sl = some i → i ∉ Wx.lock := fun i z => (hk i z).1
      have nxt : ∀ {μ' : List Addr} {st' : Sto} {fr' : Fr} {σ' : L2.St} {H' : Hp} {R : L2.St → Hp → Prop}, SI X.K X.mg (Wx.suite X.K X.mg sl x a cls d) μ' st' hid fr' σ' H' → (∀ σ2, SI X.K X.mg Wx μ' st' hid (clrF sl fr') σ2 H' → R σ2 H') →
          (match sl with | none => R σ' H' | some i => R (σ'.set i none) H') := fun {μ' st' fr' σ' H' R} s q => by
        have s2 := s.clr hkl
        cases sl with
        | none => exact q _ s2
        | some i => exact q _ s2
      cases e : h x (clrF sl fr) st with
      | bad => rw [e] at P; exact P
      | er z f s => rw [e] at P; exact P.elim
      | rt w s =>
        rw [e] at P
        have P' : ∀ μ' H' v, StOk X.K X.mg μ' s hid H' → Grow hid μ st H μ' s H' → Rep X.K X.mg (Fz μ' s hid H') μ' w v → D.rt v H' := P
        intro μ' H' v k g r
        cases sl with
        | none => exact P' μ' H' v k g r
        | some i => exact P' μ' H' v k g r
      | nx f s =>
        rw [e] at P
        have P' : ∀ μ' σ' H', SI X.K X.mg Wx μ' s hid (clrF sl f) σ' H' → Grow hid μ st H μ' s H' → D.nx σ' H' := P
        intro μ' σ' H' S' g
        have q := nxt (R := D.nx) S' fun σ2 s2 => P' μ' σ2 H' s2 g
        cases sl with
        | none => exact q
        | some i => exact q
      | bk f s =>
        rw [e] at P
        have P' : ∀ μ' σ' H', SI X.K X.mg Wx μ' s hid (clrF sl f) σ' H' → Grow hid μ st H μ' s H' → D.bk σ' H' := P
        intro μ' σ' H' S' g
        have q := nxt (R := D.bk) S' fun σ2 s2 => P' μ' σ2 H' s2 g
        cases sl with
        | none => exact q
        | some i => exact q
      | ct f s =>
        rw [e] at P
        have P' : ∀ μ' σ' H', SI X.K X.mg Wx μ' s hid (clrF sl f) σ' H' → Grow hid μ st H μ' s H' → D.ct σ' H' := P
        intro μ' σ' H' S' g
        have q := nxt (R := D.ct) S' fun σ2 s2 => P' μ' σ2 H' s2 g
        cases sl with
        | none => exact q
        | some i => exact q
  induction v with
  | nil =>
    intro hid μ st fr σ H x cls d S xr P
    exact P μ σ H cls d S .refl xr
  | @one n C h s0 ss p1 p2 hs l m hg hd hm hu r ih =>
    intro hid μ st fr σ H x cls d S xr P
    obtain ⟨C', h1, rfl, h3⟩ := id xr
    rw [hRun] at P
    simp only at P
    split at P
    · rename_i e
      split at P
      · exact ⟨true, hT _ _ _ e _ _ h1 hm, fun _ a na => key (sl := none) (fun i z => nomatch z) S xr P a, fun z => (nomatch z)⟩
      · exact P.elim
    · rename_i e
      exact ⟨false, hT _ _ _ e _ _ h1 hm, fun z => (nomatch z), fun _ => ih S xr P⟩
    · exact P.elim
  | @as n nn i C h s0 ss p1 p2 hs l m hg hd hm hi hl hk hu r ih =>
    intro hid μ st fr σ H x cls d S xr P
    obtain ⟨C', h1, rfl, h3⟩ := id xr
    rw [hRun] at P
    simp only at P
    split at P
    · rename_i e
      split at P
      · rename_i hs
        refine ⟨true, hT _ _ _ e _ _ h1 hm, fun _ a na => key (sl := some i) (fun j z => ?_) S xr P a, fun z => (nomatch z)⟩
        cases z
        exact ⟨hk, of_decide_eq_true hs⟩
      · exact P.elim
    · rename_i e
      exact ⟨false, hT _ _ _ e _ _ h1 hm, fun z => (nomatch z), fun _ => ih S xr P⟩
    · exact P.elim
theorem sv_try {k : Nat} {T : ExT} {body : List Stmt} {g0 : ExceptHandler} {gs : List ExceptHandler} {b : SSem} {l : List HndS} {m : List Hnd} {pos : Pos} (C : Ctx X Wx k) (hT : ExTOk X.K X.mg T) (hst : X.stack = X.env :: X.outer) (hfm : X.env.frame = some X.env.locals)
    (hb : ∀ (W : WX) (pl : List (Addr × Obj)) (xe : Value → Shared → Prop), Ctx (X.tr pl xe) (Wx.tr W) k → BV (X.tr pl xe) (Wx.tr W) body b) (hh : HV X Wx (g0 :: gs) l m) : SV X Wx (.Try body (g0 :: gs) [] [] pos) (sTry T b l) :=
  PSm (ps_tryG (tb := fun W => tS X.K X.mg (Wx.tr W) b) C.nd hst hfm C.tk (fun W pl xe tk hp => hb W pl xe ⟨C.calm, C.nd, C.room, tk, hp⟩) hh.ok) fun D σ H ⟨μ, st, hid, fr, S, P⟩ => by
    refine ⟨μ, st, hid, fr, S.tr _, ?_⟩
    unfold sTry at P
    cases e : b fr st with
    | bad => rw [e] at P; exact P
    | rt w s => rw [e] at P; exact P
    | nx f s => rw [e] at P; exact fun μ' σ' H' S' g => P μ' σ' H' S'.ofTr g
    | bk f s => rw [e] at P; exact fun μ' σ' H' S' g => P μ' σ' H' S'.ofTr g
    | ct f s => rw [e] at P; exact fun μ' σ' H' S' g => P μ' σ' H' S'.ofTr g
    | er x f s =>
      rw [e] at P
      intro μ' σ' H' c d S' g xr
      exact hRun_at hT hh S'.ofTr xr (SPost.from g P)
/-! ## a field of a caught error -/
def lkp : List Str → List W → Str → Option W
  | n :: ns, w :: ws, f => if f == n then some w else lkp ns ws f
  | _, _, _ => none
theorem lkp_at {K : PySem.W.Frag} {mg : Str → Option Value} {F : Hp} {μ : List Addr} {f : Str} {w : W} : ∀ {ns : List Str} {ws : List W} {vs : List V}, lkp ns ws f = some w → Reps K mg F μ ws vs → ∃ v, (ns.zip vs).lookup f = some v ∧ Rep K mg F μ w v
  | [], _, _, h, _ => by unfold lkp at h; cases h
  | _ :: _, [], _, h, _ => by unfold lkp at h; cases h
  | n :: ns, u :: ws, vs, h, r => by
    unfold lkp at h
    obtain ⟨v, t, rfl, h1, h2⟩ := r.cons_inv
    rw [List.zip_cons_cons, List.lookup_cons]
    cases e : f == n with
    | true => rw [e] at h; cases h; exact ⟨v, rfl, h1⟩
    | false => rw [e] at h; exact lkp_at h h2
def eXf (x : Exc) (c n : Str) : Sem := fun _ st => if x.c = c then (match lkp x.ns x.vs n with
  | some w => .ok w st
  | none => .bad) else .bad
theorem ev_xf {a : Addr} {oe : Obj} {cls : Value} {d : Option Addr} {pn : List (Addr × Obj)} {C : Addr} {x : Exc} {c nm n : Str} {i : Nat} {p pos : Pos} (T : XfC X.K C) (hm : X.mg c = some (.ref C)) (hno : PySem.W.findIn X.K (.ref C) n = some none) (hz : Zc cls d oe) (hf : ∃ vs, oe.data = .fields vs)
    (hN : X.N[i]? = some nm) (hv : Vis X.env.scope nm) (hd : (nm == ("__debug__" : Str)) = false := by decide) (hcd : (nm == ("__classdict__" : Str)) = false := by decide) (hb : attributeBase (.Name nm p) n X.env (eval (.Name nm p) X.env) = eval (.Name nm p) X.env := by rfl) :
    EV (X.suite a ((a, oe) :: pn)) (Wx.suite X.K X.mg (some i) x a cls d) (.Attribute (.Name nm p) n pos) (eXf x c n) :=
  PEm (pe_xf T hno hz hf (pe_var (X := X.suite a ((a, oe) :: pn)) (i := i) hN hv hd hcd) hb) fun σ H Q ⟨μ, st, hid, fr, S, P⟩ => by
    obtain ⟨_, ⟨C', h1, h2, h3⟩, h4⟩ := S.ex
    refine ⟨.ref a, h4 i rfl, rfl, ?_⟩
    unfold eXf at P
    split at P
    · rename_i e
      have h1' : X.mg c = some (.ref C') := by rw [← e]; exact h1
      rw [hm] at h1'
      cases h1'
      refine ⟨h2, ?_⟩
      split at P
      · rename_i w ew
        rcases h3 with h3 | ⟨dx, vs, h3, h4, h5, h6⟩
        · rw [h3.1] at ew
          cases ew
        · obtain ⟨v, h7, h8⟩ := lkp_at ew h6
          exact ⟨dx, _, v, h3, (Fz.sub h5).1, h7, P μ H v S.sto .refl h8⟩
      · exact P.elim
    · exact P.elim
end
end SL

namespace SL
open PySem PySem.Spec PyProof.Rows L2

/-! ## a def's end: its own cells are let go -/
mutual
def fz0 (n : Nat) (f : Nat → Option W) : W → Option W
  | .tup ws => (fz0s n f ws).map .tup
  | .lst ws => (fz0s n f ws).map .lst
  | .ro ws => (fz0s n f ws).map .ro
  | .tpn ws => (fz0s n f ws).map .tpn
  | .dct ks ws => (fz0s n f ws).map (.dct ks)
  | .ins c ns ws => (fz0s n f ws).map (.ins c ns)
  | .cell k => if k < n then some (.cell k) else f k
  | .non => some .non
  | .bl b => some (.bl b)
  | .int i => some (.int i)
  | .str x => some (.str x)
  | .ty x => some (.ty x)
  | .cls x => some (.cls x)
def fz0s (n : Nat) (f : Nat → Option W) : List W → Option (List W)
  | [] => some []
  | w :: r => match fz0 n f w, fz0s n f r with
    | some a, some b => some (a :: b)
    | _, _ => none
end
mutual
theorem fz0_nk (n : Nat) (f : Nat → Option W) : ∀ {w : W} {k : NestedKey}, nkW w = some k → fz0 n f w = some w
  | .non, _, _ => rfl
  | .bl _, _, _ => rfl
  | .int _, _, _ => rfl
  | .str _, _, _ => rfl
  | .tup ws, k, h => by
    unfold nkW at h
    obtain ⟨ks, e, _⟩ := Option.map_eq_some_iff.mp h
    unfold fz0
    rw [fz0_nks n f e]; rfl
  | .lst _, _, h => by cases h
  | .dct _ _, _, h => by cases h
  | .ins _ _ _, _, h => by cases h
  | .cell _, _, h => by cases h
  | .ro _, _, h => by cases h
  | .ty _, _, h => by cases h
  | .cls _, _, h => by cases h
  | .tpn _, _, h => by cases h
theorem fz0_nks (n : Nat) (f : Nat → Option W) : ∀ {ws : List W} {ks : List NestedKey}, nkWs ws = some ks → fz0s n f ws = some ws
  | [], _, _ => rfl
  | w :: r, ks, h => by
    unfold nkWs at h
    cases e1 : nkW w with
    | none => rw [e1] at h; cases h
    | some k =>
      cases e2 : nkWs r with
      | none => rw [e1, e2] at h; cases h
      | some js =>
        unfold fz0s
        rw [fz0_nk n f e1, fz0_nks n f e2]
end
theorem nkey_nk {w : W} {k : NestedKey} (h : nkey w = some k) : nkW w = some k ∧ k.depth ≤ 8 := by
  cases w with
  | tup ws =>
    have h : (match nkW (.tup ws) with
      | some k => if k.depth ≤ 8 then some k else none
      | none => none) = some k := h
    cases e : nkW (.tup ws) with
    | none => rw [e] at h; cases h
    | some j =>
      rw [e] at h
      have h : (if j.depth ≤ 8 then some j else none) = some k := h
      by_cases d : j.depth ≤ 8
      · rw [if_pos d] at h; cases h; exact ⟨rfl, d⟩
      · rw [if_neg d] at h; cases h
  | _ => cases h
theorem fz0_nkey (n : Nat) (f : Nat → Option W) {w : W} {k : NestedKey} (h : nkey w = some k) : fz0 n f w = some w := fz0_nk n f (nkey_nk h).1
theorem fz0_nkeyM (n : Nat) (f : Nat → Option W) {w : W} {k : NestedKey} (h : nkeyM w = some k) : fz0 n f w = some w := by
  cases w with
  | tup ws => exact fz0_nkey n f h
  | non => rfl
  | bl b => rfl
  | int i => rfl
  | str x => rfl
  | _ => cases h
def fzc (n : Nat) (st : Sto) : Nat → Nat → Option W
  | 0, _ => none
  | m + 1, k => match st[k]? with
    | some (.lst ws) => (fz0s n (fzc n st m) ws).map .lst
    | some (.dct ks ws) => (fz0s n (fzc n st m) ws).map (.dct ks)
    | some (.ins c ns ws) => (fz0s n (fzc n st m) ws).map (.ins c ns)
    | some (.frz w) => fz0 n (fzc n st m) w
    | some (.nct _ _ _ _) => none
    | none => none
/-- the old cells know no new ones -/
def oldW (n : Nat) (c : Cel) : Bool := match c with
  | .lst ws => (fz0s n (fun _ => none) ws).isSome
  | .dct _ ws => (fz0s n (fun _ => none) ws).isSome
  | .ins _ _ ws => (fz0s n (fun _ => none) ws).isSome
  | .frz w => (fz0 n (fun _ => none) w).isSome
  | .nct _ _ _ ws => (fz0s n (fun _ => none) ws).isSome
def leave (n : Nat) (w : W) (st : Sto) : Out W := if st.length = n then .ok w st else match fz0 n (fzc n st (st.length + 1)) w with
  | some u => if (st.take n).all (oldW n) = true then .ok u (st.take n) else .bad
  | none => .bad
def leaveX (n : Nat) (x : Exc) (st : Sto) : Out W := if st.length = n then .err x st else match fz0s n (fzc n st (st.length + 1)) x.vs with
  | some us => if (st.take n).all (oldW n) = true then .err ⟨x.c, x.ns, us⟩ (st.take n) else .bad
  | none => .bad
/-- .. but the one cell that it hands back, which goes on to live -/
def leaveC (n : Nat) (w : W) (st : Sto) : Out W := match w with
  | .cell j => if n ≤ j then (match st[j]? with
    | some c => if c.live = true ∧ oldW n c = true ∧ (st.take n).all (oldW n) = true then .ok (.cell n) (st.take n ++ [c]) else .bad
    | none => .bad) else .bad
  | _ => .bad
def mkFnG (lv : Nat → W → Sto → Out W) (m : Nat) (b : SSem) : Fn := fun ws st => match b (ws.map some ++ List.replicate (m - ws.length) none) st with
  | .nx _ st1 => leave st.length .non st1
  | .rt w st1 => lv st.length w st1
  | .er x _ st1 => leaveX st.length x st1
  | _ => .bad
def mkFn (m : Nat) (b : SSem) : Fn := mkFnG leave m b
def mkFnC (m : Nat) (b : SSem) : Fn := mkFnG leaveC m b
/-- .. or all goes on to live -/
def leaveA (n : Nat) (w : W) (st : Sto) : Out W := .ok w st
def mkFnA (m : Nat) (b : SSem) : Fn := mkFnG leaveA m b
section
variable {K : PySem.W.Frag} {mg : Str → Option Value} {F F' : Hp} {μ μ' : List Addr} {n : Nat} {f : Nat → Option W}
mutual
theorem fz0_at (l : Le F F') (hc : ∀ k, k < n → ∀ v, Rep K mg F μ (.cell k) v → Rep K mg F' μ' (.cell k) v) (hf : ∀ k, n ≤ k → ∀ u v, f k = some u → Rep K mg F μ (.cell k) v → Rep K mg F' μ' u v) : ∀ (w u : W) (v : V), fz0 n f w = some u → Rep K mg F μ w v → Rep K mg F' μ' u v
  | .non, u, v, h, r => by unfold fz0 at h; cases h; cases rep_non_inv r; exact rep_non
  | .bl b, u, v, h, r => by unfold fz0 at h; cases h; cases rep_bl_inv r; exact rep_bl
  | .int b, u, v, h, r => by unfold fz0 at h; cases h; cases rep_int_inv r; exact rep_int
  | .str b, u, v, h, r => by unfold fz0 at h; cases h; cases rep_str_inv r; exact rep_str
  | .ty b, u, v, h, r => by unfold fz0 at h; cases h; unfold Rep at r ⊢; exact r
  | .cls b, u, v, h, r => by unfold fz0 at h; cases h; unfold Rep at r ⊢; exact r
  | .tup ws, u, v, h, r => by
    unfold fz0 at h
    cases e : fz0s n f ws with
    | none => rw [e] at h; cases h
    | some us =>
      rw [e] at h; cases h
      unfold Rep at r ⊢
      obtain ⟨a, vs, rfl, h1, h2⟩ := r
      exact ⟨a, vs, rfl, h1.le l, fz0s_at l hc hf ws us vs e h2⟩
  | .lst ws, u, v, h, r => by
    unfold fz0 at h
    cases e : fz0s n f ws with
    | none => rw [e] at h; cases h
    | some us =>
      rw [e] at h; cases h
      unfold Rep at r ⊢
      obtain ⟨a, vs, rfl, h1, h2⟩ := r
      exact ⟨a, vs, rfl, l.lst h1, fz0s_at l hc hf ws us vs e h2⟩
  | .tpn ws, u, v, h, r => by
    unfold fz0 at h
    cases e : fz0s n f ws with
    | none => rw [e] at h; cases h
    | some us =>
      rw [e] at h; cases h
      unfold Rep at r ⊢
      obtain ⟨a, vs, rfl, h1, h2⟩ := r
      exact ⟨a, vs, rfl, h1.le l, fz0s_at l hc hf ws us vs e h2⟩
  | .ro ws, u, v, h, r => by
    unfold fz0 at h
    cases e : fz0s n f ws with
    | none => rw [e] at h; cases h
    | some us =>
      rw [e] at h; cases h
      unfold Rep at r ⊢
      obtain ⟨a, vs, rfl, h1, h2⟩ := r
      exact ⟨a, vs, rfl, SqL.le l h1, fz0s_at l hc hf ws us vs e h2⟩
  | .dct ks ws, u, v, h, r => by
    unfold fz0 at h
    cases e : fz0s n f ws with
    | none => rw [e] at h; cases h
    | some us =>
      rw [e] at h; cases h
      unfold Rep at r ⊢
      obtain ⟨a, vs, rfl, h1, h2⟩ := r
      exact ⟨a, vs, rfl, h1.le l, fz0s_at l hc hf ws us vs e h2⟩
  | .ins c ns ws, u, v, h, r => by
    unfold fz0 at h
    cases e : fz0s n f ws with
    | none => rw [e] at h; cases h
    | some us =>
      rw [e] at h; cases h
      unfold Rep at r ⊢
      obtain ⟨a, C, dx, vs, rfl, g, ll, h1, h2⟩ := r
      exact ⟨a, C, dx, vs, rfl, g, ll, l.ins h1, fz0s_at l hc hf ws us vs e h2⟩
  | .cell k, u, v, h, r => by
    unfold fz0 at h
    split at h
    · rename_i hk
      cases h
      exact hc k hk v r
    · rename_i hk
      exact hf k (Nat.le_of_not_lt hk) u v h r
theorem fz0s_at (l : Le F F') (hc : ∀ k, k < n → ∀ v, Rep K mg F μ (.cell k) v → Rep K mg F' μ' (.cell k) v) (hf : ∀ k, n ≤ k → ∀ u v, f k = some u → Rep K mg F μ (.cell k) v → Rep K mg F' μ' u v) : ∀ (ws us : List W) (vs : List V), fz0s n f ws = some us → Reps K mg F μ ws vs → Reps K mg F' μ' us vs
  | [], us, vs, h, r => by
    unfold fz0s at h; cases h
    rw [Reps.nil_iff] at r; subst r; exact .nil
  | w :: ws, us, vs, h, r => by
    unfold fz0s at h
    obtain ⟨v, t, rfl, h1, h2⟩ := r.cons_inv
    cases e1 : fz0 n f w with
    | none => rw [e1] at h; cases h
    | some a =>
      cases e2 : fz0s n f ws with
      | none => rw [e1, e2] at h; cases h
      | some b =>
        rw [e1, e2] at h; cases h
        exact .cons (fz0_at l hc hf w a v e1 h1) (fz0s_at l hc hf ws b t e2 h2)
end
end
mutual
/-- with nothing for new cells a value stays what it is -/
theorem fz0_id {n : Nat} : ∀ (w u : W), fz0 n (fun _ => none) w = some u → u = w
  | .non, u, h => by unfold fz0 at h; cases h; rfl
  | .bl b, u, h => by unfold fz0 at h; cases h; rfl
  | .int b, u, h => by unfold fz0 at h; cases h; rfl
  | .str b, u, h => by unfold fz0 at h; cases h; rfl
  | .ty b, u, h => by unfold fz0 at h; cases h; rfl
  | .cls b, u, h => by unfold fz0 at h; cases h; rfl
  | .tup ws, u, h => by
    unfold fz0 at h
    cases e : fz0s n (fun _ => none) ws with
    | none => rw [e] at h; cases h
    | some us => rw [e] at h; cases h; rw [fz0s_id ws us e]
  | .lst ws, u, h => by
    unfold fz0 at h
    cases e : fz0s n (fun _ => none) ws with
    | none => rw [e] at h; cases h
    | some us => rw [e] at h; cases h; rw [fz0s_id ws us e]
  | .tpn ws, u, h => by
    unfold fz0 at h
    cases e : fz0s n (fun _ => none) ws with
    | none => rw [e] at h; cases h
    | some us => rw [e] at h; cases h; rw [fz0s_id ws us e]
  | .ro ws, u, h => by
    unfold fz0 at h
    cases e : fz0s n (fun _ => none) ws with
    | none => rw [e] at h; cases h
    | some us => rw [e] at h; cases h; rw [fz0s_id ws us e]
  | .dct ks ws, u, h => by
    unfold fz0 at h
    cases e : fz0s n (fun _ => none) ws with
    | none => rw [e] at h; cases h
    | some us => rw [e] at h; cases h; rw [fz0s_id ws us e]
  | .ins c ns ws, u, h => by
    unfold fz0 at h
    cases e : fz0s n (fun _ => none) ws with
    | none => rw [e] at h; cases h
    | some us => rw [e] at h; cases h; rw [fz0s_id ws us e]
  | .cell k, u, h => by
    unfold fz0 at h
    split at h
    · cases h; rfl
    · cases h
theorem fz0s_id {n : Nat} : ∀ (ws us : List W), fz0s n (fun _ => none) ws = some us → us = ws
  | [], us, h => by unfold fz0s at h; cases h; rfl
  | w :: ws, us, h => by
    unfold fz0s at h
    cases e1 : fz0 n (fun _ => none) w with
    | none => rw [e1] at h; cases h
    | some a =>
      cases e2 : fz0s n (fun _ => none) ws with
      | none => rw [e1, e2] at h; cases h
      | some b => rw [e1, e2] at h; cases h; rw [fz0_id w a e1, fz0s_id ws b e2]
end
section
variable {K : PySem.W.Frag} {mg : Str → Option Value} {μ : List Addr} {st : Sto} {hid : List Addr} {H : Hp} {n : Nat}
theorem take_get {α : Type} {l : List α} {n k : Nat} {a : α} (h : (l.take n)[k]? = some a) : k < n ∧ l[k]? = some a := by
  rw [List.getElem?_take] at h
  split at h
  · exact ⟨by assumption, h⟩
  · cases h
theorem live_take {a : Addr} (h : LiveA (μ.take n) (st.take n) hid a) : LiveA μ st hid a := by
  rcases h with h | ⟨k, c, h1, h2, h3⟩
  · exact .inl h
  · exact .inr ⟨k, c, (take_get h1).2, (take_get h2).2, h3⟩
theorem fz_take (μ : List Addr) (st : Sto) (hid : List Addr) (H : Hp) (n : Nat) : Le (Fz μ st hid H) (Fz (μ.take n) (st.take n) hid H) := Le.of fun a o h => by
  obtain ⟨h1, h2⟩ := Fz.sub h
  exact Fz.mk h1 fun z => h2 (live_take z)
theorem cell_take {F F' : Hp} : ∀ k, k < n → ∀ v, Rep K mg F μ (.cell k) v → Rep K mg F' (μ.take n) (.cell k) v := fun k hk v r => by
  unfold Rep at r ⊢
  obtain ⟨a, h1, h2⟩ := r
  exact ⟨a, by rw [List.getElem?_take, if_pos hk]; exact h1, h2⟩
/-- the cells from n on are let go -/
theorem StOk.take (k : StOk K mg μ st hid H) (hn : n ≤ st.length) (ho : (st.take n).all (oldW n) = true) : StOk K mg (μ.take n) (st.take n) hid H := by
  refine ⟨by rw [List.length_take, List.length_take, k.len], fun i j a c d h1 h2 h3 h4 h5 h6 => k.inj i j a c d (take_get h1).2 (take_get h2).2 (take_get h3).2 (take_get h4).2 h5 h6, fun i a c h1 h2 h3 => k.hidn i a c (take_get h1).2 (take_get h2).2 h3, k.hidt, fun i a c h1 h2 => ?_⟩
  have q := k.ok i a c (take_get h1).2 (take_get h2).2
  have l := fz_take μ st hid H n
  have old : oldW n c = true := List.all_eq_true.mp ho c (List.mem_of_getElem? h2)
  have go : ∀ {ws : List W} {vs : List V}, (fz0s n (fun _ => none) ws).isSome = true → Reps K mg (Fz μ st hid H) μ ws vs → Reps K mg (Fz (μ.take n) (st.take n) hid H) (μ.take n) ws vs := fun {ws vs} hs r => by
    cases e : fz0s n (fun _ => none) ws with
    | none => rw [e] at hs; cases hs
    | some us =>
      have z := fz0s_id ws us e
      subst z
      exact fz0s_at l cell_take (fun _ _ _ _ z => by cases z) _ _ _ e r
  cases c with
  | lst ws => obtain ⟨vs, e, r⟩ := q; exact ⟨vs, e, go old r⟩
  | dct ks ws => obtain ⟨vs, e, r⟩ := q; exact ⟨vs, e, go old r⟩
  | ins c ns ws => obtain ⟨C, dx, vs, g, l', e, r⟩ := q; exact ⟨C, dx, vs, g, l', e, go old r⟩
  | frz w =>
    have old' : (fz0 n (fun _ => none) w).isSome = true := old
    cases e : fz0 n (fun _ => none) w with
    | none => rw [e] at old'; cases old'
    | some u =>
      have z := fz0_id w u e
      subst z
      exact fz0_at l cell_take (fun _ _ _ _ z => by cases z) _ _ _ e q
  | nct l' wo ks ws =>
    obtain ⟨xs, e, kn, r⟩ := q
    refine ⟨xs, e, ⟨kn.1, fun i k x h1 h2 => ?_⟩, go old r⟩
    obtain ⟨e1, e2⟩ := kn.2 i k x h1 h2
    exact ⟨e1, fz0_at l cell_take (fun _ _ _ _ z => by cases z) _ _ _ (fz0_nkeyM n (fun _ => none) e1) e2⟩
theorem fzc_at (k : StOk K mg μ st hid H) : ∀ (m j : Nat) (u : W) (v : V), n ≤ j → fzc n st m j = some u → Rep K mg (Fz μ st hid H) μ (.cell j) v → Rep K mg (Fz (μ.take n) (st.take n) hid H) (μ.take n) u v := by
  have l := fz_take μ st hid H n
  intro m
  induction m with
  | zero => intro j u v hj h r; cases h
  | succ m ih =>
    intro j u v hj h r
    obtain ⟨a, e1, rfl⟩ := rep_cell_inv r
    have seen : ∀ {c : Cel} {o : HO}, st[j]? = some c → c.live = true → H a = some o → Fz (μ.take n) (st.take n) hid H a = some o := fun {c o} e2 lc e3 => Fz.mk e3 fun z => by
      rcases z with z | ⟨i, d, h1, h2, h3⟩
      · exact k.hidn j a c e1 e2 lc z
      · have q := k.inj i j a d c (take_get h1).2 e1 (take_get h2).2 e2 h3 lc
        have := (take_get h1).1
        omega
    have go : ∀ {ws us : List W} {vs : List V}, fz0s n (fzc n st m) ws = some us → Reps K mg (Fz μ st hid H) μ ws vs → Reps K mg (Fz (μ.take n) (st.take n) hid H) (μ.take n) us vs := fun e r => fz0s_at l cell_take (fun i hi u v e r => ih i u v hi e r) _ _ _ e r
    unfold fzc at h
    split at h
    · rename_i ws e2
      cases e : fz0s n (fzc n st m) ws with
      | none => rw [e] at h; cases h
      | some us =>
        rw [e] at h; cases h
        obtain ⟨vs, h1, h2⟩ := k.ok j a _ e1 e2
        unfold Rep
        exact ⟨a, vs, rfl, seen e2 rfl h1, go e h2⟩
    · rename_i ks ws e2
      cases e : fz0s n (fzc n st m) ws with
      | none => rw [e] at h; cases h
      | some us =>
        rw [e] at h; cases h
        obtain ⟨vs, h1, h2⟩ := k.ok j a _ e1 e2
        obtain ⟨o, h3⟩ := h1.some
        unfold Rep
        exact ⟨a, vs, rfl, h1.at ((seen e2 rfl h3).trans h3.symm), go e h2⟩
    · rename_i c ns ws e2
      cases e : fz0s n (fzc n st m) ws with
      | none => rw [e] at h; cases h
      | some us =>
        rw [e] at h; cases h
        obtain ⟨C, dx, vs, g, ll, h1, h2⟩ := k.ok j a _ e1 e2
        unfold Rep
        exact ⟨a, C, dx, vs, rfl, g, ll, seen e2 rfl h1, go e h2⟩
    · rename_i w e2
      have q := k.ok j a _ e1 e2
      exact fz0_at l cell_take (fun i hi u v e r => ih i u v hi e r) w u _ h q
    · cases h
    · cases h
theorem leave_at {Wx : WX} {μ0 : List Addr} {st0 : Sto} {H0 : Hp} {σ : L2.St} {Q : VK} {w : W} {v : V} (hn : μ0.length = n) (g : Grow hid μ0 st0 H0 μ st H) (k : StOk K mg μ st hid H) (r : Rep K mg (Fz μ st hid H) μ w v) (P : EPost K mg Wx hid μ0 st0 σ H0 Q (leave n w st)) : Q v H := by
  unfold leave at P
  split at P
  · exact P μ H v k g r
  · split at P
    · rename_i u e
      split at P
      · rename_i ho
        obtain ⟨e2, he⟩ := id g.pre
        have hle : n ≤ st.length := by rw [← k.len, he, List.length_append, hn]; omega
        have ht : μ.take n = μ0 := by rw [he, ← hn]; simp
        have l := fz_take μ st hid H n
        refine P (μ.take n) H v (k.take hle ho) ⟨by rw [ht]; exact .refl _, g.le.trans l, g.hid, g.lck⟩ (fz0_at l cell_take (fun i hi u v e r => fzc_at k _ i u v hi e r) w u v e r)
      · exact P.elim
    · exact P.elim
theorem leaveX_at {Wx : WX} {μ0 : List Addr} {st0 : Sto} {H0 : Hp} {σ : L2.St} {Q : VK} {x : Exc} {c : Value} {d : Option Addr} (hn : μ0.length = n) (g : Grow hid μ0 st0 H0 μ st H) (k : StOk K mg μ st hid H) (r : XRep K mg (Fz μ st hid H) μ x c d) (P : EPost K mg Wx hid μ0 st0 σ H0 Q (leaveX n x st)) : Wx c d σ H := by
  unfold leaveX at P
  split at P
  · exact P μ H c d k g r
  · split at P
    · rename_i us e
      split at P
      · rename_i ho
        obtain ⟨e2, he⟩ := id g.pre
        have hle : n ≤ st.length := by rw [← k.len, he, List.length_append, hn]; omega
        have ht : μ.take n = μ0 := by rw [he, ← hn]; simp
        have l := fz_take μ st hid H n
        refine P (μ.take n) H c d (k.take hle ho) ⟨by rw [ht]; exact .refl _, g.le.trans l, g.hid, g.lck⟩ ?_
        obtain ⟨C, h1, h2, h3⟩ := r
        refine ⟨C, h1, h2, ?_⟩
        rcases h3 with h3 | ⟨dx, vs, h3, h4, h5, h6⟩
        · exact .inl h3
        · exact .inr ⟨dx, vs, h3, h4, l.xd h5, fz0s_at l cell_take (fun i hi u v e r => fzc_at k _ i u v hi e r) _ _ _ e h6⟩
      · exact P.elim
    · exact P.elim
end

/-- a way to leave is sound -/
def LvOk (K : PySem.W.Frag) (mg : Str → Option Value) (lv : Nat → W → Sto → Out W) : Prop := ∀ (n : Nat) (hid μ0 μ : List Addr) (st0 st : Sto) (H0 H : Hp) (Wx : WX) (σ : L2.St) (Q : VK) (w : W) (v : V), μ0.length = n → Grow hid μ0 st0 H0 μ st H → StOk K mg μ st hid H → Rep K mg (Fz μ st hid H) μ w v → EPost K mg Wx hid μ0 st0 σ H0 Q (lv n w st) → Q v H
theorem lv_leave {K : PySem.W.Frag} {mg : Str → Option Value} : LvOk K mg leave := fun n hid μ0 μ st0 st H0 H Wx σ Q w v hn g k r P => leave_at hn g k r P
theorem lv_leaveA {K : PySem.W.Frag} {mg : Str → Option Value} : LvOk K mg leaveA := fun n hid μ0 μ st0 st H0 H Wx σ Q w v hn g k r P => P μ H v k g r
theorem lv_leaveC {K : PySem.W.Frag} {mg : Str → Option Value} : LvOk K mg leaveC := fun n hid μ0 μ st0 st H0 H Wx σ Q w v hn g k r P => by
  unfold leaveC at P
  split at P
  · rename_i j
    split at P
    · rename_i hj
      split at P
      · rename_i c e
        split at P
        · rename_i hc
          obtain ⟨lc, oc, ho⟩ := hc
          obtain ⟨e2, he⟩ := id g.pre
          have hle : n ≤ st.length := by rw [← k.len, he, List.length_append, hn]; omega
          have ht : μ.take n = μ0 := by rw [he, ← hn]; simp
          obtain ⟨a, e1, rfl⟩ := rep_cell_inv r
          have k1 := k.take hle ho
          have l := fz_take μ st hid H n
          have na : ¬ LiveA (μ.take n) (st.take n) hid a := fun z => by
            rcases z with z | ⟨i, d, h1, h2, h3⟩
            · exact k.hidn j a c e1 e lc z
            · have q := k.inj i j a d c (take_get h1).2 e1 (take_get h2).2 e h3 lc
              have := (take_get h1).1
              omega
          have lt : (μ.take n).length = n := by rw [ht]; exact hn
          have ls : (st.take n).length = n := by rw [List.length_take]; omega
          have spl : ∀ {m : Nat} {b : Addr} {d : Cel}, (μ.take n ++ [a])[m]? = some b → (st.take n ++ [c])[m]? = some d → (m < n ∧ μ[m]? = some b ∧ st[m]? = some d ∧ (μ.take n)[m]? = some b ∧ (st.take n)[m]? = some d) ∨ (m = n ∧ b = a ∧ d = c) := fun {m b d} h1 h2 => by
            by_cases z : m < n
            · rw [List.getElem?_append_left (by omega)] at h1 h2
              exact .inl ⟨z, (take_get h1).2, (take_get h2).2, h1, h2⟩
            · by_cases y : m = n
              · subst y
                rw [List.getElem?_append_right (by omega), lt] at h1
                rw [List.getElem?_append_right (by omega), ls] at h2
                simp at h1 h2
                exact .inr ⟨rfl, h1.symm, h2.symm⟩
              · rw [List.getElem?_append_right (by omega), ls, List.getElem?_eq_none (by simp; omega)] at h2
                cases h2
          have lv : ∀ b, LiveA (μ.take n ++ [a]) (st.take n ++ [c]) hid b → b = a ∨ LiveA (μ.take n) (st.take n) hid b := fun b z => by
            rcases z with z | ⟨i, d, h1, h2, h3⟩
            · exact .inr (.inl z)
            · rcases spl h1 h2 with ⟨y1, y2, y3, y4, y5⟩ | ⟨y1, y2, y3⟩
              · exact .inr (.inr ⟨i, d, y4, y5, h3⟩)
              · exact .inl y2
          have lf : ∀ b o, b ≠ a → Fz (μ.take n) (st.take n) hid H b = some o → Fz (μ.take n ++ [a]) (st.take n ++ [c]) hid H b = some o := fun b o hb q => by
            obtain ⟨q1, q2⟩ := Fz.sub q
            exact Fz.mk q1 fun z => (lv b z).elim hb q2
          -- from the whole state: a was live there, so nothing read leans on it
          have lw : Le (Fz μ st hid H) (Fz (μ.take n ++ [a]) (st.take n ++ [c]) hid H) := Le.of fun b o q => by
            obtain ⟨q1, q2⟩ := Fz.sub q
            exact Fz.mk q1 fun z => (lv b z).elim (fun y => q2 (y ▸ .inr ⟨j, c, e1, e, lc⟩)) fun y => q2 (live_take y)
          have cw : ∀ {F : Hp} (i : Nat), i < n → ∀ v, Rep K mg (Fz μ st hid H) μ (.cell i) v → Rep K mg F (μ.take n ++ [a]) (.cell i) v := fun i hi v r => by
            unfold Rep at r ⊢
            obtain ⟨b, h1, h2⟩ := r
            exact ⟨b, by rw [List.getElem?_append_left (by omega), List.getElem?_take, if_pos hi]; exact h1, h2⟩
          have go : ∀ {ws : List W} {vs : List V}, (fz0s n (fun _ => none) ws).isSome = true → Reps K mg (Fz μ st hid H) μ ws vs → Reps K mg (Fz (μ.take n ++ [a]) (st.take n ++ [c]) hid H) (μ.take n ++ [a]) ws vs := fun {ws vs} hs r => by
            cases q : fz0s n (fun _ => none) ws with
            | none => rw [q] at hs; cases hs
            | some us =>
              have z := fz0s_id ws us q
              subst z
              exact fz0s_at lw cw (fun _ _ _ _ z => by cases z) _ _ _ q r
          have cel : ∀ {m : Nat} {b : Addr} {d : Cel}, μ[m]? = some b → st[m]? = some d → oldW n d = true → CelOk K mg (Fz (μ.take n ++ [a]) (st.take n ++ [c]) hid H) (μ.take n ++ [a]) H b d := fun {m b d} h1 h2 old => by
            have q := k.ok m b d h1 h2
            cases d with
            | lst ws => obtain ⟨vs, e, r⟩ := q; exact ⟨vs, e, go old r⟩
            | dct ks ws => obtain ⟨vs, e, r⟩ := q; exact ⟨vs, e, go old r⟩
            | ins c ns ws => obtain ⟨C, dx, vs, g, l', e, r⟩ := q; exact ⟨C, dx, vs, g, l', e, go old r⟩
            | nct l' wo ks ws =>
              obtain ⟨xs, e, kn, r⟩ := q
              refine ⟨xs, e, ⟨kn.1, fun i k x h1 h2 => ?_⟩, go old r⟩
              obtain ⟨e1, e2⟩ := kn.2 i k x h1 h2
              exact ⟨e1, fz0_at lw cw (fun _ _ _ _ z => by cases z) _ _ _ (fz0_nkeyM n (fun _ => none) e1) e2⟩
            | frz w =>
              have old' : (fz0 n (fun _ => none) w).isSome = true := old
              cases y : fz0 n (fun _ => none) w with
              | none => rw [y] at old'; cases old'
              | some u =>
                have z := fz0_id w u y
                subst z
                exact fz0_at lw cw (fun _ _ _ _ z => by cases z) _ _ _ y q
          have oldT : ∀ {m : Nat} {d : Cel}, (st.take n)[m]? = some d → oldW n d = true := fun h => List.all_eq_true.mp ho _ (List.mem_of_getElem? h)
          refine P (μ.take n ++ [a]) H _ ⟨by simp [lt, ls], fun i i2 b d d2 h1 h2 h3 h4 h5 h6 => ?_, fun i b d h1 h2 h3 => ?_, k.hidt, fun i b d h1 h2 => ?_⟩ ⟨by rw [ht]; exact ⟨[a], rfl⟩, g.le.trans lw, g.hid, g.lck⟩ ?_
          · rcases spl h1 h3 with ⟨y1, y2, y3, _, _⟩ | ⟨y1, y2, y3⟩ <;> rcases spl h2 h4 with ⟨z1, z2, z3, _, _⟩ | ⟨z1, z2, z3⟩
            · exact k.inj i i2 b d d2 y2 z2 y3 z3 h5 h6
            · subst z2 z3
              have := k.inj i j b d d2 y2 e1 y3 e h5 h6
              omega
            · subst y2 y3
              have := k.inj i2 j b d2 d z2 e1 z3 e h6 h5
              omega
            · omega
          · rcases spl h1 h2 with ⟨y1, y2, y3, _, _⟩ | ⟨y1, y2, y3⟩
            · exact k.hidn i b d y2 y3 h3
            · subst y2 y3; exact k.hidn j b d e1 e h3
          · rcases spl h1 h2 with ⟨y1, y2, y3, y4, y5⟩ | ⟨y1, y2, y3⟩
            · exact cel y2 y3 (oldT y5)
            · subst y2 y3; exact cel e1 e oc
          · unfold Rep
            exact ⟨a, by rw [List.getElem?_append_right (by omega), lt]; simp, rfl⟩
        · exact P.elim
      · exact P.elim
    · exact P.elim
  · exact P.elim

/-! ## a def keeps what its body says -/
theorem start_get {N : List Str} {vs : List V} {i : Nat} {v : V} (h : vs[i]? = some v) : (L2.start N vs)[i]? = some (some v) := by
  have hi : i < vs.length := by
    rcases Nat.lt_or_ge i vs.length with q | q
    · exact q
    · rw [List.getElem?_eq_none q] at h; cases h
  unfold L2.start
  rw [List.getElem?_append_left (by simpa using hi), List.getElem?_map, h]; rfl
theorem fn_okG {lv : Nat → W → Sto → Out W} {P : Program} {w : World} {K : PySem.W.Frag} {mg : Str → Option Value} {base : Heap} {x qual : Str} {st : Stmt} {f : Addr} {fd : FuncData} {N ps : List Str} {k m n : Nat} {b : SSem} (hlv : LvOk K mg lv) (F : Fun K x qual st f fd) (S : FnScope N ps (defScope st)) (hm : N.length = m := by rfl) (hn : ps.length = n := by rfl)
    (hb : ∀ (cdv : Value) (A : Around) (outer : List Env) (s : Shared) (H : Hp) (E : XK), Ctx (cxOf (L2.CX P w) P w K mg base N qual (defScope st) f cdv A outer s H E) (Wish.of fun c d _ H => E c d H) k → BV (cxOf (L2.CX P w) P w K mg base N qual (defScope st) f cdv A outer s H E) (Wish.of fun c d _ H => E c d H) (defBody st) b) :
    FnOk P w K mg base (L2.CX P w) (k + 1) f fd ps (spF K mg n (mkFnG lv m b)) := by
  refine F.okX S (fun vs H Q E h => ?_) (fun cdv A outer s H vs Q E hr h => ?_)
  · obtain ⟨_, _, _, _, h, _⟩ := h
    rw [h, hn]
  · refine ⟨_, hb cdv A outer s H E ⟨rfl, S.nd, hr, takes_of rfl rfl rfl rfl, passes_of (K := fun e s'' => L2.CX P w outer H s E e s'') rfl⟩, ?_⟩
    obtain ⟨hid, μ, st0, ws, hl, k0, r, P0⟩ := h
    have wl : ws.length = vs.length := r.length
    refine ⟨μ, st0, hid, ws.map some ++ List.replicate (m - ws.length) none, ⟨k0, ?_, fun i u hi => ?_, trivial⟩, ?_⟩
    · unfold L2.start
      simp only [List.length_append, List.length_map, List.length_replicate, wl, hm]
    · by_cases hlt : i < ws.length
      · rw [List.getElem?_append_left (by simpa using hlt), List.getElem?_map] at hi
        cases e : ws[i]? with
        | none => rw [e] at hi; cases hi
        | some u' =>
          rw [e] at hi
          cases hi
          obtain ⟨v, e1, e2⟩ := r.get e
          exact ⟨v, start_get e1, e2⟩
      · rw [List.getElem?_append_right (by simpa using hlt), List.getElem?_replicate] at hi
        split at hi <;> cases hi
    · unfold mkFnG at P0
      cases e : b (ws.map some ++ List.replicate (m - ws.length) none) st0 with
      | bad => rw [e] at P0; exact P0
      | bk f s => rw [e] at P0; exact P0.elim
      | ct f s => rw [e] at P0; exact P0.elim
      | nx f s =>
        rw [e] at P0
        exact fun μ' σ' H' S' g => leave_at k0.len g S'.sto rep_non P0
      | rt u s =>
        rw [e] at P0
        exact fun μ' H' v k' g r' => hlv _ _ _ _ _ _ _ _ _ _ _ _ _ k0.len g k' r' P0
      | er x f s =>
        rw [e] at P0
        exact fun μ' σ' H' c d S' g xr => leaveX_at k0.len g S'.sto xr P0
end SL

namespace SL
open PySem PySem.Spec PyProof.Rows L2

/-! ## a def of the text, by its name -/
structure FnIs (P : Program) (w : World) (K : PySem.W.Frag) (mg : Str → Option Value) (base : Heap) (x : Str) (k n : Nat) (F : Fn) : Prop where
  ex : ∃ (g : Addr) (fd : FuncData) (ps : List Str), FnOk P w K mg base (L2.CX P w) k g fd ps (spF K mg n F) ∧ mg x = some (.ref g) ∧ PySem.W.keepIn K (.ref g) = true ∧ Binds K fd ps []
section
variable {X : Cx} {Wx : Wish}
theorem ev_callI {k j n : Nat} {x : Str} {F : Fn} {e : Expr} {es : List Expr} {f : SemL} {p pos : Pos} (I : FnIs X.prog X.w X.K X.mg X.base x k n F) (C : Ctx X Wx j) (hk : k ≤ j) (ha : AV X Wx (e :: es) f) (ar : ArN n f) (hg : Gl X x := by rfl) (hdb : (x == ("__debug__" : Str)) = false := by decide)
    (he : starEach (e :: es) X.env = (false, eval e X.env) :: starEach es X.env := by rfl) (hpl : (backTo pos (starEach es X.env)).any (·.1) = false := by rfl) : EV X Wx (.Call (.Name x p) (e :: es) [] pos) (eCall F f) := by
  obtain ⟨g, fd, ps, h1, h2, h3, h4⟩ := I.ex
  exact ev_call h1 (C.room.mono hk) h2 h3 h4 C.tk ha ar hg hdb he hpl
/-- a method of a built-in type -/
theorem ev_m {T id : String} {name : Str} {ty : Sto → W → Bool} {op : OpM} {r : V → List V → Hp → VK → Prop} {o e : Expr} {es : List Expr} {f : Sem} {g : SemL} {apos cpos : Pos} (pa : PlainAttrs T) (slot : Slot T name id) (hty : typeOf (.builtin id) = pure (.type "method_descriptor"))
    (ht : ∀ (hid μ : List Addr) (st : Sto) (H : Hp) (w : W) (v : V), StOk X.K X.mg μ st hid H → Rep X.K X.mg (Fz μ st hid H) μ w v → ty st w = true → tyV X.K T v H) (hm : MtR X id r) (hs : OpMS X op r) (ho : EV X Wx o f) (ha : AV X Wx (e :: es) g)
    (hbase : attributeBase o name X.env (eval o X.env) = eval o X.env := by rfl) (hline : (apos.endLine == cpos.line) = true := by rfl) (he : starEach (e :: es) X.env = (false, eval e X.env) :: starEach es X.env := by rfl) (hpl : (backTo cpos (starEach es X.env)).any (·.1) = false := by rfl)
    (hfew : ((backTo cpos (starEach (e :: es) X.env)).all (fun x => !x.1) && (backToKw cpos (keywordEach [] X.env)).all (fun x => x.1.isSome) && decide ((e :: es).length + ([] : List Keyword).length + (if ([] : List Keyword).isEmpty then 0 else 1) < 30)) = true := by rfl) :
    EV X Wx (.Call (.Attribute o name apos) (e :: es) [] cpos) (eM ty op f g) := PEm (pe_bm pa slot hty hm ho ha (hbase := hbase) (hline := hline) (hs := he) (hplain := hpl) (hfew := hfew)) (eM_read ht hs)
/-- {} -/
theorem ev_dict0 {pos : Pos} : EV X Wx (.Dict [] [] pos) (eC (.dct [] [])) := PEm pe_dnewK fun σ H Q ⟨μ, st, hid, fr, S, P⟩ => by
  intro d hd
  refine ok_new (o := .dK []) P S.sto hd fun F l e => ?_
  unfold Rep
  exact ⟨d, [], rfl, ⟨false, .inl [], rfl, rfl, .inl e, (fun _ kk z => nomatch z), fun z => nomatch z⟩, .nil⟩
theorem lkS {K : PySem.W.Frag} {mg : Str → Option Value} {i j : Nat} {x : Exc} {a : Addr} {cls : Value} {d : Option Addr} (h : i ≠ j) (h2 : i ∉ Wx.lock) : i ∉ (Wx.suite K mg (some j) x a cls d).lock := fun z => by
  rcases List.mem_append.mp z with z | z
  · exact h (List.mem_singleton.mp z)
  · exact h2 z
theorem lkN {K : PySem.W.Frag} {mg : Str → Option Value} {i : Nat} {x : Exc} {a : Addr} {cls : Value} {d : Option Addr} (h2 : i ∉ Wx.lock) : i ∉ (Wx.suite K mg none x a cls d).lock := h2
end
/-- the body's own context -/
theorem fn_is {lv : Nat → W → Sto → Out W} {P : Program} {w : World} {K : PySem.W.Frag} {mg : Str → Option Value} {base : Heap} {x qual : Str} {st : Stmt} {f : Addr} {fd : FuncData} {N ps : List Str} {k m n : Nat} {b : SSem} (hlv : LvOk K mg lv) (F : Fun K x qual st f fd) (hx : mg x = some (.ref f)) (hB : Binds K fd ps []) (S : FnScope N ps (defScope st))
    (hb : ∀ (cdv : Value) (A : Around) (outer : List Env) (s : Shared) (H : Hp) (E : XK), Ctx (cxOf (L2.CX P w) P w K mg base N qual (defScope st) f cdv A outer s H E) (Wish.of fun c d _ H => E c d H) k → BV (cxOf (L2.CX P w) P w K mg base N qual (defScope st) f cdv A outer s H E) (Wish.of fun c d _ H => E c d H) (defBody st) b)
    (hm : N.length = m := by rfl) (hn : ps.length = n := by rfl) : FnIs P w K mg base x (k + 1) n (mkFnG lv m b) :=
  ⟨f, fd, ps, fn_okG hlv F S hm hn hb, hx, F.kp, hB⟩
end SL

namespace SL
open PySem PySem.Spec PyProof.Rows L2
section
variable {X : Cx} {Wx : Wish}
theorem ev_blk {k : Nat} {s : Shared} {H : Hp} {scope : Scope} {cenv : Env} {fp : List Addr} {elt : Expr} {e : Sem} (C : Ctx X Wx k) (h : Ctx (X.blk s H scope cenv fp) Wx.blk k → EV (X.blk s H scope cenv fp) Wx.blk elt e) : EV (X.blk s H scope cenv fp) Wx.blk elt e := h (C.blk ..)
theorem pt_blk {k : Nat} {s : Shared} {H : Hp} {scope : Scope} {cenv : Env} {fp : List Addr} {ifs : List Expr} {t : TT} (C : Ctx X Wx k) (h : Ctx (X.blk s H scope cenv fp) Wx.blk k → PTs (X.blk s H scope cenv fp) ifs t) : PTs (X.blk s H scope cenv fp) ifs t := h (C.blk ..)
theorem ev_gI {x : Str} {i : Int} {pos : Pos} (hm : ∃ t, X.mg x = some (.int i t)) (hg : Gl X x := by rfl) (hd : (x == ("__debug__" : Str)) = false := by decide) : EV X Wx (.Name x pos) (eC (.int i)) := by
  obtain ⟨t, h⟩ := hm
  exact ev_globI h hg hd
theorem ev_gS {x : Str} {i : Str} {pos : Pos} (hm : ∃ t, X.mg x = some (.str i t)) (hg : Gl X x := by rfl) (hd : (x == ("__debug__" : Str)) = false := by decide) : EV X Wx (.Name x pos) (eC (.str i)) := by
  obtain ⟨t, h⟩ := hm
  exact ev_globS h hg hd
end
theorem cx_no {P : Program} (w : World) (H : Hp) (s : Shared) (e : Value) (s' : Shared) (z : L2.CX P w [] H s (fun _ _ _ => False) e s') : False := by
  obtain ⟨_, _, _, _, _, _, _, _, _, _, _, _, z⟩ := z
  exact z
theorem ro_reps {K : PySem.W.Frag} {mg : Str → Option Value} {F : Hp} {μ : List Addr} : ∀ ns : List Int, Reps K mg F μ (ns.map W.int) (ns.map V.int)
  | [] => .nil
  | n :: r => .cons rep_int (ro_reps r)
theorem fz_nil {H : Hp} : Fz [] [] [] H = H := by
  funext a
  unfold Fz
  rw [if_neg]
  rintro (h | ⟨k, c, h, _⟩)
  · cases h
  · cases h
theorem spF_of {K : PySem.W.Frag} {mg : Str → Option Value} {F : Fn} {a : Addr} {ns : List Int} {H : Hp} {Q : VK} {E : XK} {st : Sto} (hS : SqL K H a (ns.map V.int)) (e : F [.ro (ns.map W.int)] [] = .ok (.bl true) st) (hq : ∀ H', Q (.bl true) H') : spF K mg 1 F [.ref a] H Q E := by
  refine ⟨[], [], [], [.ro (ns.map W.int)], rfl, ⟨rfl, fun i j a c d h => (nomatch h), fun i a c h => (nomatch h), fun a h => (nomatch h), fun i a c h => (nomatch h)⟩, .cons ?_ .nil, ?_⟩
  · unfold Rep
    exact ⟨a, _, rfl, by rw [fz_nil]; exact hS, ro_reps ns⟩
  · rw [e]
    intro μ' H' v k g r
    cases rep_bl_inv r
    exact hq H'
end SL

namespace SL
open PySem PySem.Spec PyProof.Rows L2
/-! ## instances of own classes -/
def insW (st : Sto) : W → Option (Str × List Str × List W)
  | .ins c ns ws => some (c, ns, ws)
  | .cell k => match st[k]? with
    | some (.ins c ns ws) => some (c, ns, ws)
    | some (.frz (.ins c ns ws)) => some (c, ns, ws)
    | _ => none
  | _ => none
theorem rep_ins_inv {K : PySem.W.Frag} {mg : Str → Option Value} {F : Hp} {μ : List Addr} {c : Str} {ns : List Str} {ws : List W} {v : V} (h : Rep K mg F μ (.ins c ns ws) v) : ∃ a C dx vs, v = .ref a ∧ mg c = some (.ref C) ∧ ns.length = vs.length ∧ F a = some (.ins C dx (ns.zip vs)) ∧ Reps K mg F μ ws vs := by
  unfold Rep at h; exact h
theorem insW_at {K : PySem.W.Frag} {mg : Str → Option Value} {μ : List Addr} {st : Sto} {hid : List Addr} {H : Hp} (s : StOk K mg μ st hid H) {w : W} {c : Str} {ns : List Str} {ws : List W} {v : V} (h : insW st w = some (c, ns, ws)) (r : Rep K mg (Fz μ st hid H) μ w v) :
    ∃ a C dx vs, v = .ref a ∧ mg c = some (.ref C) ∧ ns.length = vs.length ∧ H a = some (.ins C dx (ns.zip vs)) ∧ Reps K mg (Fz μ st hid H) μ ws vs := by
  cases w with
  | ins c' ns' ws' =>
    unfold insW at h; cases h
    obtain ⟨a, C, dx, vs, h1, h2, h3, h4, h5⟩ := rep_ins_inv r
    exact ⟨a, C, dx, vs, h1, h2, h3, (Fz.sub h4).1, h5⟩
  | cell k =>
    unfold insW at h
    simp only at h
    split at h
    · rename_i c' ns' ws' e
      cases h
      obtain ⟨a, e1, e2, C, dx, vs, h1, h2, h3, h4⟩ := s.cell e r
      exact ⟨a, C, dx, vs, e1, h1, h2, h3, h4⟩
    · rename_i c' ns' ws' e
      cases h
      obtain ⟨a, e1, e2, h1⟩ := s.cell e r
      obtain ⟨b, C, dx, vs, e3, h1, h2, h3, h4⟩ := rep_ins_inv h1
      cases e3
      exact ⟨a, C, dx, vs, e1, h1, h2, (Fz.sub h3).1, h4⟩
    · cases h
  | _ => cases h
def FldOk (K : PySem.W.Frag) (mg : Str → Option Value) (cs : List Str) (f : Str) : Prop := ∀ c ∈ cs, ∀ C, mg c = some (.ref C) → Cls K C ∧ NoAttr K C f
theorem fldNil {K : PySem.W.Frag} {mg : Str → Option Value} {f : Str} : FldOk K mg [] f := fun c h => (nomatch h)
theorem fldCons {K : PySem.W.Frag} {mg : Str → Option Value} {c f : Str} {cs : List Str} {C : Addr} (hm : mg c = some (.ref C)) (h : Cls K C) (n : PySem.W.findIn K (.ref C) f = some none) (t : FldOk K mg cs f) : FldOk K mg (c :: cs) f := fun d hd D hD => by
  rcases List.mem_cons.mp hd with rfl | hd
  · rw [hm] at hD; cases hD; exact ⟨h, n⟩
  · exact t d hd D hD
/-- e.n -/
def eFld (cs : List Str) (n : Str) (f : Sem) : Sem := fun fr st => (f fr st).bind fun w st1 => match insW st1 w with
  | some (c, ns, ws) => if cs.contains c = true then (match lkp ns ws n with
    | some u => .ok u st1
    | none => .bad) else .bad
  | none => .bad
def putNs (n : Str) : List Str → List Str
  | [] => [n]
  | m :: r => if m = n then m :: r else m :: putNs n r
def putL {α : Type} (n : Str) (a : α) : List Str → List α → List α
  | [], _ => [a]
  | m :: r, u :: us => if m = n then a :: us else u :: putL n a r us
  | _ :: _, [] => [a]
theorem put_zip {n : Str} {v : V} : ∀ {ns : List Str} {vs : List V}, ns.length = vs.length → putF n v (ns.zip vs) = (putNs n ns).zip (putL n v ns vs) ∧ (putNs n ns).length = (putL n v ns vs).length
  | [], [], _ => ⟨rfl, rfl⟩
  | m :: ns, [], h => by simp at h
  | [], v :: vs, h => by simp at h
  | m :: ns, u :: vs, h => by
    obtain ⟨h1, h2⟩ := put_zip (n := n) (v := v) (ns := ns) (vs := vs) (by simpa using h)
    have hl : ns.length = vs.length := by simpa using h
    unfold putNs putL
    rw [List.zip_cons_cons, putF]
    by_cases e : m = n
    · rw [if_pos e, if_pos e, if_pos e]
      exact ⟨rfl, by simpa using h⟩
    · rw [if_neg e, if_neg e, if_neg e, h1]
      exact ⟨rfl, by simpa using h2⟩
theorem put_reps {K : PySem.W.Frag} {mg : Str → Option Value} {F : Hp} {μ : List Addr} {n : Str} {w : W} {v : V} (rw_ : Rep K mg F μ w v) : ∀ {ns : List Str} {ws : List W} {vs : List V}, Reps K mg F μ ws vs → ns.length = vs.length → Reps K mg F μ (putL n w ns ws) (putL n v ns vs)
  | [], ws, vs, r, h => by
    cases vs with
    | nil => cases ws <;> exact .cons rw_ .nil
    | cons => simp at h
  | m :: ns, [], vs, r, h => by rw [Reps.nil_iff] at r; subst r; simp at h
  | m :: ns, u :: ws, vs, r, h => by
    obtain ⟨x, t, rfl, h1, h2⟩ := r.cons_inv
    unfold putL
    by_cases e : m = n
    · rw [if_pos e, if_pos e]; exact .cons rw_ h2
    · rw [if_neg e, if_neg e]; exact .cons h1 (put_reps rw_ h2 (by simpa using h))
/-- o.n = e, o under construction -/
def sFldS (cs : List Str) (n : Str) (e o : Sem) : SSem := fun fr st => (e fr st).stm fr fun w st1 => (o fr st1).stm fr fun x st2 => match x with
  | .cell k => match st2[k]? with
    | some (.ins c ns ws) => if cs.contains c = true ∧ ns.length < 1000 then .nx fr (st2.set k (.ins c (putNs n ns) (putL n w ns ws))) else .bad
    | _ => .bad
  | _ => .bad
section
variable {X : Cx} {Wx : Wish}
theorem ev_fld {cs : List Str} {n : Str} {e : Expr} {f : Sem} {pos : Pos} (T : FldOk X.K X.mg cs n) (he : EV X Wx e f) (hb : attributeBase e n X.env (eval e X.env) = eval e X.env := by rfl) : EV X Wx (.Attribute e n pos) (eFld cs n f) := PEm (pe_fld he hb) fun σ H Q ⟨μ, st, hid, fr, S, P⟩ => by
  refine ⟨μ, st, hid, fr, S, ?_⟩
  unfold eFld at P
  cases h : f fr st with
  | bad => rw [h] at P; exact P
  | err x s => rw [h] at P; exact P
  | ok w st1 =>
    rw [h, Out.bind_ok] at P
    intro μ1 H1 v k1 g1 r1
    have P1 := EPost.from g1 P
    split at P1
    · rename_i c ns ws e
      split at P1
      · rename_i hc
        obtain ⟨a, C, dx, vs, rfl, hm, hl, ha, rr⟩ := insW_at k1 e r1
        obtain ⟨cl, no⟩ := T c (by simpa using hc) C hm
        split at P1
        · rename_i u eu
          obtain ⟨y, ey, ry⟩ := lkp_at eu rr
          exact ⟨a, C, dx, _, y, rfl, ha, cl, no, ey, P1 μ1 H1 y k1 .refl ry⟩
        · exact P1.elim
      · exact P1.elim
    · exact P1.elim
theorem sv_fld {cs : List Str} {n : Str} {o e : Expr} {fo fe : Sem} {pos pos' : Pos} (T : FldOk X.K X.mg cs n) (he : EV X Wx e fe) (ho : EV X Wx o fo) (hs : swapsWith e (some (.Attribute o n pos')) pos.line X.env = pure false := by rfl) :
    SV X Wx (.Assign [.Attribute o n pos'] e pos) (sFldS cs n fe fo) := PSm (ps_fld ho he hs) fun D σ H ⟨μ, st, hid, fr, S, P⟩ => by
  refine stm_read (t := id) S P fun w st1 μ1 H1 v S1 g1 r1 P1 => ?_
  refine stm_read (t := id) S1 P1 fun x st2 μ2 H2 ov S2 g2 r2 P2 => ?_
  split at P2
  · rename_i k
    split at P2
    · rename_i c ns ws ek
      split at P2
      · rename_i hc
        obtain ⟨a, rfl, h1, C, dx, vs, hm, hl, ha, rr⟩ := S2.sto.cell ek r2
        obtain ⟨cl, no⟩ := T c (by simpa using hc.1) C hm
        obtain ⟨z1, z2⟩ := put_zip (n := n) (v := v) hl
        refine ⟨a, C, dx, _, rfl, ha, cl, no, by rw [List.length_zip, ← hl, Nat.min_self]; exact hc.2, ?_⟩
        obtain ⟨k2, g3⟩ := S2.sto.setCell (c' := .ins c (putNs n ns) (putL n w ns ws)) (o := .ins C dx (putF n v (ns.zip vs))) h1 ek rfl rfl ⟨C, dx, putL n v ns vs, hm, z2, by rw [upd_same, z1], put_reps (Rep.mono g2.le g2.pre _ _ r1) rr hl⟩
        exact P2 μ2 σ _ (S2.next k2 g3) g3
      · exact P2.elim
    · exact P2.elim
  · exact P2.elim
end
/-! ## making -/
structure MkIs (P : Program) (w : World) (K : PySem.W.Frag) (mg : Str → Option Value) (base : Heap) (c : Str) (k n : Nat) (F : Fn) : Prop where
  ex : ∃ (C g : Addr) (fd : FuncData) (ps : List Str), Mk K C g ∧ FnOk P w K mg base (L2.CX P w) k g fd ps (spF K mg (n + 1) F) ∧ mg c = some (.ref C) ∧ Binds K fd ps []
def eMakeG (lv : Nat → W → Sto → Out W) (c : Str) (F : Fn) (f : SemL) : Sem := fun fr st => (f fr st).bind fun ws st1 => match F (.cell st1.length :: ws) (st1 ++ [.ins c [] []]) with
  | .ok .non st2 => lv st1.length (.cell st1.length) st2
  | .err x st2 => leaveX st1.length x st2
  | _ => .bad
abbrev eMake (c : Str) (F : Fn) (f : SemL) : Sem := eMakeG leave c F f
/-- the wish at one state -/
def tMakeS (C : Addr) (sp : Sp) (E : L2.St → XK) (t : TA) : TE := fun σ H Q => t σ H fun us H1 => ∀ x dx, H1 x = none → H1 dx = none → dx ≠ x → sp (V.ref x :: us) (upd (upd H1 dx (.own x)) x (.ins C dx [])) (fun v H2 => v = .non ∧ Q (.ref x) H2) (E σ)
section
variable {X : Cx} {Wx : Wish}
theorem make_run {k : Nat} {C g : Addr} {fd : FuncData} {ps : List Str} {sp : Sp} {E : XK} {pins : List (Addr × Obj)} {σ : L2.St} {H : Hp} {s : Shared} {Q : VK} {us : List Value} {vs : List V} (M : Mk X.K C g) (G : FnOk X.prog X.w X.K X.mg X.base (L2.CX X.prog X.w) k g fd ps sp) (hr : Room (k + 1) X.A) (B : Binds X.K fd ps [])
    (hx : PassesAt (L2.CX X.prog X.w) X σ E) (J : Inv X pins σ H s) (r : Vals vs us) (hq : ∀ x dx, H x = none → H dx = none → dx ≠ x → sp (V.ref x :: vs) (upd (upd H dx (.own x)) x (.ins C dx [])) (fun v H2 => v = .non ∧ Q (.ref x) H2) E) :
    wpAny (model X.prog X.w) X.A (call (.ref C) us) (EP X pins σ Q) X.xe s := by
  have q1 := hq (s.heap.objs.size + 1) s.heap.objs.size (J.hok.fresh (Nat.le_succ _)) (J.hok.fresh (Nat.le_refl _)) (Nat.ne_of_lt (Nat.lt_succ_self _))
  have J2 := Inv.made (C := C) J
  have rr : Vals (V.ref (s.heap.objs.size + 1) :: vs) (Value.ref (s.heap.objs.size + 1) :: us) := .cons rfl r
  have ll : (Value.ref (s.heap.objs.size + 1) :: us).length = ps.length := by
    have z := rr.length
    rw [G.len _ _ _ _ q1] at z
    exact z.symm
  have bb := B { s with heap := (s.heap.push PySem.W.emptyDict).push (PySem.W.instObj C s.heap.objs.size) } (Value.ref (s.heap.objs.size + 1) :: us) J2.kIn (by rw [List.append_nil]; exact ll)
  rw [List.append_nil] at bb
  refine wpAny_call (make_map (f := g) J.kIn M.makes M.init (beq_iff_eq.mp M.fn) (codeAny_mono (G.run _ X.stack _ _ ⟨Value.ref (s.heap.objs.size + 1) :: us, []⟩ (Value.ref (s.heap.objs.size + 1) :: us) _ _ E (hr.make C us [])
    (J2.env0.make C us []) bb rr q1) fun o s' z => ?_))
  cases o with
  | error e => exact hx pins _ _ e s' J2 z
  | ok fl =>
    cases fl with
    | ret u =>
      obtain ⟨v, H', J3, rv, ev, q3⟩ := J2.after z
      subst ev
      exact ⟨rv, ⟨V.ref (s.heap.objs.size + 1), H', J3, rfl, q3⟩⟩
    | next => exact False.elim z
    | brk => exact False.elim z
    | cont => exact False.elim z
theorem pe_makeS {k : Nat} {C g : Addr} {fd : FuncData} {ps : List Str} {sp : Sp} {E : L2.St → XK} {t : TA} {c : Str} {e : Expr} {es : List Expr} {p pos : Pos} (M : Mk X.K C g) (G : FnOk X.prog X.w X.K X.mg X.base (L2.CX X.prog X.w) k g fd ps sp) (hr : Room (k + 1) X.A) (B : Binds X.K fd ps []) (hm : X.mg c = some (.ref C)) (hx : ∀ σ, PassesAt (L2.CX X.prog X.w) X σ (E σ)) (ha : PA X (e :: es) t) (hg : Gl X c)
    (hdb : (c == ("__debug__" : Str)) = false) (he : starEach (e :: es) X.env = (false, eval e X.env) :: starEach es X.env) (hpl : (backTo pos (starEach es X.env)).any (·.1) = false) : PE X (.Call (.Name c p) (e :: es) [] pos) (tMakeS C sp E t) := ⟨fun pins s σ H Q J hq =>
  wpAny_Call_Name_kw (ld_glob J hg hm (PySem.W.callWith_K (h₀ := X.base) J.ok.mod.kin M.kp (thn (ha.run pos pins s σ H _ J hq) fun us s1 ⟨vs, H1, J1, r, q⟩ => ⟨J1.kIn, make_run M G hr B (hx σ) J1 r q⟩) he hpl) hdb)⟩
theorem make_read {lv : Nat → W → Sto → Out W} (hlv : LvOk X.K X.mg lv) {n : Nat} {c : Str} {C : Addr} {F : Fn} {f : SemL} (hm : X.mg c = some (.ref C)) (ar : ArN n f) : ∀ σ H Q, tE X.K X.mg Wx (eMakeG lv c F f) σ H Q → tMakeS C (spF X.K X.mg (n + 1) F) (WE Wx.w) (tA X.K X.mg Wx f) σ H Q := fun σ H Q ⟨μ, st, hid, fr, S, P⟩ => by
  refine ⟨μ, st, hid, fr, S, ?_⟩
  unfold eMakeG at P
  cases h : f fr st with
  | bad => rw [h] at P; exact P
  | err x s => rw [h] at P; exact P
  | ok ws st1 =>
    rw [h, Out.bind_ok] at P
    intro μ1 H1 vs k1 g1 r1 x dx nx nd ne
    have P1 := EPost.from g1 P
    obtain ⟨k2, g2, _⟩ := k1.laid (o := .own x) nd
    obtain ⟨k3, g3⟩ := k2.newCell (c := .ins c [] []) (p := x) (o := .ins C dx []) (by rw [upd_ne (Ne.symm ne)]; exact nx) rfl ⟨C, dx, [], hm, rfl, upd_same, .nil⟩
    have g4 := g2.trans g3
    refine ⟨hid, μ1 ++ [x], st1 ++ [.ins c [] []], .cell st1.length :: ws, by rw [List.length_cons, ← r1.length, ar _ _ _ _ h], k3, .cons ?_ (r1.mono g4.le g4.pre), ?_⟩
    · unfold Rep
      exact ⟨x, by rw [← k1.len]; simp, rfl⟩
    · cases e : F (.cell st1.length :: ws) (st1 ++ [.ins c [] []]) with
      | bad => rw [e] at P1; exact P1
      | err y st2 =>
        rw [e] at P1
        exact fun μ' H' c d k' g' xr => leaveX_at k1.len (g4.trans g') k' xr P1
      | ok u st2 =>
        rw [e] at P1
        intro μ' H' v k' g' rv
        cases u with
        | non =>
          refine ⟨rep_non_inv rv, ?_⟩
          refine hlv st1.length hid μ1 μ' st1 st2 H1 H' Wx.w σ Q (.cell st1.length) (.ref x) k1.len (g4.trans g') k' ?_ P1
          unfold Rep
          exact ⟨x, g'.pre.get (by rw [← k1.len]; simp), rfl⟩
        | _ => exact P1.elim
theorem ev_makeG {lv : Nat → W → Sto → Out W} (hlv : LvOk X.K X.mg lv) {k j n : Nat} {c : Str} {F : Fn} {f : SemL} {e : Expr} {es : List Expr} {p pos : Pos} (I : MkIs X.prog X.w X.K X.mg X.base c k n F) (C : Ctx X Wx j) (hk : k + 1 ≤ j) (ha : AV X Wx (e :: es) f) (ar : ArN n f) (hg : Gl X c := by rfl) (hdb : (c == ("__debug__" : Str)) = false := by decide)
    (he : starEach (e :: es) X.env = (false, eval e X.env) :: starEach es X.env := by rfl) (hpl : (backTo pos (starEach es X.env)).any (·.1) = false := by rfl) : EV X Wx (.Call (.Name c p) (e :: es) [] pos) (eMakeG lv c F f) := by
  obtain ⟨A, g, fd, ps, M, G, hm, B⟩ := I.ex
  exact PEm (pe_makeS M G (C.room.mono hk) B hm (fun σ => passAt C.tk σ) ha hg hdb he hpl) (make_read hlv hm ar)
end
end SL

namespace SL
open PySem PySem.Spec PyProof.Rows L2
/-! ## own classes: isinstance, == -/
structure ClsC (K : PySem.W.Frag) (C : Addr) : Prop where
  cl : Cls K C
  ha : PySem.W.findIn K (.ref C) "__class__" = some (some (.builtin "object.__class__"))
  hn : PySem.W.specialIn K (.builtin "object.__class__") "__get__" = some (some (.builtin "getset_descriptor.__get__"))
  htk : PySem.W.takesIn K (.builtin "object.__class__") = some true
  hm : PySem.W.mroIn K C (.type "object") = some true
  ic : PySem.W.isClsIn K C = true
  ty : PySem.W.typeIn K (.ref C) = some (.type "type")
section
variable {X : Cx} {Wx : Wish}
/-! ### == by an own __eq__ -/
structure EqIs (P : Program) (w : World) (K : PySem.W.Frag) (mg : Str → Option Value) (base : Heap) (c : Str) (k : Nat) (F : Fn) : Prop where
  ex : ∃ (C g : Addr) (fd : FuncData) (ps : List Str), mg c = some (.ref C) ∧ FnOk P w K mg base (L2.CX P w) k g fd ps (spF K mg 2 F) ∧ PySem.W.findIn K (.ref C) "__eq__" = some (some (.ref g)) ∧ PySem.W.isFn K (.ref g) = true ∧ Binds K fd ps []
end
end SL

/-! # sorted of tuples of ints, any number of them -/
namespace SLs
open PySem PySem.Spec PyProof.Rows
section
variable {prog : Program} {w : World} {A : Around} {E : Value → Shared → Prop} {s : Shared}
end
end SLs
namespace SL
open PySem PySem.Spec PyProof.Rows L2
section
variable {X : Cx}
end
end SL

/-! # (x,) * n for n = 1 and n <= 0 (for n >= 2 the library has it) -/
namespace SLm
open PySem PySem.Spec PyProof.Rows L2
/-- times one: the tuple itself -/
theorem tup_one (l : Addr) (items : Array Value) (n : Nat) (dd : Option Addr) (sl : Array (Option Value)) (u : Tok) :
    Meets (Builtin.«tuple.__mul__» ⟨[.ref l, .int 1 u], []⟩) (fun _ R s => s.heap.get? l = some { cls := .type "tuple", dict := dd, data := .seq items n, slots := sl } ∧ R (.ok (.ret (Value.ref l))) s) :=
  .of_wp fun prog w A R s h => by
    obtain ⟨hp, g, d, tk, os⟩ := s
    obtain ⟨hl, h⟩ := h
    have f1 := AutoSeq1.idx_int
    have c1 : (items.isEmpty || (1 : Int) == 1) = true := by simp
    wp_walk using wpAny_loadPart' hl
    repeat (first
      | (refine wpAny_ite_false (decide_eq_false (by decide)) ?_; wp_walk using wpAny_loadPart' hl)
      | (refine wpAny_ite_true (decide_eq_true (by exact c1)) ?_; wp_walk using wpAny_loadPart' hl))
    exact ⟨_, rfl, h⟩
/-- times nothing: a new empty tuple -/
theorem tup_none (l : Addr) (items : Array Value) (n : Nat) (dd : Option Addr) (sl : Array (Option Value)) (x : Int) (u : Tok) (c0 : (decide (x < -(2 ^ 63)) || decide (x ≥ 2 ^ 63)) = false) (c1 : x ≤ 0) (c3 : items.isEmpty = false) :
    Meets (Builtin.«tuple.__mul__» ⟨[.ref l, .int x u], []⟩) (fun _ R s => s.heap.get? l = some { cls := .type "tuple", dict := dd, data := .seq items n, slots := sl } ∧
      R (.ok (.ret (Value.ref s.heap.objs.size))) { s with heap := s.heap.push { cls := Value.type "tuple", data := Data.seq #[] }, toks := s.toks }) :=
  .of_wp fun prog w A R s h => by
    obtain ⟨hp, g, d, tk, os⟩ := s
    obtain ⟨hl, h⟩ := h
    have f1 := AutoSeq1.idx_int
    have k1 : (items.isEmpty || x == 1) = false := by
      rw [c3, Bool.false_or]
      exact beq_eq_false_iff_ne.mpr (by omega)
    have k2 : (decide (x ≤ 0) || items.isEmpty) = true := by
      rw [decide_eq_true c1]; rfl
    wp_walk using wpAny_loadPart' hl
    repeat (first
      | (refine wpAny_ite_false (decide_eq_false (by rw [c0]; exact Bool.false_ne_true)) ?_; wp_walk using wpAny_loadPart' hl)
      | (refine wpAny_ite_false (decide_eq_false (by rw [k1]; exact Bool.false_ne_true)) ?_; wp_walk using wpAny_loadPart' hl)
      | (refine wpAny_ite_true (decide_eq_true (by exact k2)) ?_; wp_walk using wpAny_loadPart' hl))
    exact ⟨_, rfl, h⟩
end SLm
namespace SL
open PySem PySem.Spec PyProof.Rows L2
def rRepFew (K : PySem.W.Frag) : R2 := fun x y H Q => ∃ l k xs, x = .ref l ∧ y = .int k ∧ SqT K H l xs ∧ xs ≠ [] ∧ -1000 ≤ k ∧ k ≤ 1 ∧ (k = 1 → Q (.ref l) H) ∧ (k ≤ 0 → ∀ p, H p = none → Q (.ref p) (upd H p (.tup [])))
section
variable {X : Cx}
theorem op_repFew : OpR X (binaryOp .Mult) (rRepFew X.K) := by
  intro pins s σ H x y v u Q J rx ry hq
  obtain ⟨l, k, xs, rfl, rfl, hT, hne, b1, b2, q1, q0⟩ := hq
  cases rx
  obtain ⟨t, rfl⟩ := ry
  obtain ⟨its, r, ⟨⟨cls, dd, data, sl⟩, ho, hc, n, hd⟩, hs⟩ := J.tuple hT
  simp only at hc hd
  subst hc hd
  have em : its.toArray.isEmpty = false := by
    cases its with
    | nil => exact absurd (List.eq_nil_of_length_eq_zero r.length) hne
    | cons a b => rfl
  have rest : ∀ (R : Value → Shared → Prop), (call (.builtin "tuple.__mul__") [.ref l, .int k t] |> fun m => wpAny (model X.prog X.w) X.A m R X.xe s) → wpAny (model X.prog X.w) X.A (binaryOp .Mult (.ref l) (.int k t)) R X.xe s := fun R hm =>
    wpAny_binaryOp_repeat_ref (T := "tuple") (U := "int") (by decide) ⟨_, ho, rfl⟩ (fun s' => typeIs_int s' k t) noFill_tuple_mul F.fills_int_mul F.slot_int_rmul repeat_tuple F.slot_int_index.lookup
      (call_meets F.slot_int_rmul (typeIs_int s k t) F.entry_int_rmul (F.args_int_rmul_2 _ _) (int_rmul_tuple k t l its.toArray n dd sl) ⟨ho, rfl, ⟨_, ho, rfl⟩, hm⟩)
  refine rest _ ?_
  by_cases h1 : k = 1
  · subst h1
    exact call_meets F.slot_tuple_mul ⟨_, ho, rfl⟩ F.entry_tuple_mul (F.args_tuple_mul_2 _ _) (SLm.tup_one l its.toArray n dd sl t) ⟨ho, .ref l, H, J, rfl, q1 rfl⟩
  · have h0 : k ≤ 0 := by omega
    have c0 : (decide (k < -(2 ^ 63)) || decide (k ≥ 2 ^ 63)) = false := by
      rw [decide_eq_false (by omega), decide_eq_false (by omega)] <;> rfl
    refine call_meets F.slot_tuple_mul ⟨_, ho, rfl⟩ F.entry_tuple_mul (F.args_tuple_mul_2 _ _) (SLm.tup_none l its.toArray n dd sl k t c0 h0 em) ⟨ho, ?_⟩
    refine ⟨.ref s.heap.objs.size, _, J.laid (t' := s.toks) (o := .tup []) (fun b ob q => Heap.get?_push_of_some _ q) (Nat.le_refl _) ?_, rfl, q0 h0 _ (J.hok.fresh (Nat.le_refl _))⟩
    exact ⟨Nat.zero_le _, [], .nil, IsTup.new _ _⟩
/-- ints; a tuple so many times -/
noncomputable def oMulX : Op2 := fun x y st => match x, y with
  | .tup ws, .int k => if ws = [] then .bad else if dec (-1000 ≤ k ∧ k ≤ 1000 ∧ ws.length ≤ 1000) = true then .ok (.tup (List.replicate k.toNat ws).flatten) st else .bad
  | x, y => oMul x y st
def rMulX (K : PySem.W.Frag) : R2 := fun x y H Q => rMulAll x y H Q ∨ rRepT K x y H Q ∨ rRepFew K x y H Q
theorem or_mulX : OpR X (binaryOp .Mult) (rMulX X.K) := or_mul.or (op_repT.or op_repFew)
theorem reps_rep {K : PySem.W.Frag} {mg : Str → Option Value} {F : Hp} {μ : List Addr} {ws : List W} {vs : List V} (r : Reps K mg F μ ws vs) : ∀ m : Nat, Reps K mg F μ (List.replicate m ws).flatten (List.replicate m vs).flatten
  | 0 => .nil
  | m + 1 => by
    rw [List.replicate_succ, List.replicate_succ, List.flatten_cons, List.flatten_cons]
    exact r.append (reps_rep r m)
theorem os_mulX : Op2S X oMulX (rMulX X.K) := by
  intro Wx hid μ st σ H Q w u x y k rx ry P
  unfold oMulX at P
  split at P
  · rename_i ws m
    cases rep_int_inv ry
    split at P
    · exact P.elim
    · rename_i hne
      split at P
      · rename_i hg
        obtain ⟨g1, g2, g3⟩ := dec_of hg
        obtain ⟨a, vs, rfl, h1, h2⟩ := rep_tup_inv rx
        have hl := h2.length
        have hv : vs ≠ [] := fun z => by
          rw [z] at hl
          exact hne (List.eq_nil_of_length_eq_zero hl)
        by_cases hm : 2 ≤ m
        · exact .inr (.inl ⟨a, m, vs, rfl, rfl, h1.fz, hv, hm, g2, by rw [← hl]; exact g3, fun p hp => ok_new P k hp fun F l e => rep_tup e (reps_rep (h2.mono l (.refl _)) _)⟩)
        · refine .inr (.inr ⟨a, m, vs, rfl, rfl, h1.fz, hv, g1, by omega, fun e => ?_, fun e p hp => ?_⟩)
          · subst e
            have z : (List.replicate (1 : Int).toNat ws).flatten = ws := by simp
            rw [z] at P
            exact P μ H _ k .refl rx
          · have z : (List.replicate m.toNat ws).flatten = [] := by
              have : m.toNat = 0 := by omega
              rw [this]; rfl
            rw [z] at P
            exact ok_new P k hp fun F l e => rep_tup e .nil
      · exact P.elim
  · exact .inl (os_mul _ hid μ st σ H Q _ _ _ _ k rx ry P)
/-! ## sorted -/
def tupsI : List W → Option (List (List Int))
  | [] => some []
  | .tup ws :: r => match intsW ws, tupsI r with
    | some n, some l => some (n :: l)
    | _, _ => none
  | _ => none
/-- there is one sorted order -/
theorem one_order {α : Type} {R : α → α → Prop} : ∀ {l m : List α}, l.Perm m → l.Pairwise R → m.Pairwise R → (∀ a ∈ l, ∀ b ∈ l, R a b → R b a → a = b) → l = m
  | [], m, p, _, _, _ => by rw [p.symm.eq_nil]
  | a :: l, [], p, _, _, _ => by exact absurd p.eq_nil (by simp)
  | a :: l, b :: m, p, h1, h2, h => by
    have ha : a ∈ b :: m := p.mem_iff.mp List.mem_cons_self
    have hb : b ∈ a :: l := p.mem_iff.mpr List.mem_cons_self
    have e : a = b := by
      rcases List.mem_cons.mp ha with e | ha'
      · exact e
      · rcases List.mem_cons.mp hb with e | hb'
        · exact e.symm
        · exact h a List.mem_cons_self b hb ((List.pairwise_cons.mp h1).1 b hb') ((List.pairwise_cons.mp h2).1 a ha')
    subst e
    rw [one_order (List.Perm.cons_inv p) (List.pairwise_cons.mp h1).2 (List.pairwise_cons.mp h2).2 fun x hx y hy => h x (List.mem_cons_of_mem _ hx) y (List.mem_cons_of_mem _ hy)]
end
end SL

namespace SL
open PySem PySem.Spec PyProof.Rows L2
/-! ## sorted, sound -/
section
variable {K : PySem.W.Frag} {mg : Str → Option Value} {F : Hp} {μ : List Addr}
def tupOf (l : List Int) : W := .tup (l.map .int)
theorem intsW_eq : ∀ {ws : List W} {ns : List Int}, intsW ws = some ns → ws = ns.map .int
  | [], ns, h => by unfold intsW at h; cases h; rfl
  | .int b :: ws, ns, h => by
    unfold intsW at h
    cases e : intsW ws with
    | none => rw [e] at h; cases h
    | some ms => rw [e] at h; cases h; rw [intsW_eq e]; rfl
  | .non :: _, _, h | .ty _ :: _, _, h | .bl _ :: _, _, h | .str _ :: _, _, h | .tup _ :: _, _, h | .lst _ :: _, _, h | .dct _ _ :: _, _, h | .ins _ _ _ :: _, _, h | .cell _ :: _, _, h | .ro _ :: _, _, h | .tpn _ :: _, _, h | .cls _ :: _, _, h => by unfold intsW at h; cases h
theorem tupsI_eq : ∀ {ws : List W} {L : List (List Int)}, tupsI ws = some L → ws = L.map tupOf
  | [], L, h => by unfold tupsI at h; cases h; rfl
  | .tup us :: ws, L, h => by
    unfold tupsI at h
    cases e1 : intsW us with
    | none => rw [e1] at h; cases h
    | some n =>
      cases e2 : tupsI ws with
      | none => rw [e1, e2] at h; cases h
      | some l =>
        rw [e1, e2] at h; cases h
        rw [intsW_eq e1, tupsI_eq e2]; rfl
  | .non :: _, _, h | .ty _ :: _, _, h | .bl _ :: _, _, h | .str _ :: _, _, h | .int _ :: _, _, h | .lst _ :: _, _, h | .dct _ _ :: _, _, h | .ins _ _ _ :: _, _, h | .cell _ :: _, _, h | .ro _ :: _, _, h | .tpn _ :: _, _, h | .cls _ :: _, _, h => by unfold tupsI at h; cases h
theorem reps_ints : ∀ {ns : List Int} {vs : List V}, Reps K mg F μ (ns.map .int) vs → vs = ns.map .int
  | [], vs, h => by rw [List.map_nil, Reps.nil_iff] at h; exact h
  | n :: ns, vs, h => by
    obtain ⟨v, t, rfl, h1, h2⟩ := h.cons_inv
    rw [rep_int_inv h1, reps_ints h2]; rfl
end
section
variable {X : Cx}
theorem tup_I {K : PySem.W.Frag} {mg : Str → Option Value} {H : Hp} {hid μ : List Addr} {st : Sto} {l : List Int} {v : V} (r : Rep K mg (Fz μ st hid H) μ (tupOf l) v) : TupI K H v l := by
  obtain ⟨a, vs, rfl, h1, h2⟩ := rep_tup_inv r
  rw [reps_ints h2] at h1
  exact ⟨a, rfl, h1.fz⟩
end
end SL

/-! # sum of a tuple of ints -/
namespace SLt
open PySem PySem.Spec PyProof.Rows
section
variable {prog : Program} {w : World} {A : Around} {E : Value → Shared → Prop} {s : Shared}
end
end SLt
namespace SL
open PySem PySem.Spec PyProof.Rows L2
section
variable {X : Cx}
/-! ## list(x), that is to change -/
end
end SL

namespace SL
open PySem PySem.Spec PyProof.Rows L2
/-! # more of lists: extend by a list, pop; max and min -/
section
variable {X : Cx}
def oMin2 : OpN := fun ws st => match ws with
  | [.int i, .int j] => .ok (.int (if j < i then j else i)) st
  | _ => .bad
theorem os_min2 : OpNS X oMin2 (fun xs H Q => ∃ i j, xs = [.int i, .int j] ∧ Q (.int (if j < i then j else i)) H) := by
  intro Wx hid μ st σ H Q ws vs k r P
  unfold oMin2 at P
  split at P
  · obtain ⟨v, y, rfl, r1, r2⟩ := reps2 r
    cases rep_int_inv r1
    cases rep_int_inv r2
    exact ⟨_, _, rfl, P μ H _ k .refl rep_int⟩
  · exact P.elim
end
end SL

namespace SLx
open PySem PySem.AutoSeq1
end SLx
namespace SL
open PySem PySem.Spec PyProof.Rows L2
/-! # extend by a tuple -/
section
variable {X : Cx}
end
end SL

/-! # max, min of a tuple of ints -/
namespace SLt
open PySem PySem.Spec PyProof.Rows
section
variable {prog : Program} {w : World} {A : Around} {E : Value → Shared → Prop} {s : Shared}
theorem iter_tupInts {t : Addr} {xs : Array (Int × Tok)} {Q : Value → Shared → Prop} (ht : s.heap.IsTuple t (intItems xs))
    (h : ∀ s2 : Shared, s2 = { s with heap := s.heap.push { cls := .type "tuple_iterator", data := .fields #[.ref t, .int 0 0] } } → (s2.heap.IsTupleIter s.heap.objs.size t 0 ∧ s2.heap.IsTuple t (intItems xs)) → (∀ b ∈ [s.heap.objs.size, t], b < s2.heap.objs.size) → t ≠ s.heap.objs.size → Q (.ref s.heap.objs.size) s2) :
    wpAny (model prog w) A (pyIter (.ref t)) Q E s := by
  have hlt : t < s.heap.objs.size := by obtain ⟨_, q, _⟩ := ht; exact Heap.lt_size q
  refine wpAny_pyIter_tuple ht (h _ rfl ⟨⟨_, Heap.get?_push_size _ rfl, rfl, rfl⟩, ht.at fun o q => Heap.get?_push_of_some _ q⟩ (fun b hb => ?_) (Nat.ne_of_lt hlt))
  show b < (s.heap.push _).objs.size
  rw [Heap.size_push]
  rcases List.mem_cons.mp hb with e | hb
  · subst e; exact Nat.lt_succ_self _
  · rcases List.mem_cons.mp hb with e | hb
    · subst e; exact Nat.lt_succ_of_lt hlt
    · cases hb
theorem max_tup {t : Addr} {its : List Value} {ns : List Int} {Q : Value → Shared → Prop} (hh : A.handled = none) (ht : s.heap.IsTuple t its.toArray) (hi : IntsAre its ns) (hne : 0 < ns.length)
    (h : ∀ h' tk M t', (∀ b o, s.heap.get? b = some o → h'.get? b = some o) → M ∈ ns → (∀ a, a ∈ ns → a ≤ M) → Q (.int M t') { s with heap := h', toks := tk }) : wpAny (model prog w) A (call (.builtin "max") [.ref t]) Q E s := by
  obtain ⟨xs, e⟩ := hi.allInts.items
  have en : numsOf (intItems xs).toList = ns := by rw [← e]; exact hi.numsOf
  rw [nums_intItems] at en
  subst en
  rw [e] at ht
  have hsz : 0 < xs.size := by simpa using hne
  refine call_max_walk (iter_tupInts ht fun s2 e2 st hfp hlI => ?_)
  subst e2
  refine ⟨_, _, _, _, _, _, _, rfl, Walks.tuple (A := A.in1) hh _ t hlI (intItems xs), st, hfp, by simpa [intItems] using hsz, CmpOf.ints_gt (numAt xs) (fun _ _ => intItems_at), fun v h' tk hP hk => ?_⟩
  have hv : (intItems xs)[argBest (fun i j => decide (numAt xs i > numAt xs j)) (xs.size - 1)]? = some v := by simpa [intItems] using hP
  obtain ⟨u, rfl⟩ := intItems_at hv
  obtain ⟨g1, g2⟩ := argBest_gt (numAt xs) (xs.size - 1)
  refine h h' tk _ u (fun b o eb => hk b o (fun z => by
    rcases List.mem_cons.mp z with z | z
    · subst z; exact Nat.lt_irrefl _ (Heap.lt_size eb)
    · cases z) (Heap.get?_push_of_some _ eb)) ?_ fun a ha => ?_
  · rw [numAt_eq]; exact PySem.getD_mem (by rw [List.length_map, Array.length_toList]; omega)
  · obtain ⟨j, hj, rfl⟩ := mem_getD ha
    rw [List.length_map, Array.length_toList] at hj
    rw [← numAt_eq]; exact g2 j (by omega)
theorem min_tup {t : Addr} {its : List Value} {ns : List Int} {Q : Value → Shared → Prop} (hh : A.handled = none) (ht : s.heap.IsTuple t its.toArray) (hi : IntsAre its ns) (hne : 0 < ns.length)
    (h : ∀ h' tk M t', (∀ b o, s.heap.get? b = some o → h'.get? b = some o) → M ∈ ns → (∀ a, a ∈ ns → M ≤ a) → Q (.int M t') { s with heap := h', toks := tk }) : wpAny (model prog w) A (call (.builtin "min") [.ref t]) Q E s := by
  obtain ⟨xs, e⟩ := hi.allInts.items
  have en : numsOf (intItems xs).toList = ns := by rw [← e]; exact hi.numsOf
  rw [nums_intItems] at en
  subst en
  rw [e] at ht
  have hsz : 0 < xs.size := by simpa using hne
  refine call_min_walk (iter_tupInts ht fun s2 e2 st hfp hlI => ?_)
  subst e2
  refine ⟨_, _, _, _, _, _, _, rfl, Walks.tuple (A := A.in1) hh _ t hlI (intItems xs), st, hfp, by simpa [intItems] using hsz, CmpOf.ints_lt (numAt xs) (fun _ _ => intItems_at), fun v h' tk hP hk => ?_⟩
  have hv : (intItems xs)[argBest (fun i j => decide (numAt xs i < numAt xs j)) (xs.size - 1)]? = some v := by simpa [intItems] using hP
  obtain ⟨u, rfl⟩ := intItems_at hv
  obtain ⟨g1, g2⟩ := argBest_lt (numAt xs) (xs.size - 1)
  refine h h' tk _ u (fun b o eb => hk b o (fun z => by
    rcases List.mem_cons.mp z with z | z
    · subst z; exact Nat.lt_irrefl _ (Heap.lt_size eb)
    · cases z) (Heap.get?_push_of_some _ eb)) ?_ fun a ha => ?_
  · rw [numAt_eq]; exact PySem.getD_mem (by rw [List.length_map, Array.length_toList]; omega)
  · obtain ⟨j, hj, rfl⟩ := mem_getD ha
    rw [List.length_map, Array.length_toList] at hj
    rw [← numAt_eq]; exact g2 j (by omega)
end
end SLt
namespace SL
open PySem PySem.Spec PyProof.Rows L2
section
variable {X : Cx}
def rMaxT (K : PySem.W.Frag) : List V → Hp → VK → Prop := fun vs H Q => ∃ (a : Addr) (ns : List Int), vs = [V.ref a] ∧ SqT K H a (ns.map V.int) ∧ 0 < ns.length ∧ ∀ m, m ∈ ns → (∀ y, y ∈ ns → y ≤ m) → Q (.int m) H
def rMinT (K : PySem.W.Frag) : List V → Hp → VK → Prop := fun vs H Q => ∃ (a : Addr) (ns : List Int), vs = [V.ref a] ∧ SqT K H a (ns.map V.int) ∧ 0 < ns.length ∧ ∀ m, m ∈ ns → (∀ y, y ∈ ns → m ≤ y) → Q (.int m) H
theorem cr_maxT (hc : X.calm = true) : CallR X (.builtin "max") (rMaxT X.K) := by
  intro pins s σ H vs us Q J r hq
  obtain ⟨a, ns, rfl, hs, hne, q⟩ := hq
  obtain ⟨its, rr, hT, _⟩ := J.tuple hs
  rw [Vals.ref1 r]
  exact SLt.max_tup (J.ok.hd hc) hT rr.ints hne fun h' tk m t' hk g1 g2 => ⟨.int _, H, J.kept hk, ⟨_, rfl⟩, q m g1 g2⟩
theorem cr_minT (hc : X.calm = true) : CallR X (.builtin "min") (rMinT X.K) := by
  intro pins s σ H vs us Q J r hq
  obtain ⟨a, ns, rfl, hs, hne, q⟩ := hq
  obtain ⟨its, rr, hT, _⟩ := J.tuple hs
  rw [Vals.ref1 r]
  exact SLt.min_tup (J.ok.hd hc) hT rr.ints hne fun h' tk m t' hk g1 g2 => ⟨.int _, H, J.kept hk, ⟨_, rfl⟩, q m g1 g2⟩
end
end SL

namespace SL
open PySem PySem.Spec PyProof.Rows L2
/-! # max(x), min(x), x a list or a tuple of ints -/
def IsMax (l : List Int) (m : Int) : Prop := m ∈ l ∧ ∀ y ∈ l, y ≤ m
def IsMin (l : List Int) (m : Int) : Prop := m ∈ l ∧ ∀ y ∈ l, m ≤ y
open Classical in
/-- the one that is so, if there is one -/
noncomputable def theOne (p : Int → Prop) : Option Int := if h : ∃ m, p m then some h.choose else none
theorem theOne_ok {p : Int → Prop} {m : Int} (h : theOne p = some m) : p m := by
  unfold theOne at h
  split at h
  · rename_i e
    cases h
    exact e.choose_spec
  · cases h
theorem theOne_is {p : Int → Prop} {m : Int} (h : p m) (u : ∀ k, p k → k = m) : theOne p = some m := by
  unfold theOne
  have e : ∃ m, p m := ⟨m, h⟩
  rw [dif_pos e, u _ e.choose_spec]
theorem max_one {l : List Int} {m k : Int} (h : IsMax l m) (g : IsMax l k) : k = m := by
  have a := h.2 k g.1
  have b := g.2 m h.1
  omega
theorem min_one {l : List Int} {m k : Int} (h : IsMin l m) (g : IsMin l k) : k = m := by
  have a := h.2 k g.1
  have b := g.2 m h.1
  omega
noncomputable def oBestX (P : List Int → Int → Prop) : OpN := fun ws st => match ws with
  | [x] => match (seqW st x).bind intsW with
    | some bs => match theOne (P bs) with
      | some m => .ok (.int m) st
      | none => .bad
    | none => .bad
  | _ => .bad
section
variable {X : Cx}
theorem os_maxX : OpNS X (oBestX IsMax) (fun vs H Q => rMax X.K vs H Q ∨ rMaxT X.K vs H Q) := by
  intro Wx hid μ st σ H Q ws vs k r P
  unfold oBestX at P
  split at P
  · rename_i x
    obtain ⟨v, rfl, r1⟩ := reps1 (ws := []) r
    split at P
    · rename_i bs e
      split at P
      · rename_i m em
        have g := theOne_ok em
        cases e1 : seqW st x with
        | none => rw [e1] at e; cases e
        | some us =>
          rw [e1] at e
          obtain ⟨a, xs, rfl, h1, h2⟩ := seqW_at k e1 r1
          rw [intsW_eq e] at h2
          rw [reps_ints h2] at h1
          have hne : 0 < bs.length := List.length_pos_of_mem g.1
          have fin : ∀ n, n ∈ bs → (∀ y, y ∈ bs → y ≤ n) → Q (.int n) H := fun n n1 n2 => by
            rw [max_one g ⟨n1, n2⟩]
            exact P μ H _ k .refl rep_int
          rcases h1 with h1 | h1
          · exact .inl ⟨a, bs, rfl, h1, hne, fin⟩
          · exact .inr ⟨a, bs, rfl, h1, hne, fin⟩
      · exact P.elim
    · exact P.elim
  · exact P.elim
theorem os_minX : OpNS X (oBestX IsMin) (fun vs H Q => rMin X.K vs H Q ∨ rMinT X.K vs H Q) := by
  intro Wx hid μ st σ H Q ws vs k r P
  unfold oBestX at P
  split at P
  · rename_i x
    obtain ⟨v, rfl, r1⟩ := reps1 (ws := []) r
    split at P
    · rename_i bs e
      split at P
      · rename_i m em
        have g := theOne_ok em
        cases e1 : seqW st x with
        | none => rw [e1] at e; cases e
        | some us =>
          rw [e1] at e
          obtain ⟨a, xs, rfl, h1, h2⟩ := seqW_at k e1 r1
          rw [intsW_eq e] at h2
          rw [reps_ints h2] at h1
          have hne : 0 < bs.length := List.length_pos_of_mem g.1
          have fin : ∀ n, n ∈ bs → (∀ y, y ∈ bs → n ≤ y) → Q (.int n) H := fun n n1 n2 => by
            rw [min_one g ⟨n1, n2⟩]
            exact P μ H _ k .refl rep_int
          rcases h1 with h1 | h1
          · exact .inl ⟨a, bs, rfl, h1, hne, fin⟩
          · exact .inr ⟨a, bs, rfl, h1, hne, fin⟩
      · exact P.elim
    · exact P.elim
  · exact P.elim
theorem cr_maxX (hc : X.calm = true) : CallR X (.builtin "max") (fun vs H Q => rMax X.K vs H Q ∨ rMaxT X.K vs H Q) := (cr_max hc).or (cr_maxT hc)
theorem cr_minX (hc : X.calm = true) : CallR X (.builtin "min") (fun vs H Q => rMin X.K vs H Q ∨ rMinT X.K vs H Q) := (cr_min hc).or (cr_minT hc)
end
end SL

namespace SL
open PySem PySem.Spec PyProof.Rows L2
/-! ## != of own instances: object.__ne__ asks the own __eq__ -/
section
variable {prog : Program} {w : World} {A : Around} {E : Value → Shared → Prop} {s : Shared} {K : PySem.W.Frag} {x y C f : Addr} {ox oy : Obj} {od od2 : Option Obj}
end
structure NeIs (K : PySem.W.Frag) (mg : Str → Option Value) (c : Str) : Prop where
  ex : ∃ C : Addr, mg c = some (.ref C) ∧ PySem.W.findIn K (.ref C) "__ne__" = some (some (.builtin "object.__ne__")) ∧ PySem.W.mroIn K C (.type "object") = some true
section
variable {X : Cx} {Wx : Wish}
end
end SL

/-! # sorted of a tuple of ints; a list, times an int -/
namespace SLs
open PySem PySem.Spec PyProof.Rows Srt SrtO
section
variable {prog : Program} {w : World} {A : Around} {E : Value → Shared → Prop} {s : Shared}
end
end SLs
namespace SL
open PySem PySem.Spec PyProof.Rows L2
section
variable {X : Cx}
end
end SL

namespace SL
open PySem PySem.Spec PyProof.Rows L2
/-! ## a, b = a list or a tuple -/
def gTl (n : Nat) (r : TgsF) : TgF := fun w fr st => match seqW st w with
  | some ws => if ws.length = n then r ws fr st else none
  | none => none
section
variable {X : Cx} {Wx : Wish}
theorem pg_two {es : List Expr} {k n : Nat} {t : TGs} {pos : Pos} (hc : X.calm = true) (h : PGs X es t) (hn : (assignEach es X.env).length = n) (hst : (assignEach es X.env).findIdx? (·.1) = none) :
    PG X (.Tuple es k pos) (fun v σ H Q => gTup X.K n t v σ H Q ∨ gUnl X.K n t v σ H Q) :=
  ⟨fun pins s σ H v u Q I r q => q.elim (fun q => (pg_tup hc h hn hst).run pins s σ H v u Q I r q) fun q => (pg_unl hc h hn hst).run pins s σ H v u Q I r q⟩
theorem gv_tl {es : List Expr} {k n : Nat} {r : TgsF} {sl : List Nat} {pos : Pos} (hc : X.calm = true) (h : GsV X Wx es r sl) (hn : (assignEach es X.env).length = n := by rfl) (hst : (assignEach es X.env).findIdx? (·.1) = none := by rfl) : GV X Wx (.Tuple es k pos) (gTl n r) sl :=
  PGm (pg_two hc h hn hst) fun v σ H Q ⟨μ, st, hid, fr, w, fr', S, rr, e, q⟩ => by
    unfold gTl at e
    split at e
    · rename_i ws e1
      split at e
      · rename_i hl
        obtain ⟨a, vs, rfl, h1, h2⟩ := seqW_at S.sto e1 rr
        rcases h1 with h1 | h1
        · exact .inr ⟨a, vs, rfl, h1, by rw [← h2.length]; exact hl, μ, st, hid, fr, ws, fr', S, h2, e, q⟩
        · exact .inl ⟨a, vs, rfl, h1, by rw [← h2.length]; exact hl, μ, st, hid, fr, ws, fr', S, h2, e, q⟩
      · cases e
    · cases e
end
end SL

/-! # enumerate of a tuple -/
namespace SLe
open PySem Builtin
open AutoSeq1 (wpAny_loadPart')
section
variable {prog : Program} {w : World} {A : Around} {E : Value → Shared → Prop} {s : Shared}
end
end SLe
namespace SLe
open PySem PySem.Spec PyProof.Rows L2
end SLe
namespace SL
open PySem PySem.Spec PyProof.Rows L2
section
variable {X : Cx} {Wx : Wish}
end
end SL

namespace SL
open PySem PySem.Spec PyProof.Rows L2
/-! ## own exceptions with two fields -/
def spI2 (C : Addr) (f1 f2 : Str) : Sp := fun vs H Q _ => ∃ a y z, vs = [.ref a, y, z] ∧ H a = some (exo a C none) ∧ ∀ dx, H dx = none → dx ≠ a → Q .non (upd (upd (upd H dx (exd dx [(f1, y)])) a (exo a C (some dx))) dx (exd dx [(f2, z), (f1, y)]))
structure Exc2 (P : Program) (w : World) (K : PySem.W.Frag) (mg : Str → Option Value) (base : Heap) (c f1 f2 : Str) : Prop where
  ex : ∃ (C fI : Addr) (fd : FuncData) (x y : Str), OexC K C ∧ PySem.W.findIn K (.ref C) "__init__" = some (some (.ref fI)) ∧ PySem.W.typeIn K (.ref fI) = some (.type "function") ∧ FnOk P w K mg base (L2.CX P w) 1 fI fd ["self", x, y] (spI2 C f1 f2) ∧ Binds K fd ["self", x, y] [] ∧ mg c = some (.ref C)
section
variable {X : Cx} {Wx : Wish}
end
end SL

namespace SL
open PySem PySem.Spec PyProof.Rows L2
/-! # dicts whose keys are ints and texts -/
/-- the keys, the values -/
def dctW (st : Sto) (x : W) : Option (List Key × List W) := match x with
  | .cell k => match st[k]? with
    | some (.dct ks ws) => (match kindW ks with
      | some (_, .inl kk) => some (kk, ws)
      | _ => none)
    | _ => none
  | .dct ks ws => (match kindW ks with
    | some (_, .inl kk) => some (kk, ws)
    | _ => none)
  | _ => none
def valW {α : Type} (l : List (Key × α)) (k : Key) : Option α := (l.find? fun p => decide (p.1 = k)).map (·.2)
def putX {α : Type} (kk : List Key) (xs : List α) (k : Key) (x : α) : List α := (kk.zip xs).map fun p => if p.1 = k then x else p.2
theorem zip_put {α : Type} (k : Key) (x : α) : ∀ (kk : List Key) (xs : List α), kk.length = xs.length → (kk.zip xs).map (fun kv => if kv.1 = k then (kv.1, x) else kv) = kk.zip (putX kk xs k x)
  | [], xs, _ => by simp
  | j :: kk, [], h => by simp at h
  | j :: kk, y :: xs, h => by
    have ih := zip_put k x kk xs (by simpa using h)
    unfold putX at ih ⊢
    rw [List.zip_cons_cons, List.map_cons, List.map_cons, List.zip_cons_cons, ih]
    by_cases e : j = k <;> simp [e]
theorem putX_len {α : Type} {kk : List Key} {xs : List α} {k : Key} {x : α} (h : kk.length = xs.length) : (putX kk xs k x).length = kk.length := by
  unfold putX; rw [List.length_map, List.length_zip]; omega
theorem any_zip {α : Type} (k : Key) : ∀ (kk : List Key) (xs : List α), kk.length = xs.length → ((kk.zip xs).any fun kv => decide (kv.1 = k)) = kk.any fun j => decide (j = k)
  | [], xs, _ => by simp
  | j :: kk, [], h => by simp at h
  | j :: kk, y :: xs, h => by
    rw [List.zip_cons_cons, List.any_cons, List.any_cons, any_zip k kk xs (by simpa using h)]
theorem mapO_len {α β : Type} {f : α → Option β} : ∀ {l : List α} {m : List β}, mapO f l = some m → m.length = l.length
  | [], m, h => by unfold mapO at h; cases h; rfl
  | a :: l, m, h => by
    unfold mapO at h
    cases e1 : f a with
    | none => rw [e1] at h; cases h
    | some b =>
      cases e2 : mapO f l with
      | none => rw [e1, e2] at h; cases h
      | some bs => rw [e1, e2] at h; cases h; simp [mapO_len e2]
theorem mapO_snoc {α β : Type} {f : α → Option β} : ∀ {l : List α} {m : List β} {a : α} {b : β}, mapO f l = some m → f a = some b → mapO f (l ++ [a]) = some (m ++ [b])
  | [], m, a, b, h, h2 => by
    unfold mapO at h; cases h
    show (match f a, mapO f [] with | some b, some bs => some (b :: bs) | _, _ => none) = _
    rw [h2]; rfl
  | c :: l, m, a, b, h, h2 => by
    unfold mapO at h
    cases e1 : f c with
    | none => rw [e1] at h; cases h
    | some d =>
      cases e2 : mapO f l with
      | none => rw [e1, e2] at h; cases h
      | some bs =>
        rw [e1, e2] at h; cases h
        show (match f c, mapO f (l ++ [a]) with | some b, some bs => some (b :: bs) | _, _ => none) = _
        rw [e1, mapO_snoc e2 h2]; rfl
theorem mapO_get {α β : Type} {f : α → Option β} : ∀ {l : List α} {m : List β}, mapO f l = some m → ∀ {i : Nat} {a : α} {b : β}, l[i]? = some a → m[i]? = some b → f a = some b
  | [], m, h, i, a, b, h1, _ => by simp at h1
  | c :: l, m, h, i, a, b, h1, h2 => by
    unfold mapO at h
    cases e1 : f c with
    | none => rw [e1] at h; cases h
    | some d =>
      cases e2 : mapO f l with
      | none => rw [e1, e2] at h; cases h
      | some bs =>
        rw [e1, e2] at h; cases h
        cases i with
        | zero => simp at h1 h2; rw [← h1, ← h2]; exact e1
        | succ i => simp at h1 h2; exact mapO_get e2 h1 h2
theorem kind_plain {ks : List W} {kk : List Key} (h : mapO keyW ks = some kk) : kindW ks = some (false, .inl kk) := by
  cases ks with
  | nil => unfold mapO at h; cases h; rfl
  | cons w ks =>
    have z : ∀ t, w ≠ .ty t := fun t e => by
      subst e
      have : mapO keyW (.ty t :: ks) = none := rfl
      rw [this] at h; cases h
    cases w with
    | ty t => exact absurd rfl (z t)
    | int i =>
      show (mapO keyW (.int i :: ks)).map _ = _
      rw [h]; rfl
    | str i =>
      show (mapO keyW (.str i :: ks)).map _ = _
      rw [h]; rfl
    | _ => exact nomatch h
theorem unl_plain {ks : List W} {ws : List W} {kk : List Key} (h : mapO keyW ks = some kk) : (Cel.dct ks ws).unl = true := by
  cases ks with
  | nil => rfl
  | cons w ks =>
    cases w with
    | ty t =>
      have : mapO keyW (.ty t :: ks) = none := rfl
      rw [this] at h; cases h
    | _ => rfl
section
variable {K : PySem.W.Frag} {mg : Str → Option Value} {F : Hp} {μ : List Addr}
theorem key_rep {w : W} {k : Key} {v : V} (h : keyW w = some k) (r : Rep K mg F μ w v) : v = kV k := by
  cases w with
  | int i => unfold keyW at h; cases h; exact rep_int_inv r
  | str i => unfold keyW at h; cases h; exact rep_str_inv r
  | _ => cases h
theorem rep_key {w : W} {k : Key} (h : keyW w = some k) : Rep K mg F μ w (kV k) := by
  cases w with
  | int i => unfold keyW at h; cases h; exact rep_int
  | str i => unfold keyW at h; cases h; unfold Rep; rfl
  | _ => cases h
/-- what is found: alike -/
theorem val_at (k : Key) : ∀ {kk : List Key} {ws : List W} {vs : List V}, kk.length = vs.length → Reps K mg F μ ws vs → (∀ w, valW (kk.zip ws) k = some w → ∃ v, valV (kk.zip vs) k = some v ∧ Rep K mg F μ w v) ∧ (valW (kk.zip ws) k = none → valV (kk.zip vs) k = none)
  | [], ws, vs, _, _ => by
    refine ⟨fun w h => ?_, fun _ => rfl⟩
    simp [valW] at h
  | j :: kk, ws, [], h, _ => by simp at h
  | j :: kk, ws, v :: vs, h, r => by
    have hl := r.length
    cases ws with
    | nil => simp at hl
    | cons w ws =>
      obtain ⟨v', vs', e, r1, r2⟩ := r.cons_inv
      cases e
      obtain ⟨i1, i2⟩ := val_at k (kk := kk) (ws := ws) (vs := vs) (by simpa using h) r2
      by_cases e : j = k
      · rw [List.zip_cons_cons, List.zip_cons_cons, valV_pos (p := (j, v)) e]
        have z : valW ((j, w) :: kk.zip ws) k = some w := by simp [valW, List.find?_cons, e]
        rw [z]
        exact ⟨fun u h => by cases h; exact ⟨v, rfl, r1⟩, fun h => nomatch h⟩
      · rw [List.zip_cons_cons, List.zip_cons_cons, valV_neg (p := (j, v)) e]
        have z : valW ((j, w) :: kk.zip ws) k = valW (kk.zip ws) k := by simp [valW, List.find?_cons, e]
        rw [z]
        exact ⟨i1, i2⟩
theorem reps_put {k : Key} {w : W} {v : V} (rw_ : Rep K mg F μ w v) : ∀ {kk : List Key} {ws : List W} {vs : List V}, kk.length = vs.length → Reps K mg F μ ws vs → Reps K mg F μ (putX kk ws k w) (putX kk vs k v)
  | [], ws, vs, _, _ => by unfold putX; simp; exact .nil
  | j :: kk, ws, [], h, _ => by simp at h
  | j :: kk, ws, u :: vs, h, r => by
    have hl := r.length
    cases ws with
    | nil => simp at hl
    | cons w' ws =>
      obtain ⟨v', vs', e, r1, r2⟩ := r.cons_inv
      cases e
      have ih := reps_put (k := k) rw_ (kk := kk) (ws := ws) (vs := vs) (by simpa using h) r2
      unfold putX at ih ⊢
      rw [List.zip_cons_cons, List.zip_cons_cons, List.map_cons, List.map_cons]
      refine .cons ?_ ih
      by_cases e : j = k
      · simp only [e, if_true]; exact rw_
      · simp only [e, if_false]; exact r1
theorem dctW_at {hid : List Addr} {st : Sto} {H : Hp} {x : W} {v : V} {kk : List Key} {ws : List W} (k : StOk K mg μ st hid H) (h : dctW st x = some (kk, ws)) (r : Rep K mg (Fz μ st hid H) μ x v) :
    ∃ a vs, v = .ref a ∧ kk.length = vs.length ∧ Rd H a (.dK (kk.zip vs)) ∧ Reps K mg (Fz μ st hid H) μ ws vs := by
  have go : ∀ {F : Hp} {a : Addr} {ks us : List W} {vs : List V}, (∀ o, F a = some o → H a = some o) → DctAt F a ks vs → (match kindW ks with
      | some (_, .inl kk) => some (kk, us)
      | _ => none) = some (kk, ws) → us = ws ∧ kk.length = vs.length ∧ Rd H a (.dK (kk.zip vs)) := fun {F a ks us vs} l d e => by
    obtain ⟨b, q, h1, h2, h3, _⟩ := d
    rw [h1] at e
    cases q with
    | inr q => cases e
    | inl q =>
      cases e
      refine ⟨rfl, h2, ?_⟩
      rcases h3 with h3 | ⟨o, h3⟩
      · exact .inl (l _ h3)
      · exact .inr ⟨o, l _ h3⟩
  cases x with
  | cell n =>
    unfold dctW at h
    simp only at h
    split at h
    · rename_i ks us e
      obtain ⟨a, rfl, e2, vs, h1, h2⟩ := k.cell e r
      obtain ⟨rfl, g1, g2⟩ := go (fun _ z => z) h1.rd h
      exact ⟨a, vs, rfl, g1, g2, h2⟩
    · cases h
  | dct ks us =>
    unfold Rep at r
    obtain ⟨a, vs, rfl, h1, h2⟩ := r
    obtain ⟨rfl, g1, g2⟩ := go (us := us) (fun _ z => (Fz.sub z).1) h1 h
    exact ⟨a, vs, rfl, g1, g2, h2⟩
  | _ => cases h
end
/-! ## reading -/
def oDGet : Op2 := fun x y st => match dctW st x, keyW y with
  | some (kk, ws), some k => (match valW (kk.zip ws) k with
    | some w => .ok w st
    | none => .bad)
  | _, _ => .bad
def rDGet : R2 := fun x y H Q => ∃ a v, x = .ref a ∧ DGet H a y (some v) ∧ Q v H
def oDLen : OpN := fun ws st => match ws with
  | [x] => (match dctW st x with
    | some (kk, _) => .ok (.int kk.length) st
    | none => .bad)
  | _ => .bad
def rDLen : List V → Hp → VK → Prop := fun xs H Q => ∃ a kvs, xs = [V.ref a] ∧ Rd H a (.dK kvs) ∧ Q (.int kvs.length) H
section
variable {X : Cx} {Wx : Wish}
theorem dget_of {K : PySem.W.Frag} {mg : Str → Option Value} {μ hid : List Addr} {st : Sto} {H : Hp} {x y : W} {xv yv : V} {kk : List Key} {ws : List W} {j : Key} (k : StOk K mg μ st hid H) (hx : dctW st x = some (kk, ws)) (hy : keyW y = some j) (rx : Rep K mg (Fz μ st hid H) μ x xv) (ry : Rep K mg (Fz μ st hid H) μ y yv) :
    ∃ a, xv = .ref a ∧ ((∃ w v, valW (kk.zip ws) j = some w ∧ DGet H a yv (some v) ∧ Rep K mg (Fz μ st hid H) μ w v) ∨ (valW (kk.zip ws) j = none ∧ DGet H a yv none)) := by
  obtain ⟨a, vs, rfl, h1, h2, h3⟩ := dctW_at k hx rx
  obtain ⟨v1, v2⟩ := val_at (K := K) (mg := mg) (F := Fz μ st hid H) (μ := μ) j h1 h3
  refine ⟨a, rfl, ?_⟩
  cases e : valW (kk.zip ws) j with
  | some w =>
    obtain ⟨v, e2, r⟩ := v1 w e
    exact .inl ⟨w, v, rfl, .inl ⟨_, j, h2, key_rep hy ry, e2.symm⟩, r⟩
  | none => exact .inr ⟨rfl, .inl ⟨_, j, h2, key_rep hy ry, (v2 e).symm⟩⟩
theorem os_dget : Op2S X oDGet rDGet := by
  intro Wx hid μ st σ H Q x y xv yv k rx ry P
  unfold oDGet at P
  split at P
  · rename_i kk ws j hx hy
    obtain ⟨a, rfl, ⟨w, v, e1, e2, e3⟩ | ⟨e1, _⟩⟩ := dget_of k hx hy rx ry
    · rw [e1] at P
      exact ⟨a, v, rfl, e2, P μ H _ k .refl e3⟩
    · rw [e1] at P; exact P.elim
  · exact P.elim
theorem ev_dget {k : Nat} {o i : Expr} {f g : Sem} {pos : Pos} (C : Ctx X Wx k) (ho : EV X Wx o f) (hi : EV X Wx i g) (hs : NoSl i := by intro _ _; rfl) : EV X Wx (.Subscript o i pos) (e2 oDGet f g) :=
  PEm (pe_dget (by have := C.room.un; omega) ho hi hs) (e2_read os_dget)
theorem cr_dlen : CallR X (.builtin "len") rDLen := by
  intro pins s σ H vs us Q J r hq
  obtain ⟨a, kvs, rfl, hd, q⟩ := hq
  rw [Vals.ref1 r]
  exact d_len J hd fun t s' J' => ⟨.int _, H, J', ⟨_, rfl⟩, q⟩
theorem os_dlen : OpNS X oDLen rDLen := by
  intro Wx hid μ st σ H Q ws vs k r P
  unfold oDLen at P
  split at P
  · rename_i x
    obtain ⟨v, rfl, r1⟩ := reps1 (ws := []) r
    split at P
    · rename_i kk us e
      obtain ⟨a, xs, rfl, h1, h2, h3⟩ := dctW_at k e r1
      have hl : (kk.zip xs).length = kk.length := by rw [List.length_zip]; omega
      exact ⟨a, _, rfl, h2, by rw [hl]; exact P μ H _ k .refl rep_int⟩
    · exact P.elim
  · exact P.elim
/-! ## making -/
def eDct0 : Sem := fun _ st => .ok (.cell st.length) (st ++ [.dct [] []])
theorem ev_dct0 {pos : Pos} : EV X Wx (.Dict [] [] pos) eDct0 := PEm pe_dnewK fun σ H Q ⟨μ, st, hid, fr, S, P⟩ => by
  intro p hp
  obtain ⟨k2, g2⟩ := S.sto.newCell (c := .dct [] []) (o := .dK []) hp rfl ⟨[], ⟨false, .inl [], rfl, rfl, upd_same⟩, .nil⟩
  refine P _ _ _ k2 g2 ?_
  unfold Rep
  exact ⟨p, by rw [← S.sto.len]; simp, rfl⟩
/-! ## writing -/
def uDct : Op3 := fun o y w st => match o with
  | .cell n => (match st[n]? with
    | some (.dct ks ws) => (match mapO keyW ks, keyW y with
      | some kk, some j => if ks.length < LINE then (if (kk.any fun i => decide (i = j)) = true then some (st.set n (.dct ks (putX kk ws j w))) else some (st.set n (.dct (ks ++ [y]) (ws ++ [w])))) else none
      | _, _ => none)
    | _ => none)
  | _ => none
theorem os_setD : Op3S X uDct rSetD := by
  intro hid μ st st' H Q o y w ov yv v k ro ry rw_ e q
  unfold uDct at e
  split at e
  · rename_i n
    split at e
    · rename_i ks ws e1
      split at e
      · rename_i kk j hk hy
        obtain ⟨a, rfl, h1, vs, ⟨l, q', g1, g2, g3⟩, h3⟩ := k.cell e1 ro
        rw [kind_plain hk] at g1
        cases g1
        have g3' : H a = some (.dK (kk.zip vs)) := g3
        have g2' : kk.length = vs.length := g2
        split at e
        · rename_i hl
          have hz : (kk.zip vs).length < sizeLine := by
            have := mapO_len hk
            have := le_line (Nat.le_of_lt hl)
            rw [List.length_zip]
            unfold LINE at hl
            rw [sizeLine_eq]; omega
          refine ⟨a, _, rfl, .inl ⟨kk.zip vs, j, g3', key_rep hy ry, hz, rfl⟩, ?_⟩
          unfold putK
          rw [any_zip j kk vs g2']
          split at e
          · rename_i hany
            cases e
            rw [if_pos hany, zip_put j v kk vs g2']
            have hl2 : kk.length = (putX kk vs j v).length := by rw [putX_len g2']
            obtain ⟨k2, g4⟩ := k.setCell (c' := .dct ks (putX kk ws j w)) (o := .dK (kk.zip (putX kk vs j v))) h1 e1 rfl rfl ⟨_, ⟨false, .inl kk, kind_plain hk, hl2, upd_same⟩, reps_put rw_ g2' h3⟩ (unl_plain hk)
            exact q _ _ k2 g4
          · rename_i hany
            cases e
            rw [if_neg hany]
            have ez : kk.zip vs ++ [(j, v)] = (kk ++ [j]).zip (vs ++ [v]) := by rw [List.zip_append g2']; rfl
            rw [ez]
            have hk2 := mapO_snoc hk hy
            obtain ⟨k2, g4⟩ := k.setCell (c' := .dct (ks ++ [y]) (ws ++ [w])) (o := .dK ((kk ++ [j]).zip (vs ++ [v]))) h1 e1 rfl rfl ⟨_, ⟨false, .inl (kk ++ [j]), kind_plain hk2, by show (kk ++ [j]).length = (vs ++ [v]).length; simp [g2'], upd_same⟩, h3.append (.cons rw_ .nil)⟩ (unl_plain hk)
            exact q _ _ k2 g4
        · cases e
      · cases e
    · cases e
  · cases e
theorem sv_subD {k : Nat} {o i e : Expr} {f fo fi : Sem} {pos tpos : Pos} (C : Ctx X Wx k) (he : EV X Wx e f) (ho : EV X Wx o fo) (hi : EV X Wx i fi)
    (ha : ∀ v, assign (.Subscript o i tpos) X.env v = (do
      let ov ← holding [v] (eval o X.env)
      let iv ← holding [v, ov] (eval i X.env)
      standAt tpos
      holding [v, ov, iv] (setItem ov iv v)
      release [v, ov, iv] []) := by intro _; rfl)
    (hs1 : swapsWithSole [.Subscript o i tpos] e pos.line X.env = pure false := by rfl) (hw : swappedStores [.Subscript o i tpos] e X.env = pure none := by rfl) (h1 : (assignEach [.Subscript o i tpos] X.env).map (·.2) = [assign (.Subscript o i tpos) X.env] := by rfl) :
    SV X Wx (.Assign [.Subscript o i tpos] e pos) (sSub uDct f fo fi) := sv_sub (set_dict (by have := C.room.un; omega)) os_setD he ho hi ha hs1 hw h1
end
end SL

namespace SL
open PySem PySem.Spec PyProof.Rows L2
/-! # a dict walked: locked meanwhile -/
def lkL : List W → List W := fun ks => .ty "L" :: ks
section
variable {K : PySem.W.Frag} {mg : Str → Option Value} {Wx : Wish} {μ hid : List Addr} {st : Sto} {fr : Fr} {σ : L2.St} {H : Hp}
/-- the state as it is locked -/
theorem SI.lock (S : SI K mg Wx μ st hid fr σ H) {i n : Nat} {ks ws : List W} {kk : List Key} (hf : fr[i]? = some (some (.cell n))) (hn : st[n]? = some (.dct ks ws)) (hk : mapO keyW ks = some kk) :
    ∃ (d : Addr) (vs : List V), μ[n]? = some d ∧ d ∉ hid ∧ kk.length = vs.length ∧ H d = some (.dK (kk.zip vs)) ∧ ∀ od, SI K mg Wx μ (st.set n (.dct (lkL ks) ws)) hid fr σ (upd H d (.frz od (.dK (kk.zip vs)))) ∧ Fz μ (st.set n (.dct (lkL ks) ws)) hid (upd H d (.frz od (.dK (kk.zip vs)))) = Fz μ st hid H := by
  obtain ⟨v, hv, r⟩ := S.loc i _ hf
  obtain ⟨d, rfl, h1, vs, ⟨l, q, g1, g2, g3⟩, h3⟩ := S.sto.cell hn r
  rw [kind_plain hk] at g1
  cases g1
  have g3' : H d = some (.dK (kk.zip vs)) := g3
  have g2' : kk.length = vs.length := g2
  refine ⟨d, vs, h1, S.sto.hidn n d _ h1 hn rfl, g2', g3', fun od => ?_⟩
  have kl : kindW (lkL ks) = some (true, .inl kk) := by
    show (mapO keyW ks).map (fun kk => (true, Sum.inl kk)) = _
    rw [hk]; rfl
  obtain ⟨k2, e, _⟩ := S.sto.setCell0 (c' := .dct (lkL ks) ws) (o := .frz od (.dK (kk.zip vs))) h1 hn rfl rfl ⟨vs, ⟨true, .inl kk, kl, g2', od, upd_same⟩, h3⟩
  exact ⟨⟨k2, S.len, fun j w h => by rw [e]; exact S.loc j w h, by rw [e]; exact S.ex⟩, e⟩
/-- from before the lock to behind it -/
theorem grow_lock {st1 st2 st3 : Sto} {μ2 : List Addr} {H1 H2 : Hp} {n : Nat} {d : Addr} {od : Obj} {u : HO} (e1 : Fz μ st1 hid H1 = Fz μ st hid H) (hd : d ∉ hid) (hu : H d = some u) (nf : ∀ o z, u ≠ .frz o z) (hH1 : H1 = upd H d (.frz od u)) (g : Grow hid μ st1 H1 μ2 st2 H2) (e2 : Fz μ2 st3 hid (upd H2 d u) = Fz μ2 st2 hid H2) :
    Grow hid μ st H μ2 st3 (upd H2 d u) := by
  subst hH1
  refine ⟨g.pre, by rw [e2, ← e1]; exact g.le, fun a ha => ?_, fun a o z h => ?_⟩
  · have ne : a ≠ d := fun e => hd (e ▸ ha)
    rw [upd_ne ne, g.hid a ha, upd_ne ne]
  · have ne : a ≠ d := fun e => by
      rw [e, hu] at h
      exact nf o z (Option.some.inj h)
    rw [upd_ne ne]
    exact g.lck a o z (by rw [upd_ne ne]; exact h)
end
section
variable {X : Cx} {Wx : Wish}
theorem PSor {st : Stmt} {t1 t2 : TS} (h1 : PS X st t1) (h2 : PS X st t2) : PS X st (fun D σ H => t1 D σ H ∨ t2 D σ H) := ⟨fun pins s σ H D I q => q.elim (h1.run pins s σ H D I) (h2.run pins s σ H D I)⟩
end
end SL

namespace SL
open PySem PySem.Spec PyProof.Rows L2
/-! ## a def that hands back an old cell or a new one -/
/-! ## an own instance is of no built-in type -/
structure NoTy (K : PySem.W.Frag) (C : Addr) : Prop where
  no : ∀ n, tyN n = true → PySem.W.kitOne K (.ref C) (.type n) = some false
section
variable {X : Cx}
end
end SL

namespace SL
open PySem PySem.Spec PyProof.Rows L2
/-! ## {'x': e}, as data -/
section
variable {X : Cx} {Wx : Wish}
end
/-! ## words of reckoning -/
section
variable {st : Sto} {c : Str} {n : String} {cs : List W}
end
end SL

/-! # len(set(xs)), xs a list of tuples of ints -/
namespace SL
open PySem PySem.Spec PyProof.Rows L2
def tLenSetT (K : PySem.W.Frag) (ta : TE) : TE := fun σ H Q => ta σ H fun x H1 => ∃ (l : Addr) (ks : List (Addr × List Int)), x = V.ref l ∧ SqL K H1 l (ks.map fun p => V.ref p.1) ∧ (∀ p ∈ ks, SqT K H1 p.1 (p.2.map V.int)) ∧ ks.length < 64 ∧
  ∀ L : List (Addr × List Int), (∀ p ∈ L, p ∈ ks) → (∀ p ∈ ks, p.2 ∈ L.map (·.2)) → (L.map (·.2)).Nodup → Q (.int L.length) H1
/-- each one once -/
def onceL : List (List Int) → List (List Int)
  | [] => []
  | k :: ks => if k ∈ onceL ks then onceL ks else k :: onceL ks
theorem mem_once {k : List Int} : ∀ {ks : List (List Int)}, k ∈ onceL ks ↔ k ∈ ks
  | [] => .rfl
  | x :: ks => by
    unfold onceL
    by_cases h : x ∈ onceL ks
    · rw [if_pos h, mem_once, List.mem_cons]
      constructor
      · exact .inr
      · rintro (rfl | z)
        · exact mem_once.mp h
        · exact z
    · rw [if_neg h, List.mem_cons, List.mem_cons, mem_once]
theorem nodup_once : ∀ ks : List (List Int), (onceL ks).Nodup
  | [] => List.nodup_nil
  | x :: ks => by
    unfold onceL
    by_cases h : x ∈ onceL ks
    · rw [if_pos h]; exact nodup_once ks
    · rw [if_neg h]; exact List.nodup_cons.mpr ⟨h, nodup_once ks⟩
noncomputable def eLenSet (f : Sem) : Sem := fun fr st => (f fr st).bind fun w st1 => match (lstW st1 w).bind tupsI with
  | some ks => if dec (ks.length < 64) = true then .ok (.int (onceL ks).length) st1 else .bad
  | none => .bad
section
variable {X : Cx} {Wx : Wish}
theorem pe_lenSetT {a : Expr} {ta : TE} {p p2 q pos : Pos} (hc : X.calm = true) (hu : X.A.units + 64 < cLine) (hg : Gl X "len") (hm : X.mg "len" = none) (hg2 : Gl X "set") (hm2 : X.mg "set" = none) (ha : PE X a ta)
    (na : starEach [a] X.env = (false, eval a X.env) :: starEach [] X.env := by rfl) : PE X (.Call (.Name "len" p) [.Call (.Name "set" p2) [a] [] q] [] pos) (tLenSetT X.K ta) := by
  refine ⟨fun pins s σ H Q I h => ?_⟩
  refine Call_ (ld_blt I hg hm PySem.boot_len ?_)
  refine PyProof.Rows.callWith_builtin1 (PyProof.Rows.args_cons ?_ rfl) rfl rfl
  refine Call_ (ld_blt I hg2 hm2 PyProof.Rows.boot_set ?_)
  refine PyProof.Rows.callWith_type1 (PyProof.Rows.args_cons (thn (ha.run pins s σ H _ I h) fun v s1 ⟨x, H1, I1, r1, q1⟩ => PyProof.Rows.args_nil ?_) na) na rfl
  obtain ⟨l, ks, rfl, hq, hk, hf, q1⟩ := q1
  cases r1
  obtain ⟨its, rv, pl, hz⟩ := I1.list hq
  refine call_set_tups (P := X.prog) (w := X.w) ks (I1.ok.hd hc) pl.isList (by simpa using refs_of_vals rv) (fun p hp => I1.isT (hk p hp)) hf (by omega) fun h' tk L es ep t R g k => ?_
  refine PyProof.Rows.args_nil ?_
  have I2 : Inv X pins σ H1 { s1 with heap := h', toks := tk } := I1.kept k
  obtain ⟨o, ho, hex, hd⟩ := R.ob
  have hs : es.size = L.length := SetTR.size (s := { s1 with heap := h', toks := tk }) R
  have hfit : t.fits es.size = true := SetTR.fits (s := { s1 with heap := h', toks := tk }) R
  have hfew := R.few
  refine call_len_set ho hex hd hfit (by omega) ⟨.int L.length, H1, I2.tok _, ⟨_, by rw [hs]⟩, q1 L (fun p hp => ?_) (fun p hp => ?_) R.nd⟩
  · exact List.mem_of_mem_take (g.sub p hp)
  · exact g.all p (by rw [List.take_length]; exact hp)
theorem tups_refs {K : PySem.W.Frag} {mg : Str → Option Value} {H : Hp} {hid μ : List Addr} {st : Sto} : ∀ {ks : List (List Int)} {vs : List V}, Reps K mg (Fz μ st hid H) μ (ks.map tupOf) vs → ∃ ps : List (Addr × List Int), vs = ps.map (fun p => V.ref p.1) ∧ ps.map (·.2) = ks ∧ ∀ p ∈ ps, SqT K H p.1 (p.2.map V.int)
  | [], vs, r => by
    have := r.length
    cases vs with
    | nil => exact ⟨[], rfl, rfl, fun p h => nomatch h⟩
    | cons v vs => simp at this
  | k :: ks, vs, r => by
    cases vs with
    | nil => have := r.length; simp at this
    | cons v vs =>
      obtain ⟨v', t, e, h1, h2⟩ := r.cons_inv
      cases e
      obtain ⟨a, rfl, h3⟩ := tup_I h1
      obtain ⟨ps, rfl, rfl, h4⟩ := tups_refs h2
      exact ⟨(a, k) :: ps, rfl, rfl, fun p hp => by
        rcases List.mem_cons.mp hp with rfl | hp
        · exact h3
        · exact h4 p hp⟩
theorem ev_lenSet {k : Nat} {a : Expr} {f : Sem} {p p2 q pos : Pos} (C : Ctx X Wx k) (hm : X.mg "len" = none) (hm2 : X.mg "set" = none) (ha : EV X Wx a f) (hg : Gl X "len" := by rfl) (hg2 : Gl X "set" := by rfl)
    (na : starEach [a] X.env = (false, eval a X.env) :: starEach [] X.env := by rfl) : EV X Wx (.Call (.Name "len" p) [.Call (.Name "set" p2) [a] [] q] [] pos) (eLenSet f) :=
  PEm (pe_lenSetT C.calm (by have := C.room.un; omega) hg hm hg2 hm2 ha na) fun σ H Q ⟨μ, st, hid, fr, S, P⟩ => by
    refine ⟨μ, st, hid, fr, S, ?_⟩
    unfold eLenSet at P
    cases h1 : f fr st with
    | bad => rw [h1] at P; exact P
    | err x s1 => rw [h1] at P; exact P
    | ok w st1 =>
      rw [h1, Out.bind_ok] at P
      intro μ1 H1 v k1 g1 r1
      split at P
      · rename_i ks e
        split at P
        · rename_i hl
          have hl := dec_of hl
          cases e1 : lstW st1 w with
          | none => rw [e1] at e; cases e
          | some us =>
            rw [e1] at e
            obtain ⟨l, xs, rfl, h2, h3⟩ := lstW_at k1 e1 r1
            rw [tupsI_eq e] at h3
            obtain ⟨ps, rfl, rfl, h4⟩ := tups_refs h3
            rw [List.length_map] at hl
            refine ⟨l, ps, rfl, h2, h4, hl, fun L a1 a2 nd => ?_⟩
            have el : L.length = (onceL (ps.map (·.2))).length := by
              rw [← List.length_map (f := fun p : Addr × List Int => p.2)]
              refine Nat.le_antisymm (List.Nodup.length_le_of_subset nd fun y hy => ?_) (List.Nodup.length_le_of_subset (nodup_once _) fun y hy => ?_)
              · obtain ⟨q, hq, rfl⟩ := List.mem_map.mp hy
                exact mem_once.mpr (List.mem_map.mpr ⟨q, a1 q hq, rfl⟩)
              · obtain ⟨q, hq, rfl⟩ := List.mem_map.mp (mem_once.mp hy)
                exact a2 q hq
            rw [el]
            exact P μ1 H1 _ k1 g1 (by unfold Rep; rfl)
        · exact P.elim
      · exact P.elim
end
end SL

namespace SL
open PySem PySem.Spec PyProof.Rows L2
/-! # dicts whose keys are tuples of ints and texts -/
abbrev KeyL := List Key
section
variable {K : PySem.W.Frag} {mg : Str → Option Value} {F : Hp} {μ : List Addr}
end
/-! ## reading -/
section
variable {X : Cx} {Wx : Wish}
/-! ## making, writing -/
end
end SL

namespace SL
open PySem PySem.Spec PyProof.Rows L2
/-! # a dict walked: locked meanwhile -/
section
variable {K : PySem.W.Frag} {mg : Str → Option Value} {Wx : Wish} {μ hid : List Addr} {st : Sto} {fr : Fr} {σ : L2.St} {H : Hp}
end
section
variable {X : Cx} {Wx : Wish}
end
end SL

/-! # {t: e}, t a tuple -/
namespace SLd
open PySem PySem.Spec PyProof.Rows L2
section
variable {prog : Program} {w : World} {A : Around} {E : Value → Shared → Prop} {s : Shared} {env : Env}
end
end SLd
namespace SL
open PySem PySem.Spec PyProof.Rows L2
section
variable {X : Cx} {Wx : Wish}
end
end SL

namespace SL
open PySem PySem.Spec PyProof.Rows L2 Srt SrtO
/-! # sorted of a list of one or none -/
section
variable {X : Cx}
end
end SL

/-! # texts walked, also numbered -/
namespace SL
open PySem PySem.Spec PyProof.Rows L2
theorem sgnW_len (x : Str) : (sgnW x).length = x.length := by unfold sgnW; rw [List.length_map]; simp [Str.length]
theorem sgnW_get {x : Str} {i : Nat} {c : Nat} (h : x.cps[i]? = some c) : (sgnW x)[i]? = some (.str ⟨#[c]⟩) := by
  unfold sgnW; rw [List.getElem?_map, Array.getElem?_toList, h]; rfl
theorem itOk_str {K : PySem.W.Frag} {mg : Str → Option Value} {x : Str} {F L : Hp} {μ0 : List Addr} (hl : x.length ≤ LINE) : ItOk K mg (Its x) .non (sgnW x) F μ0 L where
  len := by rw [sgnW_len]; exact le_line hl
  go := fun hid μ st H i k l p _ _ hi => by rw [sgnW_len] at hi; exact hi
  yld := fun hid μ st H i v H' k l p _ _ hi y => by
    obtain ⟨rfl, c, h1, rfl⟩ := y
    exact ⟨k, .refl, _, sgnW_get h1, rep_str⟩
  stop := fun hid μ st H i k l p _ _ hi => by rw [sgnW_len] at hi; exact hi
theorem iv_str {X : Cx} {Wx : Wish} {tg e : Expr} {f : Sem} (he : EV X Wx e f) : IV X Wx tg e (iStrF f) := PIm (pi_str he) fun σ H R ⟨μ, st, hid, fr, S, P⟩ => by
  refine ⟨μ, st, hid, fr, S, ?_⟩
  unfold iStrF at P
  cases h1 : f fr st with
  | bad => rw [h1] at P; exact P
  | err x s => rw [h1] at P; exact P
  | ok x st1 =>
    rw [h1, Out.bind_ok] at P
    intro μ1 H1 v k1 g1 r1
    have P1 := IPost.from g1 P
    split at P1
    · rename_i z
      split at P1
      · rename_i hz
        exact ⟨z, rep_str_inv r1, P1 μ1 H1 _ k1 .refl (itOk_str hz)⟩
      · exact P1.elim
    · exact P1.elim
end SL
namespace SLe
open PySem PySem.Spec PyProof.Rows L2
end SLe
namespace SL
open PySem PySem.Spec PyProof.Rows L2
end SL

/-! # what stands in a list, a tuple, a text; its place -/
namespace SL
open PySem PySem.Spec PyProof.Rows L2
/-- flat values -/
def flW : W → Bool
  | .non => true
  | .bl _ => true
  | .int _ => true
  | .str _ => true
  | _ => false
def vaW : W → V
  | .bl b => .bl b
  | .int i => .int i
  | .str x => .str x
  | _ => .non
/-- == of flat values -/
def eqF : W → W → Bool
  | .non, .non => true
  | .bl a, .bl b => a == b
  | .bl a, .int b => (if a then 1 else 0) == b
  | .int a, .bl b => a == (if b then 1 else 0)
  | .int a, .int b => a == b
  | .str a, .str b => a == b
  | _, _ => false
theorem vaW_flat {w : W} (h : flW w = true) : flatV (vaW w) = true := by cases w <;> first | rfl | cases h
theorem eqF_at {a b : W} (ha : flW a = true) (hb : flW b = true) : eqV (vaW a) (vaW b) = eqF a b := by
  cases a <;> cases b <;> first | rfl | exact Bool.noConfusion ha | exact Bool.noConfusion hb
theorem flW_at {K : PySem.W.Frag} {mg : Str → Option Value} {F : Hp} {μ : List Addr} {w : W} {v : V} (h : flW w = true) (r : Rep K mg F μ w v) : v = vaW w := by
  cases w with
  | non => exact rep_non_inv r
  | bl b => exact rep_bl_inv r
  | int b => exact rep_int_inv r
  | str b => exact rep_str_inv r
  | _ => cases h
theorem flWs_at {K : PySem.W.Frag} {mg : Str → Option Value} {F : Hp} {μ : List Addr} : ∀ {ws : List W} {vs : List V}, ws.all flW = true → Reps K mg F μ ws vs → vs = ws.map vaW
  | [], vs, _, r => by rw [Reps.nil_iff] at r; subst r; rfl
  | w :: ws, vs, h, r => by
    rw [List.all_cons, Bool.and_eq_true] at h
    obtain ⟨v, t, rfl, r1, r2⟩ := r.cons_inv
    rw [flW_at h.1 r1, flWs_at h.2 r2]; rfl
theorem flWs_flat : ∀ {ws : List W}, ws.all flW = true → (ws.map vaW).all flatV = true
  | [], _ => rfl
  | w :: ws, h => by
    rw [List.all_cons, Bool.and_eq_true] at h
    rw [List.map_cons, List.all_cons, vaW_flat h.1, flWs_flat h.2]; rfl
theorem inV_at {x : W} (hx : flW x = true) : ∀ {ws : List W}, ws.all flW = true → inV (vaW x) (ws.map vaW) = ws.any fun y => eqF y x
  | [], _ => rfl
  | w :: ws, h => by
    rw [List.all_cons, Bool.and_eq_true] at h
    have ih := inV_at hx h.2
    unfold inV at ih ⊢
    rw [List.map_cons, List.any_cons, List.any_cons, ih, eqF_at h.1 hx]
/-- x in a list or tuple of flat values; a sign in a text; data in a list of data -/
def inW (st : Sto) (x y : W) : Option Bool := match y with
  | .str z => match x with
    | .str ⟨⟨[c]⟩⟩ => some (decide (c ∈ z.cps.toList))
    | _ => none
  | _ => match seqW st y with
    | some ws => if flW x && ws.all flW then some (ws.any fun y => eqF y x) else match pdT st x, pdT st y with
      | some d, some (.list ds) => if SeqAt.shaped d && SeqAt.shaped (.list ds) then some (ds.any fun z => PyData.eqv z d) else none
      | _, _ => none
    | none => none
def oIn : Op2 := fun x y st => match inW st x y with
  | some b => .ok (.bl b) st
  | none => .bad
def rInA (K : PySem.W.Frag) : R2 := fun x y H Q => (rIn K false x y H Q ∨ (∃ (c : Nat) (z : Str), x = .str ⟨#[c]⟩ ∧ y = .str z ∧ Q (.bl (decide (c ∈ z.cps.toList))) H)) ∨ rInD K x y H Q
section
variable {X : Cx}
theorem or_in (hu : X.A.units + 65 < cLine) : OpR X (compareOp .In) (rInA X.K) := (op_in_seq.or op_in_sign).or (op_inD hu)
theorem inW_at {K : PySem.W.Frag} {mg : Str → Option Value} {H : Hp} {hid μ : List Addr} {st : Sto} (k : StOk K mg μ st hid H) {w u : W} {x y : V} {b : Bool} (h : inW st w u = some b) (rx : Rep K mg (Fz μ st hid H) μ w x) (ry : Rep K mg (Fz μ st hid H) μ u y) :
    (∃ p xs, y = .ref p ∧ (SqL K H p xs ∨ SqT K H p xs) ∧ flatV x = true ∧ xs.all flatV = true ∧ b = inV x xs) ∨ (∃ (c : Nat) (z : Str), x = .str ⟨#[c]⟩ ∧ y = .str z ∧ b = decide (c ∈ z.cps.toList)) ∨
    (∃ d ds, Dp K H x d ∧ Dp K H y (.list ds) ∧ SeqAt.shaped d = true ∧ SeqAt.shaped (.list ds) = true ∧ b = ds.any fun z => PyData.eqv z d) := by
  have go : ∀ ws, seqW st u = some ws → (if flW w && ws.all flW then some (ws.any fun y => eqF y w) else match pdT st w, pdT st u with
      | some d, some (.list ds) => if SeqAt.shaped d && SeqAt.shaped (.list ds) then some (ds.any fun z => PyData.eqv z d) else none
      | _, _ => none) = some b → (∃ p xs, y = .ref p ∧ (SqL K H p xs ∨ SqT K H p xs) ∧ flatV x = true ∧ xs.all flatV = true ∧ b = inV x xs) ∨ (∃ (c : Nat) (z : Str), x = .str ⟨#[c]⟩ ∧ y = .str z ∧ b = decide (c ∈ z.cps.toList)) ∨
    (∃ d ds, Dp K H x d ∧ Dp K H y (.list ds) ∧ SeqAt.shaped d = true ∧ SeqAt.shaped (.list ds) = true ∧ b = ds.any fun z => PyData.eqv z d) := fun ws e h => by
    obtain ⟨a, vs, rfl, h1, h2⟩ := seqW_at k e ry
    split at h
    · rename_i hf
      rw [Bool.and_eq_true] at hf
      cases h
      have e1 := flW_at hf.1 rx
      have e2 := flWs_at hf.2 h2
      subst e1 e2
      exact .inl ⟨a, _, rfl, h1, vaW_flat hf.1, flWs_flat hf.2, (inV_at hf.1 hf.2).symm⟩
    · split at h
      · rename_i d ds e1 e2
        split at h
        · rename_i hs
          rw [Bool.and_eq_true] at hs
          cases h
          exact .inr (.inr ⟨d, ds, pdT_at k e1 rx, pdT_at k e2 ry, hs.1, hs.2, rfl⟩)
        · cases h
      · cases h
  unfold inW at h
  split at h
  · rename_i z
    split at h
    · rename_i c
      cases h
      exact .inr (.inl ⟨c, z, rep_str_inv rx, rep_str_inv ry, rfl⟩)
    · cases h
  · split at h
    · rename_i ws e
      exact go ws e h
    · cases h
theorem os_in : Op2S X oIn (rInA X.K) := by
  intro Wx hid μ st σ H Q w u x y k rx ry P
  unfold oIn at P
  split at P
  · rename_i b h
    have q := P μ H _ k .refl rep_bl
    rcases inW_at k h rx ry with ⟨p, xs, h1, h2, h3, h4, rfl⟩ | ⟨c, z, h1, h2, rfl⟩ | ⟨d, ds, h1, h2, h3, h4, rfl⟩
    · exact .inl (.inl ⟨p, xs, h1, h2, h3, h4, q⟩)
    · exact .inl (.inr ⟨c, z, h1, h2, q⟩)
    · exact .inr ⟨d, ds, h1, h2, h3, h4, q⟩
  · exact P.elim
/-! ## the place in a list (flat values, or data), in a tuple of texts -/
/-- the texts of a list -/
def strsW : List W → Option (List Str)
  | [] => some []
  | .str x :: r => (strsW r).map (x :: ·)
  | _ :: _ => none
theorem strsW_at {K : PySem.W.Frag} {mg : Str → Option Value} {F : Hp} {μ : List Addr} : ∀ {ws : List W} {vs : List V} {xs : List Str}, strsW ws = some xs → Reps K mg F μ ws vs → vs = xs.map V.str
  | [], vs, xs, h, r => by rw [Reps.nil_iff] at r; subst r; cases h; rfl
  | w :: ws, vs, xs, h, r => by
    obtain ⟨v, t, rfl, r1, r2⟩ := r.cons_inv
    unfold strsW at h
    split at h
    · rename_i e; cases e
    · rename_i x r' e
      cases e
      cases e1 : strsW ws with
      | none => rw [e1] at h; cases h
      | some ys =>
        rw [e1] at h; cases h
        rw [strsW_at e1 r2, rep_str_inv r1]; rfl
    · cases h
theorem strsW_map (xs : List Str) : strsW (xs.map W.str) = some xs := by
  induction xs with
  | nil => rfl
  | cons x xs ih => rw [List.map_cons]; unfold strsW; rw [ih]; rfl
/-! ## pop at a place -/
theorem reps_erase {K : PySem.W.Frag} {mg : Str → Option Value} {F : Hp} {μ : List Addr} : ∀ {ws : List W} {vs : List V} (j : Nat), Reps K mg F μ ws vs → Reps K mg F μ (ws.eraseIdx j) (vs.eraseIdx j)
  | [], vs, j, r => by rw [Reps.nil_iff] at r; subst r; simp; exact .nil
  | w :: ws, vs, 0, r => by
    obtain ⟨v, t, rfl, r1, r2⟩ := r.cons_inv
    simpa using r2
  | w :: ws, vs, j + 1, r => by
    obtain ⟨v, t, rfl, r1, r2⟩ := r.cons_inv
    rw [List.eraseIdx_cons_succ, List.eraseIdx_cons_succ]
    exact .cons r1 (reps_erase j r2)
noncomputable def mPopAt : OpM := fun x ws st => match x, ws with
  | .cell k, [.int i] => match st[k]? with
    | some (.lst vs) => if dec (-(2 ^ 63) ≤ i ∧ i < 2 ^ 63) = true then (match seqIndex? i vs.length with
      | some j => match vs[j]? with
        | some u => .ok u (st.set k (.lst (vs.eraseIdx j)))
        | none => .bad
      | none => .bad) else .bad
    | _ => .bad
  | _, _ => .bad
theorem os_popAt : OpMS X mPopAt rPopAt := by
  intro Wx hid μ st σ H Q w ws x vs k rx rs P
  unfold mPopAt at P
  split at P
  · rename_i n i
    obtain ⟨v, rfl, r1⟩ := reps1 (ws := []) rs
    cases rep_int_inv r1
    split at P
    · rename_i zs e1
      split at P
      · rename_i hz
        have hz := dec_of hz
        split at P
        · rename_i j ej
          split at P
          · rename_i u eu
            obtain ⟨a, rfl, h3, xs, h4, h5⟩ := k.cell e1 rx
            obtain ⟨y, ey, ry⟩ := h5.get eu
            refine ⟨a, xs, i, j, y, rfl, rfl, h4, hz.1, hz.2, by rw [← h5.length]; exact ej, ey, ?_⟩
            obtain ⟨k2, g2⟩ := k.setCell (c' := .lst (zs.eraseIdx j)) (o := .lst (xs.eraseIdx j)) h3 e1 rfl rfl ⟨_, upd_same, reps_erase j h5⟩
            exact P μ _ _ k2 g2 (Rep.mono g2.le g2.pre _ _ ry)
          · exact P.elim
        · exact P.elim
      · exact P.elim
    · exact P.elim
  · exact P.elim
end
end SL

/-! # plain tuples: tuple(x) made; their index; list(text); join; sorted texts; a sign of a text -/
namespace SL
open PySem PySem.Spec PyProof.Rows L2
section
variable {X : Cx}
def oTupleP : OpN := fun ws st => match ws with
  | [x] => match lstW st x with
    | some us => .ok (.tpn us) st
    | none => match tupW st x with
      | some _ => .ok x st
      | none => .bad
  | _ => .bad
/-! ## t.index(x), a plain tuple of texts -/
end
section
variable {X : Cx} {Wx : Wish}
end
/-! ## list(text) -/
section
variable {X : Cx}
def rListS : List V → Hp → VK → Prop := fun xs H Q => ∃ z : Str, xs = [.str z] ∧ z.length ≤ sizeLine ∧ ∀ l, H l = none → Q (.ref l) (upd H l (.lst (z.cps.toList.map fun c => V.str ⟨#[c]⟩)))
theorem vals_get : ∀ {xs : List V} {us : List Value}, xs.length = us.length → (∀ (i : Nat) x u, xs[i]? = some x → us[i]? = some u → RelV x u) → Vals xs us
  | [], [], _, _ => .nil
  | [], _ :: _, h, _ => by simp at h
  | _ :: _, [], h, _ => by simp at h
  | x :: xs, u :: us, h, r => .cons (r 0 x u rfl rfl) (vals_get (by simpa using h) fun i y v h1 h2 => r (i + 1) y v (by simpa using h1) (by simpa using h2))
theorem vals_signs {x : Str} {acc : Array Value} (h : ItemsOf (SignAt x) acc x.cps.size) : Vals (x.cps.toList.map fun c => V.str ⟨#[c]⟩) acc.toList := by
  have hl : acc.toList.length = x.cps.toList.length := by simpa using h.1
  refine vals_get (by rw [List.length_map]; exact hl.symm) fun i v u h1 h2 => ?_
  obtain ⟨c, t, hc, rfl⟩ := h.2 i u (by rw [← Array.getElem?_toList]; exact h2)
  rw [List.getElem?_map, Array.getElem?_toList, hc] at h1
  cases h1
  exact ⟨t, rfl⟩
theorem call_listS (hc : X.calm = true) : CallR X (.type "list") rListS := by
  intro pins s σ H xs us Q I r h
  obtain ⟨z, rfl, hz, q⟩ := h
  obtain ⟨u, rfl, t, rfl⟩ := vals1 r
  refine call_list_str (I.ok.hd hc) z t (hn := hz) fun h' tk acc' c' kp e hacc => ?_
  have I1 : Inv X pins σ (upd H s.heap.objs.size (.lst (z.cps.toList.map fun c => V.str ⟨#[c]⟩))) { s with heap := h', toks := tk } :=
    I.laid (t' := tk) kp (Nat.le_refl _) (show ObjOk X.prog X.w _ h' _ (.lst _) from ⟨by rw [List.length_map]; exact hz, acc'.toList, c', vals_signs hacc, by simpa using e⟩)
  exact ⟨.ref s.heap.objs.size, _, I1, rfl, q _ (I.hok.fresh (Nat.le_refl _))⟩
theorem reps_signs {K : PySem.W.Frag} {mg : Str → Option Value} {F : Hp} {μ : List Addr} (cs : List Nat) : Reps K mg F μ (cs.map fun c => W.str ⟨#[c]⟩) (cs.map fun c => V.str ⟨#[c]⟩) := by
  induction cs with
  | nil => exact .nil
  | cons c cs ih => exact .cons rep_str ih
/-- list(text), that is to change; that is not -/
def oListSC : OpN := fun ws st => match ws with
  | [.str z] => if z.length ≤ LINE then .ok (.cell st.length) (st ++ [.lst (sgnW z)]) else .bad
  | _ => .bad
theorem os_listSC : OpNS X oListSC rListS := by
  intro Wx hid μ st σ H Q ws vs k r P
  unfold oListSC at P
  split at P
  · rename_i z
    obtain ⟨v, rfl, r1⟩ := reps1 (ws := []) r
    cases rep_str_inv r1
    split at P
    · rename_i hz
      refine ⟨z, rfl, le_line hz, fun l hl => ?_⟩
      obtain ⟨k2, g2⟩ := k.newCell (c := .lst (sgnW z)) (o := .lst (z.cps.toList.map fun c => V.str ⟨#[c]⟩)) hl rfl ⟨_, upd_same, reps_signs _⟩
      refine P _ _ _ k2 g2 ?_
      unfold Rep
      exact ⟨l, by rw [← k.len]; simp, rfl⟩
    · exact P.elim
  · exact P.elim
end
/-! ## join -/
section
variable {X : Cx} {Wx : Wish}
end
/-! ## sorted texts -/
theorem lt_asymm : ∀ a b : List Nat, ltCps a b = true → ltCps b a = false
  | [], [], h => by cases h
  | [], _ :: _, _ => rfl
  | _ :: _, [], h => by cases h
  | a :: r, b :: t, h => by
    unfold ltCps at h ⊢
    by_cases e : a = b
    · subst e
      simp at h ⊢
      exact lt_asymm r t h
    · have q : (a == b) = false := by simpa using e
      have q2 : (b == a) = false := by simpa using Ne.symm e
      rw [q, Bool.false_and, Bool.or_false] at h
      rw [q2, Bool.false_and, Bool.or_false]
      have := of_decide_eq_true h
      exact decide_eq_false (by omega)
theorem le_trans' : ∀ a b c : List Nat, ltCps b a = false → ltCps c b = false → ltCps c a = false
  | [], _, [], _, _ => rfl
  | [], _, _ :: _, _, _ => rfl
  | _ :: _, [], _, h, _ => by cases h
  | _ :: _, _ :: _, [], _, h => by cases h
  | a :: r, b :: t, c :: u, h1, h2 => by
    unfold ltCps at h1 h2 ⊢
    rw [Bool.or_eq_false_iff, decide_eq_false_iff_not] at h1 h2 ⊢
    refine ⟨by omega, ?_⟩
    by_cases e : c = a
    · subst e
      have e2 : b = c := by omega
      subst e2
      simp at h1 h2 ⊢
      exact le_trans' r t u h1 h2
    · have q : (c == a) = false := by simpa using e
      rw [q, Bool.false_and]
theorem le_anti : ∀ a b : List Nat, ltCps a b = false → ltCps b a = false → a = b
  | [], [], _, _ => rfl
  | [], _ :: _, h, _ => by cases h
  | _ :: _, [], _, h => by cases h
  | a :: r, b :: t, h1, h2 => by
    unfold ltCps at h1 h2
    rw [Bool.or_eq_false_iff, decide_eq_false_iff_not] at h1 h2
    have e : a = b := by omega
    subst e
    simp at h1 h2
    rw [le_anti r t h1 h2]
def leS (a b : Str) : Bool := !ltCps b.cps.toList a.cps.toList
def sortS (xs : List Str) : List Str := xs.mergeSort leS
theorem str_ext {a b : Str} (h : a.cps.toList = b.cps.toList) : a = b := by
  cases a with | mk a => cases b with | mk b => exact congrArg Str.mk (Array.toList_inj.mp h)
theorem leS_trans (a b c : Str) (h1 : leS a b = true) (h2 : leS b c = true) : leS a c = true := by
  unfold leS at *
  rw [Bool.not_eq_true'] at *
  exact le_trans' _ _ _ h1 h2
theorem leS_total (a b : Str) : (leS a b || leS b a) = true := by
  unfold leS
  cases h : ltCps b.cps.toList a.cps.toList with
  | false => rfl
  | true => rw [lt_asymm _ _ h]; rfl
theorem leS_anti {a b : Str} (h1 : leS a b = true) (h2 : leS b a = true) : a = b := by
  unfold leS at *
  rw [Bool.not_eq_true'] at *
  exact str_ext (le_anti _ _ h2 h1)
theorem rising_pw : ∀ (p : Str) (l : List Str), risingS p l = true → (p :: l).Pairwise fun a b => leS a b = true
  | p, [], _ => by simp
  | p, x :: r, h => by
    unfold risingS at h
    rw [Bool.and_eq_true] at h
    have ih := rising_pw x r h.2
    refine List.pairwise_cons.mpr ⟨fun y hy => ?_, ih⟩
    rcases List.mem_cons.mp hy with e | hy
    · subst e; exact h.1
    · exact leS_trans p x y h.1 ((List.pairwise_cons.mp ih).1 y hy)
theorem sorted_pw : ∀ (l : List Str), sortedS l = true → l.Pairwise fun a b => leS a b = true
  | [], _ => .nil
  | x :: r, h => rising_pw x r h
theorem sortS_pw (xs : List Str) : (sortS xs).Pairwise fun a b => leS a b = true := List.pairwise_mergeSort leS_trans leS_total xs
theorem sortS_perm (xs : List Str) : (sortS xs).Perm xs := List.mergeSort_perm xs _
theorem sortS_of {ys xs : List Str} (p : ys.Perm xs) (h : sortedS ys = true) : ys = sortS xs :=
  one_order (p.trans (sortS_perm xs).symm) (sorted_pw ys h) (sortS_pw xs) fun a _ b _ h1 h2 => leS_anti h1 h2
noncomputable def oSortS : OpN := fun ws st => match ws with
  | [x] => match (lstW st x).bind strsW with
    | some xs => if xs.length < 64 then .ok (.lst ((sortS xs).map .str)) st else .bad
    | none => .bad
  | _ => .bad
theorem reps_strs {K : PySem.W.Frag} {mg : Str → Option Value} {F : Hp} {μ : List Addr} (xs : List Str) : Reps K mg F μ (xs.map W.str) (xs.map V.str) := by
  induction xs with
  | nil => exact .nil
  | cons c cs ih => exact .cons rep_str ih
theorem os_sortS {X : Cx} : OpNS X oSortS (rSortedS X.K) := by
  intro Wx hid μ st σ H Q ws vs k r P
  unfold oSortS at P
  split at P
  · rename_i x
    obtain ⟨v, rfl, r1⟩ := reps1 (ws := []) r
    split at P
    · rename_i xs e
      split at P
      · rename_i hl
        cases e1 : lstW st x with
        | none => rw [e1] at e; cases e
        | some us =>
          rw [e1] at e
          obtain ⟨a, zs, rfl, h1, h2⟩ := lstW_at k e1 r1
          have e3 := strsW_at (show strsW us = some xs from e) h2
          subst e3
          refine ⟨a, xs, rfl, h1, hl, fun ys p pm sr hp => ?_⟩
          rw [sortS_of pm sr]
          exact ok_new P k hp fun F l e => rep_lst e (reps_strs _)
      · exact P.elim
    · exact P.elim
  · exact P.elim
/-! ## t[i], a text -/
end SL

/-! # own methods; defs with defaults -/
namespace SL
open PySem PySem.Spec PyProof.Rows L2
structure MethIs (P : Program) (w : World) (K : PySem.W.Frag) (mg : Str → Option Value) (base : Heap) (c m : Str) (k n : Nat) (F : Fn) : Prop where
  ex : ∃ (C g : Addr) (fd : FuncData) (ps : List Str), mg c = some (.ref C) ∧ Cls K C ∧ Meth K C m g ∧ FnOk P w K mg base (L2.CX P w) k g fd ps (spF K mg (n + 1) F) ∧ Binds K fd ps []
section
variable {X : Cx} {Wx : Wish}
end
/-! ## a def with one default: called with all but the last -/
structure FnDs (P : Program) (w : World) (K : PySem.W.Frag) (mg : Str → Option Value) (base : Heap) (x : Str) (k n : Nat) (dw : W) (F : Fn) : Prop where
  ex : ∃ (g : Addr) (fd : FuncData) (ps : List Str) (dv : V) (ds : List Value), FnOk P w K mg base (L2.CX P w) k g fd ps (spF K mg (n + 1) F) ∧ mg x = some (.ref g) ∧ PySem.W.keepIn K (.ref g) = true ∧ Binds K fd ps ds ∧ Vals [dv] ds ∧ ∀ F μ, Rep K mg F μ dw dv
section
variable {X : Cx} {Wx : Wish}
end
end SL
namespace SL
open PySem PySem.Spec PyProof.Rows L2
theorem rm65 {k : Nat} {A : Around} (r : Room k A) : A.units + 65 < cLine := by have := r.un; omega
section
variable {X : Cx} {Wx : Wish}
end
end SL

/-! # sorted(x, reverse=True); an own exception without fields -/
namespace SLr
open PySem PyProof.Rows Srt SrtO
section
variable {prog : Program} {w : World} {A : Around} {E : Value → Shared → Prop} {s : Shared}
end
end SLr
namespace SL
open PySem PySem.Spec PyProof.Rows L2
section
variable {X : Cx} {Wx : Wish}
end
/-! ## raise X(), X without own __init__ -/
structure Exc0 (K : PySem.W.Frag) (mg : Str → Option Value) (c : Str) : Prop where
  ex : ∃ C, mg c = some (.ref C) ∧ PySem.W.excIn K C [.type "ValueError", .type "Exception", .type "BaseException", .type "object"] "ValueError.__new__" = true ∧ PySem.W.keepIn K (.ref C) = true ∧ PySem.W.subIn K (.ref C) (.type "BaseException") = some true ∧ PySem.W.typeIn K (.ref C) = some (.type "type")
section
variable {X : Cx} {Wx : Wish}
end
end SL

/-! # pairs of two sequences; name += e -/
namespace SL
open PySem PySem.Spec PyProof.Rows L2
end SL

/-! # list(range(..)) as a value -/
namespace SL
open PySem PySem.Spec PyProof.Rows L2
section
variable {X : Cx} {Wx : Wish}
end
end SL

/-! # list.remove, text * int, tuples (int, text) compared -/
namespace SL
open PySem PySem.Spec PyProof.Rows L2
section
variable {X : Cx} {Wx : Wish}
/-! ## text * int -/
/-! ## (int, text) > (int, text) -/
end
end SL

/-! # dicts with text keys: sorted(d), dict(d), list(d), list(d.values()), items -/
namespace SLd
open PySem PySem.Spec PyProof.Rows L2
section
variable {X : Cx} {e : Expr} {te : TE} {p apos cpos pos : Pos}
def tListVals (te : TE) : TE := fun σ H Q => te σ H fun x H1 => ∃ (d : Addr) (kvs : List (Key × V)), x = .ref d ∧ Rd H1 d (.dK kvs) ∧ ∀ p, H1 p = none → Q (.ref p) (upd H1 p (.lst (kvs.map (·.2))))
theorem pe_listVals (hc : X.calm = true) (he : PE X e te) (hg : Gl X "list") (hm : X.mg "list" = none) (hv : bootBuiltins "list" = some (.type "list")) (hbase : attributeBase e "values" X.env (eval e X.env) = eval e X.env := by rfl) (hline : (apos.endLine == cpos.line) = true := by rfl)
    (hs : starEach [.Call (.Attribute e "values" apos) [] [] cpos] X.env = (false, eval (.Call (.Attribute e "values" apos) [] [] cpos) X.env) :: starEach [] X.env := by rfl) :
    PE X (.Call (.Name "list" p) [.Call (.Attribute e "values" apos) [] [] cpos] [] pos) (tListVals te) := by
  refine ⟨fun pins s σ H Q I hq => ?_⟩
  refine wpAny_Call_Name_kw (ld_blt I hg hm hv ?_)
  refine PyProof.Rows.callWith_type1 ?_ hs rfl
  rw [hs]
  show wpAny _ _ (spliced ((false, eval (.Call (.Attribute e "values" apos) [] [] cpos) X.env) :: backTo pos (starEach [] X.env))) _ _ s
  refine Calls.spliced_cons ?_
  refine wpAny_Call_method (T := "dict") (id := "dict.values") hbase rfl hline F.plainAttrs_dict F.slot_dict_values F.type_dict_values (thn (he.run pins s σ H _ I hq) fun u s1 ⟨x, H1, I1, rx, d, kvs, ex, hd, q⟩ => ?_)
  subst ex
  obtain rfl : u = Value.ref d := rx
  obtain ⟨hz, hs0, vs, kv, hdo⟩ := hd.ok I1.hok
  obtain ⟨ep, hat⟩ := hdo.dictAt
  have lk : kvs.length = vs.length := Paired.length kv
  have I2 : Inv X pins σ H1 { s1 with heap := s1.heap.push { cls := .type "dict_values", data := .fields #[.ref d] } } := I1.kept (t' := s1.toks) fun b ob q => Heap.get?_push_of_some _ q
  refine ⟨hdo.typeIs, hdo.mapOf.noDict, ?_⟩
  show wpAny _ _ (callWith cpos (.builtin "dict.values") [.ref d] [] []) _ X.xe s1
  refine method_meetsIn F.slot_dict_values F.entry_dict_values rfl (PySem.evalArgs_none ⟨rfl, hdo.typeIs, F.args_dict_values_1 _, _, meets_dict_values (mixKind X.prog X.w) d hs0, ⟨vs, hdo⟩, ?_⟩)
  refine Calls.spliced_nil ?_
  refine PySem.W.kdl_call (PySem.W.kdl_values (knd := mixKind X.prog X.w) (r := s1.heap.objs.size) (d := d) (kvs := vs) (ep := ep)) (I1.ok.hd hc) ⟨⟨_, Heap.get?_push_size _ rfl, rfl, rfl⟩, hat.push _⟩ (by omega) fun h' tk acc' c' hkeep hS hacc => ?_
  refine ⟨.ref _, upd H1 _ (.lst (kvs.map (·.2))), I2.laid hkeep (Nat.le_refl _) (show ObjOk X.prog X.w _ _ _ (.lst (kvs.map (·.2))) from ⟨?_, acc'.toList, c', ?_, ?_⟩), rfl, q _ (I2.hok.fresh (Nat.le_refl _))⟩
  · rw [List.length_map]; exact hz
  · have el : acc'.toList.length = acc'.size := by simp
    refine vals_of_at (by rw [List.length_map, el, hacc.1, lk]) fun j x w h1 h2 => ?_
    obtain ⟨k, hky⟩ := hacc.2 j w (by rw [← Array.getElem?_toList]; exact h2)
    rw [List.getElem?_map] at h1
    obtain ⟨kvj, h3, rfl⟩ := Option.map_eq_some_iff.mp h1
    obtain ⟨u, hu, ru⟩ := kv_get kv h3
    rw [hky] at hu
    cases hu
    exact ru
  · rw [Array.toArray_toList]; exact hS
def rListR : List V → Hp → VK → Prop := fun xs H Q => ∃ p kvs, xs = [.ref p] ∧ Rd H p (.dK kvs) ∧ ∀ q, H q = none → Q (.ref q) (upd H q (.lst (kvs.map fun kv => kV kv.1)))
theorem call_list_dR (hc : X.calm = true) : CallR X (.type "list") rListR := by
  intro pins s σ H xs us Q I r h
  obtain ⟨p, kvs, e, hk, q⟩ := h
  subst e
  obtain ⟨u, eu, rx⟩ := vals1 r
  subst eu
  obtain rfl : u = Value.ref p := rx
  obtain ⟨z, lo, vs, rk, hd⟩ := hk.ok I.hok
  obtain ⟨ep, hat⟩ := hd.dictAt
  have hl : kvs.length = vs.length := Paired.length rk
  refine PySem.W.kdl_call (PySem.W.kdl_dict (knd := mixKind X.prog X.w) (kvs := vs) (ep := ep) lo) (I.ok.hd hc) hat (by rw [← hl]; exact z) fun h' tk acc' c' hkeep hS hacc => ?_
  refine ⟨.ref s.heap.objs.size, upd H s.heap.objs.size (.lst (kvs.map fun kv => kV kv.1)), I.laid hkeep (Nat.le_refl _) (show ObjOk X.prog X.w _ _ _ (.lst (kvs.map fun kv => kV kv.1)) from ⟨?_, acc'.toList, c', ?_, ?_⟩), rfl, q _ (I.hok.fresh (Nat.le_refl _))⟩
  · rw [List.length_map]; exact z
  · have el : acc'.toList.length = acc'.size := by simp
    refine vals_of_at (by rw [List.length_map, el, hacc.1, hl]) fun j x w h1 h2 => ?_
    obtain ⟨k, y, hky, hi⟩ := hacc.2 j w (by rw [← Array.getElem?_toList]; exact h2)
    rw [List.getElem?_map] at h1
    obtain ⟨kvj, h3, rfl⟩ := Option.map_eq_some_iff.mp h1
    obtain ⟨u, hu, ru⟩ := kv_get rk h3
    rw [hky] at hu
    cases hu
    exact keyIs_rel hi
  · rw [Array.toArray_toList]; exact hS
end
end SLd
namespace SL
open PySem PySem.Spec PyProof.Rows L2
/-- a dict's keys as they stand -/
def dctKs (st : Sto) (x : W) : Option (List W × List W) := match x with
  | .cell k => match st[k]? with
    | some (.dct ks ws) => some (ks, ws)
    | _ => none
  | .dct ks ws => some (ks, ws)
  | _ => none
/-- all keys are texts -/
def txtKs : List Key → Option (List Str)
  | [] => some []
  | .inr x :: r => (txtKs r).map (x :: ·)
  | _ => none
theorem txtKs_eq : ∀ {kk : List Key} {xs : List Str}, txtKs kk = some xs → kk = xs.map Sum.inr
  | [], xs, h => by unfold txtKs at h; cases h; rfl
  | .inr x :: r, xs, h => by
    unfold txtKs at h
    cases e : txtKs r with
    | none => rw [e] at h; cases h
    | some ys => rw [e] at h; cases h; rw [List.map_cons, ← txtKs_eq e]
  | .inl _ :: _, _, h => by unfold txtKs at h; cases h
def oDictC : OpN := fun ws st => match ws with
  | [x] => match dctKs st x with
    | some (ks, us) => match mapO keyW ks with
      | some _ => .ok (.cell st.length) (st ++ [.dct ks us])
      | none => .bad
    | none => .bad
  | _ => .bad
def oListD : OpN := fun ws st => match ws with
  | [x] => match dctKs st x with
    | some (ks, _) => match mapO keyW ks with
      | some _ => .ok (.lst ks) st
      | none => .bad
    | none => .bad
  | _ => .bad
def eListV (f : Sem) : Sem := fun fr st => (f fr st).bind fun x st1 => match dctKs st1 x with
  | some (ks, us) => match mapO keyW ks with
    | some _ => .ok (.lst us) st1
    | none => .bad
  | none => .bad
section
variable {X : Cx} {Wx : Wish}
theorem dctKs_at {K : PySem.W.Frag} {mg : Str → Option Value} {hid μ : List Addr} {st : Sto} {H : Hp} {x : W} {v : V} {kk : List Key} {ks ws : List W} (k : StOk K mg μ st hid H) (h : dctKs st x = some (ks, ws)) (hk : mapO keyW ks = some kk) (r : Rep K mg (Fz μ st hid H) μ x v) :
    ∃ a vs, v = .ref a ∧ kk.length = vs.length ∧ Rd H a (.dK (kk.zip vs)) ∧ Reps K mg (Fz μ st hid H) μ ws vs := by
  refine dctW_at k (kk := kk) (ws := ws) ?_ r
  cases x with
  | cell n =>
    unfold dctKs at h
    unfold dctW
    simp only at h ⊢
    split at h
    · rename_i k1 w1 e
      cases h
      simp only [e, kind_plain hk]
    · cases h
  | dct k1 w1 =>
    unfold dctKs at h
    cases h
    unfold dctW
    simp only [kind_plain hk]
  | _ => cases h
theorem zip_snd {α β : Type} : ∀ (kk : List α) (vs : List β), kk.length = vs.length → (kk.zip vs).map (·.2) = vs
  | [], [], _ => rfl
  | _ :: kk, _ :: vs, h => by rw [List.zip_cons_cons, List.map_cons, zip_snd kk vs (by simpa using h)]
  | [], _ :: _, h => (nomatch h)
  | _ :: _, [], h => (nomatch h)
theorem zip_fst {α β : Type} : ∀ (kk : List α) (vs : List β), kk.length = vs.length → (kk.zip vs).map (·.1) = kk
  | [], [], _ => rfl
  | _ :: kk, _ :: vs, h => by rw [List.zip_cons_cons, List.map_cons, zip_fst kk vs (by simpa using h)]
  | [], _ :: _, h => (nomatch h)
  | _ :: _, [], h => (nomatch h)
theorem keys_reps {K : PySem.W.Frag} {mg : Str → Option Value} {F : Hp} {μ : List Addr} : ∀ {ks : List W} {kk : List Key}, mapO keyW ks = some kk → Reps K mg F μ ks (kk.map kV)
  | [], kk, h => by unfold mapO at h; cases h; exact .nil
  | w :: ks, kk, h => by
    unfold mapO at h
    cases e1 : keyW w with
    | none => rw [e1] at h; cases h
    | some b =>
      cases e2 : mapO keyW ks with
      | none => rw [e1, e2] at h; cases h
      | some bs =>
        rw [e1, e2] at h; cases h
        exact .cons (rep_key e1) (keys_reps e2)
theorem os_dictC : OpNS X oDictC (fun xs H Q => ∃ (a : Addr) (kvs : List (Key × V)), xs = [.ref a] ∧ Rd H a (.dK kvs) ∧ ∀ p, H p = none → Q (.ref p) (upd H p (.dK kvs))) := by
  intro Wx hid μ st σ H Q ws vs k r P
  unfold oDictC at P
  split at P
  · rename_i x
    obtain ⟨v, rfl, r1⟩ := reps1 (ws := []) r
    split at P
    · rename_i ks us e
      split at P
      · rename_i kk hk
        obtain ⟨a, vs, rfl, h1, h2, h3⟩ := dctKs_at k e hk r1
        refine ⟨a, kk.zip vs, rfl, h2, fun p hp => ?_⟩
        obtain ⟨k2, g2⟩ := k.newCell (c := .dct ks us) (o := .dK (kk.zip vs)) hp rfl ⟨vs, ⟨false, .inl kk, kind_plain hk, h1, upd_same⟩, h3.mono (.refl _) ⟨[p], rfl⟩⟩
        refine P _ _ _ k2 g2 ?_
        unfold Rep
        exact ⟨p, by rw [← k.len]; simp, rfl⟩
      · exact P.elim
    · exact P.elim
  · exact P.elim
theorem os_listD : OpNS X oListD SLd.rListR := by
  intro Wx hid μ st σ H Q ws vs k r P
  unfold oListD at P
  split at P
  · rename_i x
    obtain ⟨v, rfl, r1⟩ := reps1 (ws := []) r
    split at P
    · rename_i ks us e
      split at P
      · rename_i kk hk
        obtain ⟨a, vs, rfl, h1, h2, h3⟩ := dctKs_at k e hk r1
        refine ⟨a, kk.zip vs, rfl, h2, fun p hp => ?_⟩
        refine ok_new P k hp fun F l e => rep_lst e ?_
        have e2 : (kk.zip vs).map (fun kv => kV kv.1) = kk.map kV := by
          rw [← zip_fst kk vs h1, List.map_map, zip_fst kk vs h1]; rfl
        rw [e2]
        exact keys_reps hk
      · exact P.elim
    · exact P.elim
  · exact P.elim
theorem ev_listV {e : Expr} {f : Sem} {p apos cpos pos : Pos} (hc : X.calm = true) (hm : X.mg "list" = none) (he : EV X Wx e f) (hg : Gl X "list" := by rfl) (hv : bootBuiltins "list" = some (.type "list") := by decide +kernel) (hbase : attributeBase e "values" X.env (eval e X.env) = eval e X.env := by rfl) (hline : (apos.endLine == cpos.line) = true := by rfl)
    (hs : starEach [.Call (.Attribute e "values" apos) [] [] cpos] X.env = (false, eval (.Call (.Attribute e "values" apos) [] [] cpos) X.env) :: starEach [] X.env := by rfl) :
    EV X Wx (.Call (.Name "list" p) [.Call (.Attribute e "values" apos) [] [] cpos] [] pos) (eListV f) :=
  PEm (SLd.pe_listVals hc he hg hm hv hbase hline hs) fun σ H Q ⟨μ, st, hid, fr, S, P⟩ => by
    unfold SLd.tListVals
    refine ⟨μ, st, hid, fr, S, ?_⟩
    unfold eListV at P
    cases h : f fr st with
    | bad => rw [h] at P; exact P
    | err x s => rw [h] at P; exact P
    | ok w st1 =>
      rw [h, Out.bind_ok] at P
      intro μ1 H1 v k1 g1 r1
      have P1 := EPost.from g1 P
      split at P1
      · rename_i ks us e
        split at P1
        · rename_i kk hk
          obtain ⟨a, vs, rfl, h1, h2, h3⟩ := dctKs_at k1 e hk r1
          refine ⟨a, kk.zip vs, rfl, h2, fun q hq => ?_⟩
          refine ok_new P1 k1 hq fun F l e => rep_lst e ?_
          rw [zip_snd kk vs h1]
          exact h3.mono l (.refl _)
        · exact P1.elim
      · exact P1.elim
end
end SL

/-! # dicts walked, told by an expression; their items -/
namespace SL
open PySem PySem.Spec PyProof.Rows L2
def kvT (ks ws : List W) : List W := (ks.zip ws).map fun p => .tup [p.1, p.2]
section
variable {K : PySem.W.Frag} {mg : Str → Option Value} {Wx : Wish} {μ hid : List Addr} {st : Sto} {fr : Fr} {σ : L2.St} {H : Hp}
end
section
variable {X : Cx} {Wx : Wish}
end
end SL

/-! # a def whose new cells go on to live, however it ends -/
namespace SL
open PySem PySem.Spec PyProof.Rows L2
def mkFnI (m : Nat) (b : SSem) : Fn := fun ws st => match b (ws.map some ++ List.replicate (m - ws.length) none) st with
  | .nx _ st1 => .ok .non st1
  | .rt w st1 => .ok w st1
  | .er x _ st1 => .err x st1
  | _ => .bad
theorem fn_okI {P : Program} {w : World} {K : PySem.W.Frag} {mg : Str → Option Value} {base : Heap} {x qual : Str} {st : Stmt} {f : Addr} {fd : FuncData} {N ps : List Str} {k m n : Nat} {b : SSem} (F : Fun K x qual st f fd) (S : FnScope N ps (defScope st)) (hm : N.length = m := by rfl) (hn : ps.length = n := by rfl)
    (hb : ∀ (cdv : Value) (A : Around) (outer : List Env) (s : Shared) (H : Hp) (E : XK), Ctx (cxOf (L2.CX P w) P w K mg base N qual (defScope st) f cdv A outer s H E) (Wish.of fun c d _ H => E c d H) k → BV (cxOf (L2.CX P w) P w K mg base N qual (defScope st) f cdv A outer s H E) (Wish.of fun c d _ H => E c d H) (defBody st) b) :
    FnOk P w K mg base (L2.CX P w) (k + 1) f fd ps (spF K mg n (mkFnI m b)) := by
  refine F.okX S (fun vs H Q E h => ?_) (fun cdv A outer s H vs Q E hr h => ?_)
  · obtain ⟨_, _, _, _, h, _⟩ := h
    rw [h, hn]
  · refine ⟨_, hb cdv A outer s H E ⟨rfl, S.nd, hr, takes_of rfl rfl rfl rfl, passes_of (K := fun e s'' => L2.CX P w outer H s E e s'') rfl⟩, ?_⟩
    obtain ⟨hid, μ, st0, ws, hl, k0, r, P0⟩ := h
    have wl : ws.length = vs.length := r.length
    refine ⟨μ, st0, hid, ws.map some ++ List.replicate (m - ws.length) none, ⟨k0, ?_, fun i u hi => ?_, trivial⟩, ?_⟩
    · unfold L2.start
      simp only [List.length_append, List.length_map, List.length_replicate, wl, hm]
    · by_cases hlt : i < ws.length
      · rw [List.getElem?_append_left (by simpa using hlt), List.getElem?_map] at hi
        cases e : ws[i]? with
        | none => rw [e] at hi; cases hi
        | some u' =>
          rw [e] at hi
          cases hi
          obtain ⟨v, e1, e2⟩ := r.get e
          exact ⟨v, start_get e1, e2⟩
      · rw [List.getElem?_append_right (by simpa using hlt), List.getElem?_replicate] at hi
        split at hi <;> cases hi
    · unfold mkFnI at P0
      cases e : b (ws.map some ++ List.replicate (m - ws.length) none) st0 with
      | bad => rw [e] at P0; exact P0
      | bk f s => rw [e] at P0; exact P0.elim
      | ct f s => rw [e] at P0; exact P0.elim
      | nx f s =>
        rw [e] at P0
        exact fun μ' σ' H' S' g => P0 μ' H' _ S'.sto g rep_non
      | rt u s =>
        rw [e] at P0
        exact fun μ' H' v k' g' r' => P0 μ' H' v k' g' r'
      | er x f s =>
        rw [e] at P0
        exact fun μ' σ' H' c d S' g xr => P0 μ' H' c d S'.sto g xr
end SL

/-! # a method without arguments -/
namespace SL
open PySem PySem.Spec PyProof.Rows L2
section
variable {X : Cx} {Wx : Wish}
end
end SL

/-! # == of dicts with data within; == of lists where an item may be the same object -/
namespace SL
open PySem PySem.Spec PyProof.Rows L2
/-- x == y gives b: data; the same object; two empty dicts -/
inductive EqIt (K : PySem.W.Frag) (H : Hp) : V → V → Bool → Prop
  | dat {x y : V} {d e : PyData} (h1 : Dp K H x d) (h2 : Dp K H y e) (h3 : SeqAt.shaped d = true) (h4 : SeqAt.shaped e = true) : EqIt K H x y (PyData.eqv d e)
  | same {a : Addr} : EqIt K H (.ref a) (.ref a) true
  | dct0 {a b : Addr} (h1 : Rd H a (.dK [])) (h2 : Rd H b (.dK [])) : EqIt K H (.ref a) (.ref b) true
/-! ## dicts -/
inductive HitV (K : PySem.W.Frag) (H : Hp) (ls : List (Key × V)) : List (Key × V) → Bool → Prop
  | nil : HitV K H ls [] true
  | miss {k : Key} {v : V} {r : List (Key × V)} (h : valV ls k = none) : HitV K H ls ((k, v) :: r) false
  | hit {k : Key} {v y : V} {r : List (Key × V)} {e b : Bool} (h : valV ls k = some y) (h2 : EqIt K H v y e) (h3 : HitV K H ls r b) : HitV K H ls ((k, v) :: r) (e && b)
section
variable {X : Cx}
end
section
variable {X : Cx}
end
/-! ## lists, item by item -/
section
variable {X : Cx}
end
end SL

/-! # properties; d.clear(), d.pop(k) of a dict that lives; in, not in for lists of data -/
namespace SL
open PySem PySem.Spec PyProof.Rows L2
/-! ## properties -/
structure PropIs (P : Program) (w : World) (K : PySem.W.Frag) (mg : Str → Option Value) (base : Heap) (c m : Str) (k : Nat) (F : Fn) : Prop where
  ex : ∃ (C p g : Addr) (fd : FuncData) (ps : List Str), mg c = some (.ref C) ∧ Cls K C ∧ PropOf K C m p g ∧ FnOk P w K mg base (L2.CX P w) k g fd ps (spF K mg 1 F) ∧ Binds K fd ps []
section
variable {X : Cx} {Wx : Wish}
/-! ## d.clear(), d.pop(k) -/
/-! ## in, not in: lists of data -/
end
end SL

/-! # {x: y, u: v}: a new dict that lives, of four written texts -/
namespace SL
open PySem PySem.Spec PyProof.Rows L2
section
variable {X : Cx} {Wx : Wish}
end
end SL

/-! # isinstance(e, c) of a caught error that has fields -/
namespace SL
open PySem PySem.Spec PyProof.Rows L2
/-- what isinstance says of an error of the class told, by a table -/
structure IxOk (K : PySem.W.Frag) (mg : Str → Option Value) (T : ExT) : Prop where
  ok : ∀ c c' b, T c c' = some b → ∀ D C, mg c = some (.ref D) → mg c' = some (.ref C) → ExcC K D ∧ PySem.W.kitOne K (.ref D) (.ref C) = some b
section
variable {X : Cx} {Wx : Wish}
end
end SL

/-! # dicts with tuples as keys: len(d), list(d.values()) -/
namespace SLd
open PySem PySem.Spec PyProof.Rows L2
section
variable {X : Cx} {e : Expr} {te : TE} {p apos cpos pos : Pos}
end
end SLd
namespace SL
open PySem PySem.Spec PyProof.Rows L2
section
variable {X : Cx} {Wx : Wish}
end
end SL

/-! # sorted(d) of a dict whose keys are all ints -/
namespace SLd
open PySem PySem.Spec PyProof.Rows L2
section
variable {X : Cx}
end
end SLd
namespace SL
open PySem PySem.Spec PyProof.Rows L2
end SL

/-! # dict comprehensions whose keys are tuples -/
namespace SLd
open PySem PySem.Spec PyProof.Rows L2
section
variable {X : Cx}
end
end SLd
namespace SL
open PySem PySem.Spec PyProof.Rows L2
open Classical in
structure DcSt (K : PySem.W.Frag) (mg : Str → Option Value) (D : Addr) (hid μ0 : List Addr) (F0 : Hp) (H0 : Hp) (i : Nat) (μ : List Addr) (st : Sto) (H : Hp) (ps : List (W × W)) (kk : List KeyL) (vs : List V) : Prop where
  sto : StOk K mg μ st (D :: hid) H
  le : Le F0 (Fz μ st (D :: hid) H)
  pre : Pre μ0 μ
  hidk : ∀ a ∈ hid, H a = H0 a
  lck : Lk H0 H
  at_ : H D = some (.dT (kk.zip vs))
  keys : mapO keyT (ps.map (·.1)) = some kk
  rep : Reps K mg (Fz μ st (D :: hid) H) μ (ps.map (·.2)) vs
  vlen : kk.length = vs.length
  len : kk.length ≤ i
section
variable {X : Cx} {Wx : Wish}
end
end SL

/-! # comprehensions of two clauses; (*t, ..) -/
namespace SL
open PySem PySem.Spec PyProof.Rows L2
/-! ## two clauses -/
open Classical in
structure LsSt (K : PySem.W.Frag) (mg : Str → Option Value) (D : Addr) (hid μ0 : List Addr) (F0 : Hp) (H0 : Hp) (μ : List Addr) (st : Sto) (H : Hp) (ys : List W) (acc : List V) : Prop where
  sto : StOk K mg μ st (D :: hid) H
  le : Le F0 (Fz μ st (D :: hid) H)
  pre : Pre μ0 μ
  hidk : ∀ a ∈ hid, H a = H0 a
  lck : Lk H0 H
  at_ : H D = some (.lst acc)
  rep : Reps K mg (Fz μ st (D :: hid) H) μ ys acc
theorem LsSt.push {K : PySem.W.Frag} {mg : Str → Option Value} {D : Addr} {hid μ0 μ : List Addr} {F0 H0 H : Hp} {st : Sto} {ys : List W} {acc : List V} {y : W} {v : V} (L : LsSt K mg D hid μ0 F0 H0 μ st H ys acc) (hDn : D ∉ hid) (r : Rep K mg (Fz μ st (D :: hid) H) μ y v) : LsSt K mg D hid μ0 F0 H0 μ st (upd H D (.lst (acc ++ [v]))) (ys ++ [y]) (acc ++ [v]) := by
  have e : Fz μ st (D :: hid) (upd H D (.lst (acc ++ [v]))) = Fz μ st (D :: hid) H := Fz.hidUpd List.mem_cons_self
  refine ⟨L.sto.hidUpd List.mem_cons_self, by rw [e]; exact L.le, L.pre, fun a ha => ?_, fun a o u h => ?_, upd_same, by rw [e]; exact L.rep.append (.cons r .nil)⟩
  · rw [upd_ne (fun z : a = D => hDn (z ▸ ha))]; exact L.hidk a ha
  · have q := L.lck a o u h
    rw [upd_ne fun z => by rw [z, L.at_] at q; cases q]; exact q
section
variable {X : Cx} {Wx : Wish}
end
end SL

/-! # pairs of ints: min of a list, >; x in a tuple of data; list(range(n)) that lives -/
namespace SL
open PySem PySem.Spec PyProof.Rows L2
section
variable {X : Cx}
/-! ## t > u of pairs -/
/-! ## x in a tuple of data -/
end
/-! ## list(range(n)), to live -/
section
variable {X : Cx} {Wx : Wish}
end
end SL

/-! # d.get(k) of dicts with tuple keys; a dict that is not to change any more -/
namespace SLd
open PySem PySem.Spec PyProof.Rows L2
end SLd
namespace SL
open PySem PySem.Spec PyProof.Rows L2
section
variable {X : Cx} {Wx : Wish}
end
end SL

namespace SL
open PySem PySem.Spec PyProof.Rows L2
/-! # plain reckoning: what the meanings come to -/
/-! frames, place by place -/
section
variable {α : Type} {a0 a1 a2 a3 a4 a5 a6 a7 a8 a9 a10 a11 a12 a13 a14 a15 a16 a17 a18 a19 a20 a21 a22 a23 a24 a25 a26 a27 a28 a29 a30 a31 a32 b : α} {l : List α}
@[simp high] theorem fg0 : (a0 :: l)[0]? = some a0 := rfl
@[simp high] theorem fs0 : (a0 :: l).set 0 b = b :: l := rfl
@[simp high] theorem fg1 : (a0 :: a1 :: l)[1]? = some a1 := rfl
@[simp high] theorem fs1 : (a0 :: a1 :: l).set 1 b = a0 :: b :: l := rfl
@[simp high] theorem fg2 : (a0 :: a1 :: a2 :: l)[2]? = some a2 := rfl
@[simp high] theorem fs2 : (a0 :: a1 :: a2 :: l).set 2 b = a0 :: a1 :: b :: l := rfl
@[simp high] theorem fg3 : (a0 :: a1 :: a2 :: a3 :: l)[3]? = some a3 := rfl
@[simp high] theorem fs3 : (a0 :: a1 :: a2 :: a3 :: l).set 3 b = a0 :: a1 :: a2 :: b :: l := rfl
@[simp high] theorem fg4 : (a0 :: a1 :: a2 :: a3 :: a4 :: l)[4]? = some a4 := rfl
@[simp high] theorem fs4 : (a0 :: a1 :: a2 :: a3 :: a4 :: l).set 4 b = a0 :: a1 :: a2 :: a3 :: b :: l := rfl
@[simp high] theorem fg5 : (a0 :: a1 :: a2 :: a3 :: a4 :: a5 :: l)[5]? = some a5 := rfl
@[simp high] theorem fs5 : (a0 :: a1 :: a2 :: a3 :: a4 :: a5 :: l).set 5 b = a0 :: a1 :: a2 :: a3 :: a4 :: b :: l := rfl
@[simp high] theorem fg6 : (a0 :: a1 :: a2 :: a3 :: a4 :: a5 :: a6 :: l)[6]? = some a6 := rfl
@[simp high] theorem fs6 : (a0 :: a1 :: a2 :: a3 :: a4 :: a5 :: a6 :: l).set 6 b = a0 :: a1 :: a2 :: a3 :: a4 :: a5 :: b :: l := rfl
@[simp high] theorem fg7 : (a0 :: a1 :: a2 :: a3 :: a4 :: a5 :: a6 :: a7 :: l)[7]? = some a7 := rfl
@[simp high] theorem fs7 : (a0 :: a1 :: a2 :: a3 :: a4 :: a5 :: a6 :: a7 :: l).set 7 b = a0 :: a1 :: a2 :: a3 :: a4 :: a5 :: a6 :: b :: l := rfl
@[simp high] theorem fg8 : (a0 :: a1 :: a2 :: a3 :: a4 :: a5 :: a6 :: a7 :: a8 :: l)[8]? = some a8 := rfl
@[simp high] theorem fs8 : (a0 :: a1 :: a2 :: a3 :: a4 :: a5 :: a6 :: a7 :: a8 :: l).set 8 b = a0 :: a1 :: a2 :: a3 :: a4 :: a5 :: a6 :: a7 :: b :: l := rfl
@[simp high] theorem fg9 : (a0 :: a1 :: a2 :: a3 :: a4 :: a5 :: a6 :: a7 :: a8 :: a9 :: l)[9]? = some a9 := rfl
@[simp high] theorem fs9 : (a0 :: a1 :: a2 :: a3 :: a4 :: a5 :: a6 :: a7 :: a8 :: a9 :: l).set 9 b = a0 :: a1 :: a2 :: a3 :: a4 :: a5 :: a6 :: a7 :: a8 :: b :: l := rfl
@[simp high] theorem fg10 : (a0 :: a1 :: a2 :: a3 :: a4 :: a5 :: a6 :: a7 :: a8 :: a9 :: a10 :: l)[10]? = some a10 := rfl
@[simp high] theorem fs10 : (a0 :: a1 :: a2 :: a3 :: a4 :: a5 :: a6 :: a7 :: a8 :: a9 :: a10 :: l).set 10 b = a0 :: a1 :: a2 :: a3 :: a4 :: a5 :: a6 :: a7 :: a8 :: a9 :: b :: l := rfl
@[simp high] theorem fg11 : (a0 :: a1 :: a2 :: a3 :: a4 :: a5 :: a6 :: a7 :: a8 :: a9 :: a10 :: a11 :: l)[11]? = some a11 := rfl
@[simp high] theorem fs11 : (a0 :: a1 :: a2 :: a3 :: a4 :: a5 :: a6 :: a7 :: a8 :: a9 :: a10 :: a11 :: l).set 11 b = a0 :: a1 :: a2 :: a3 :: a4 :: a5 :: a6 :: a7 :: a8 :: a9 :: a10 :: b :: l := rfl
@[simp high] theorem fg12 : (a0 :: a1 :: a2 :: a3 :: a4 :: a5 :: a6 :: a7 :: a8 :: a9 :: a10 :: a11 :: a12 :: l)[12]? = some a12 := rfl
@[simp high] theorem fs12 : (a0 :: a1 :: a2 :: a3 :: a4 :: a5 :: a6 :: a7 :: a8 :: a9 :: a10 :: a11 :: a12 :: l).set 12 b = a0 :: a1 :: a2 :: a3 :: a4 :: a5 :: a6 :: a7 :: a8 :: a9 :: a10 :: a11 :: b :: l := rfl
@[simp high] theorem fg13 : (a0 :: a1 :: a2 :: a3 :: a4 :: a5 :: a6 :: a7 :: a8 :: a9 :: a10 :: a11 :: a12 :: a13 :: l)[13]? = some a13 := rfl
@[simp high] theorem fs13 : (a0 :: a1 :: a2 :: a3 :: a4 :: a5 :: a6 :: a7 :: a8 :: a9 :: a10 :: a11 :: a12 :: a13 :: l).set 13 b = a0 :: a1 :: a2 :: a3 :: a4 :: a5 :: a6 :: a7 :: a8 :: a9 :: a10 :: a11 :: a12 :: b :: l := rfl
@[simp high] theorem fg14 : (a0 :: a1 :: a2 :: a3 :: a4 :: a5 :: a6 :: a7 :: a8 :: a9 :: a10 :: a11 :: a12 :: a13 :: a14 :: l)[14]? = some a14 := rfl
@[simp high] theorem fs14 : (a0 :: a1 :: a2 :: a3 :: a4 :: a5 :: a6 :: a7 :: a8 :: a9 :: a10 :: a11 :: a12 :: a13 :: a14 :: l).set 14 b = a0 :: a1 :: a2 :: a3 :: a4 :: a5 :: a6 :: a7 :: a8 :: a9 :: a10 :: a11 :: a12 :: a13 :: b :: l := rfl
@[simp high] theorem fg15 : (a0 :: a1 :: a2 :: a3 :: a4 :: a5 :: a6 :: a7 :: a8 :: a9 :: a10 :: a11 :: a12 :: a13 :: a14 :: a15 :: l)[15]? = some a15 := rfl
@[simp high] theorem fs15 : (a0 :: a1 :: a2 :: a3 :: a4 :: a5 :: a6 :: a7 :: a8 :: a9 :: a10 :: a11 :: a12 :: a13 :: a14 :: a15 :: l).set 15 b = a0 :: a1 :: a2 :: a3 :: a4 :: a5 :: a6 :: a7 :: a8 :: a9 :: a10 :: a11 :: a12 :: a13 :: a14 :: b :: l := rfl
@[simp high] theorem fg16 : (a0 :: a1 :: a2 :: a3 :: a4 :: a5 :: a6 :: a7 :: a8 :: a9 :: a10 :: a11 :: a12 :: a13 :: a14 :: a15 :: a16 :: l)[16]? = some a16 := rfl
@[simp high] theorem fs16 : (a0 :: a1 :: a2 :: a3 :: a4 :: a5 :: a6 :: a7 :: a8 :: a9 :: a10 :: a11 :: a12 :: a13 :: a14 :: a15 :: a16 :: l).set 16 b = a0 :: a1 :: a2 :: a3 :: a4 :: a5 :: a6 :: a7 :: a8 :: a9 :: a10 :: a11 :: a12 :: a13 :: a14 :: a15 :: b :: l := rfl
@[simp high] theorem fg17 : (a0 :: a1 :: a2 :: a3 :: a4 :: a5 :: a6 :: a7 :: a8 :: a9 :: a10 :: a11 :: a12 :: a13 :: a14 :: a15 :: a16 :: a17 :: l)[17]? = some a17 := rfl
@[simp high] theorem fs17 : (a0 :: a1 :: a2 :: a3 :: a4 :: a5 :: a6 :: a7 :: a8 :: a9 :: a10 :: a11 :: a12 :: a13 :: a14 :: a15 :: a16 :: a17 :: l).set 17 b = a0 :: a1 :: a2 :: a3 :: a4 :: a5 :: a6 :: a7 :: a8 :: a9 :: a10 :: a11 :: a12 :: a13 :: a14 :: a15 :: a16 :: b :: l := rfl
@[simp high] theorem fg18 : (a0 :: a1 :: a2 :: a3 :: a4 :: a5 :: a6 :: a7 :: a8 :: a9 :: a10 :: a11 :: a12 :: a13 :: a14 :: a15 :: a16 :: a17 :: a18 :: l)[18]? = some a18 := rfl
@[simp high] theorem fs18 : (a0 :: a1 :: a2 :: a3 :: a4 :: a5 :: a6 :: a7 :: a8 :: a9 :: a10 :: a11 :: a12 :: a13 :: a14 :: a15 :: a16 :: a17 :: a18 :: l).set 18 b = a0 :: a1 :: a2 :: a3 :: a4 :: a5 :: a6 :: a7 :: a8 :: a9 :: a10 :: a11 :: a12 :: a13 :: a14 :: a15 :: a16 :: a17 :: b :: l := rfl
@[simp high] theorem fg19 : (a0 :: a1 :: a2 :: a3 :: a4 :: a5 :: a6 :: a7 :: a8 :: a9 :: a10 :: a11 :: a12 :: a13 :: a14 :: a15 :: a16 :: a17 :: a18 :: a19 :: l)[19]? = some a19 := rfl
@[simp high] theorem fs19 : (a0 :: a1 :: a2 :: a3 :: a4 :: a5 :: a6 :: a7 :: a8 :: a9 :: a10 :: a11 :: a12 :: a13 :: a14 :: a15 :: a16 :: a17 :: a18 :: a19 :: l).set 19 b = a0 :: a1 :: a2 :: a3 :: a4 :: a5 :: a6 :: a7 :: a8 :: a9 :: a10 :: a11 :: a12 :: a13 :: a14 :: a15 :: a16 :: a17 :: a18 :: b :: l := rfl
@[simp high] theorem fg20 : (a0 :: a1 :: a2 :: a3 :: a4 :: a5 :: a6 :: a7 :: a8 :: a9 :: a10 :: a11 :: a12 :: a13 :: a14 :: a15 :: a16 :: a17 :: a18 :: a19 :: a20 :: l)[20]? = some a20 := rfl
@[simp high] theorem fs20 : (a0 :: a1 :: a2 :: a3 :: a4 :: a5 :: a6 :: a7 :: a8 :: a9 :: a10 :: a11 :: a12 :: a13 :: a14 :: a15 :: a16 :: a17 :: a18 :: a19 :: a20 :: l).set 20 b = a0 :: a1 :: a2 :: a3 :: a4 :: a5 :: a6 :: a7 :: a8 :: a9 :: a10 :: a11 :: a12 :: a13 :: a14 :: a15 :: a16 :: a17 :: a18 :: a19 :: b :: l := rfl
@[simp high] theorem fg21 : (a0 :: a1 :: a2 :: a3 :: a4 :: a5 :: a6 :: a7 :: a8 :: a9 :: a10 :: a11 :: a12 :: a13 :: a14 :: a15 :: a16 :: a17 :: a18 :: a19 :: a20 :: a21 :: l)[21]? = some a21 := rfl
@[simp high] theorem fs21 : (a0 :: a1 :: a2 :: a3 :: a4 :: a5 :: a6 :: a7 :: a8 :: a9 :: a10 :: a11 :: a12 :: a13 :: a14 :: a15 :: a16 :: a17 :: a18 :: a19 :: a20 :: a21 :: l).set 21 b = a0 :: a1 :: a2 :: a3 :: a4 :: a5 :: a6 :: a7 :: a8 :: a9 :: a10 :: a11 :: a12 :: a13 :: a14 :: a15 :: a16 :: a17 :: a18 :: a19 :: a20 :: b :: l := rfl
@[simp high] theorem fg22 : (a0 :: a1 :: a2 :: a3 :: a4 :: a5 :: a6 :: a7 :: a8 :: a9 :: a10 :: a11 :: a12 :: a13 :: a14 :: a15 :: a16 :: a17 :: a18 :: a19 :: a20 :: a21 :: a22 :: l)[22]? = some a22 := rfl
@[simp high] theorem fs22 : (a0 :: a1 :: a2 :: a3 :: a4 :: a5 :: a6 :: a7 :: a8 :: a9 :: a10 :: a11 :: a12 :: a13 :: a14 :: a15 :: a16 :: a17 :: a18 :: a19 :: a20 :: a21 :: a22 :: l).set 22 b = a0 :: a1 :: a2 :: a3 :: a4 :: a5 :: a6 :: a7 :: a8 :: a9 :: a10 :: a11 :: a12 :: a13 :: a14 :: a15 :: a16 :: a17 :: a18 :: a19 :: a20 :: a21 :: b :: l := rfl
@[simp high] theorem fg23 : (a0 :: a1 :: a2 :: a3 :: a4 :: a5 :: a6 :: a7 :: a8 :: a9 :: a10 :: a11 :: a12 :: a13 :: a14 :: a15 :: a16 :: a17 :: a18 :: a19 :: a20 :: a21 :: a22 :: a23 :: l)[23]? = some a23 := rfl
@[simp high] theorem fs23 : (a0 :: a1 :: a2 :: a3 :: a4 :: a5 :: a6 :: a7 :: a8 :: a9 :: a10 :: a11 :: a12 :: a13 :: a14 :: a15 :: a16 :: a17 :: a18 :: a19 :: a20 :: a21 :: a22 :: a23 :: l).set 23 b = a0 :: a1 :: a2 :: a3 :: a4 :: a5 :: a6 :: a7 :: a8 :: a9 :: a10 :: a11 :: a12 :: a13 :: a14 :: a15 :: a16 :: a17 :: a18 :: a19 :: a20 :: a21 :: a22 :: b :: l := rfl
@[simp high] theorem fg24 : (a0 :: a1 :: a2 :: a3 :: a4 :: a5 :: a6 :: a7 :: a8 :: a9 :: a10 :: a11 :: a12 :: a13 :: a14 :: a15 :: a16 :: a17 :: a18 :: a19 :: a20 :: a21 :: a22 :: a23 :: a24 :: l)[24]? = some a24 := rfl
@[simp high] theorem fs24 : (a0 :: a1 :: a2 :: a3 :: a4 :: a5 :: a6 :: a7 :: a8 :: a9 :: a10 :: a11 :: a12 :: a13 :: a14 :: a15 :: a16 :: a17 :: a18 :: a19 :: a20 :: a21 :: a22 :: a23 :: a24 :: l).set 24 b = a0 :: a1 :: a2 :: a3 :: a4 :: a5 :: a6 :: a7 :: a8 :: a9 :: a10 :: a11 :: a12 :: a13 :: a14 :: a15 :: a16 :: a17 :: a18 :: a19 :: a20 :: a21 :: a22 :: a23 :: b :: l := rfl
@[simp high] theorem fg25 : (a0 :: a1 :: a2 :: a3 :: a4 :: a5 :: a6 :: a7 :: a8 :: a9 :: a10 :: a11 :: a12 :: a13 :: a14 :: a15 :: a16 :: a17 :: a18 :: a19 :: a20 :: a21 :: a22 :: a23 :: a24 :: a25 :: l)[25]? = some a25 := rfl
@[simp high] theorem fs25 : (a0 :: a1 :: a2 :: a3 :: a4 :: a5 :: a6 :: a7 :: a8 :: a9 :: a10 :: a11 :: a12 :: a13 :: a14 :: a15 :: a16 :: a17 :: a18 :: a19 :: a20 :: a21 :: a22 :: a23 :: a24 :: a25 :: l).set 25 b = a0 :: a1 :: a2 :: a3 :: a4 :: a5 :: a6 :: a7 :: a8 :: a9 :: a10 :: a11 :: a12 :: a13 :: a14 :: a15 :: a16 :: a17 :: a18 :: a19 :: a20 :: a21 :: a22 :: a23 :: a24 :: b :: l := rfl
@[simp high] theorem fg26 : (a0 :: a1 :: a2 :: a3 :: a4 :: a5 :: a6 :: a7 :: a8 :: a9 :: a10 :: a11 :: a12 :: a13 :: a14 :: a15 :: a16 :: a17 :: a18 :: a19 :: a20 :: a21 :: a22 :: a23 :: a24 :: a25 :: a26 :: l)[26]? = some a26 := rfl
@[simp high] theorem fs26 : (a0 :: a1 :: a2 :: a3 :: a4 :: a5 :: a6 :: a7 :: a8 :: a9 :: a10 :: a11 :: a12 :: a13 :: a14 :: a15 :: a16 :: a17 :: a18 :: a19 :: a20 :: a21 :: a22 :: a23 :: a24 :: a25 :: a26 :: l).set 26 b = a0 :: a1 :: a2 :: a3 :: a4 :: a5 :: a6 :: a7 :: a8 :: a9 :: a10 :: a11 :: a12 :: a13 :: a14 :: a15 :: a16 :: a17 :: a18 :: a19 :: a20 :: a21 :: a22 :: a23 :: a24 :: a25 :: b :: l := rfl
@[simp high] theorem fg27 : (a0 :: a1 :: a2 :: a3 :: a4 :: a5 :: a6 :: a7 :: a8 :: a9 :: a10 :: a11 :: a12 :: a13 :: a14 :: a15 :: a16 :: a17 :: a18 :: a19 :: a20 :: a21 :: a22 :: a23 :: a24 :: a25 :: a26 :: a27 :: l)[27]? = some a27 := rfl
@[simp high] theorem fs27 : (a0 :: a1 :: a2 :: a3 :: a4 :: a5 :: a6 :: a7 :: a8 :: a9 :: a10 :: a11 :: a12 :: a13 :: a14 :: a15 :: a16 :: a17 :: a18 :: a19 :: a20 :: a21 :: a22 :: a23 :: a24 :: a25 :: a26 :: a27 :: l).set 27 b = a0 :: a1 :: a2 :: a3 :: a4 :: a5 :: a6 :: a7 :: a8 :: a9 :: a10 :: a11 :: a12 :: a13 :: a14 :: a15 :: a16 :: a17 :: a18 :: a19 :: a20 :: a21 :: a22 :: a23 :: a24 :: a25 :: a26 :: b :: l := rfl
@[simp high] theorem fg28 : (a0 :: a1 :: a2 :: a3 :: a4 :: a5 :: a6 :: a7 :: a8 :: a9 :: a10 :: a11 :: a12 :: a13 :: a14 :: a15 :: a16 :: a17 :: a18 :: a19 :: a20 :: a21 :: a22 :: a23 :: a24 :: a25 :: a26 :: a27 :: a28 :: l)[28]? = some a28 := rfl
@[simp high] theorem fs28 : (a0 :: a1 :: a2 :: a3 :: a4 :: a5 :: a6 :: a7 :: a8 :: a9 :: a10 :: a11 :: a12 :: a13 :: a14 :: a15 :: a16 :: a17 :: a18 :: a19 :: a20 :: a21 :: a22 :: a23 :: a24 :: a25 :: a26 :: a27 :: a28 :: l).set 28 b = a0 :: a1 :: a2 :: a3 :: a4 :: a5 :: a6 :: a7 :: a8 :: a9 :: a10 :: a11 :: a12 :: a13 :: a14 :: a15 :: a16 :: a17 :: a18 :: a19 :: a20 :: a21 :: a22 :: a23 :: a24 :: a25 :: a26 :: a27 :: b :: l := rfl
@[simp high] theorem fg29 : (a0 :: a1 :: a2 :: a3 :: a4 :: a5 :: a6 :: a7 :: a8 :: a9 :: a10 :: a11 :: a12 :: a13 :: a14 :: a15 :: a16 :: a17 :: a18 :: a19 :: a20 :: a21 :: a22 :: a23 :: a24 :: a25 :: a26 :: a27 :: a28 :: a29 :: l)[29]? = some a29 := rfl
@[simp high] theorem fs29 : (a0 :: a1 :: a2 :: a3 :: a4 :: a5 :: a6 :: a7 :: a8 :: a9 :: a10 :: a11 :: a12 :: a13 :: a14 :: a15 :: a16 :: a17 :: a18 :: a19 :: a20 :: a21 :: a22 :: a23 :: a24 :: a25 :: a26 :: a27 :: a28 :: a29 :: l).set 29 b = a0 :: a1 :: a2 :: a3 :: a4 :: a5 :: a6 :: a7 :: a8 :: a9 :: a10 :: a11 :: a12 :: a13 :: a14 :: a15 :: a16 :: a17 :: a18 :: a19 :: a20 :: a21 :: a22 :: a23 :: a24 :: a25 :: a26 :: a27 :: a28 :: b :: l := rfl
@[simp high] theorem fg30 : (a0 :: a1 :: a2 :: a3 :: a4 :: a5 :: a6 :: a7 :: a8 :: a9 :: a10 :: a11 :: a12 :: a13 :: a14 :: a15 :: a16 :: a17 :: a18 :: a19 :: a20 :: a21 :: a22 :: a23 :: a24 :: a25 :: a26 :: a27 :: a28 :: a29 :: a30 :: l)[30]? = some a30 := rfl
@[simp high] theorem fs30 : (a0 :: a1 :: a2 :: a3 :: a4 :: a5 :: a6 :: a7 :: a8 :: a9 :: a10 :: a11 :: a12 :: a13 :: a14 :: a15 :: a16 :: a17 :: a18 :: a19 :: a20 :: a21 :: a22 :: a23 :: a24 :: a25 :: a26 :: a27 :: a28 :: a29 :: a30 :: l).set 30 b = a0 :: a1 :: a2 :: a3 :: a4 :: a5 :: a6 :: a7 :: a8 :: a9 :: a10 :: a11 :: a12 :: a13 :: a14 :: a15 :: a16 :: a17 :: a18 :: a19 :: a20 :: a21 :: a22 :: a23 :: a24 :: a25 :: a26 :: a27 :: a28 :: a29 :: b :: l := rfl
@[simp high] theorem fg31 : (a0 :: a1 :: a2 :: a3 :: a4 :: a5 :: a6 :: a7 :: a8 :: a9 :: a10 :: a11 :: a12 :: a13 :: a14 :: a15 :: a16 :: a17 :: a18 :: a19 :: a20 :: a21 :: a22 :: a23 :: a24 :: a25 :: a26 :: a27 :: a28 :: a29 :: a30 :: a31 :: l)[31]? = some a31 := rfl
@[simp high] theorem fs31 : (a0 :: a1 :: a2 :: a3 :: a4 :: a5 :: a6 :: a7 :: a8 :: a9 :: a10 :: a11 :: a12 :: a13 :: a14 :: a15 :: a16 :: a17 :: a18 :: a19 :: a20 :: a21 :: a22 :: a23 :: a24 :: a25 :: a26 :: a27 :: a28 :: a29 :: a30 :: a31 :: l).set 31 b = a0 :: a1 :: a2 :: a3 :: a4 :: a5 :: a6 :: a7 :: a8 :: a9 :: a10 :: a11 :: a12 :: a13 :: a14 :: a15 :: a16 :: a17 :: a18 :: a19 :: a20 :: a21 :: a22 :: a23 :: a24 :: a25 :: a26 :: a27 :: a28 :: a29 :: a30 :: b :: l := rfl
@[simp high] theorem fg32 : (a0 :: a1 :: a2 :: a3 :: a4 :: a5 :: a6 :: a7 :: a8 :: a9 :: a10 :: a11 :: a12 :: a13 :: a14 :: a15 :: a16 :: a17 :: a18 :: a19 :: a20 :: a21 :: a22 :: a23 :: a24 :: a25 :: a26 :: a27 :: a28 :: a29 :: a30 :: a31 :: a32 :: l)[32]? = some a32 := rfl
@[simp high] theorem fs32 : (a0 :: a1 :: a2 :: a3 :: a4 :: a5 :: a6 :: a7 :: a8 :: a9 :: a10 :: a11 :: a12 :: a13 :: a14 :: a15 :: a16 :: a17 :: a18 :: a19 :: a20 :: a21 :: a22 :: a23 :: a24 :: a25 :: a26 :: a27 :: a28 :: a29 :: a30 :: a31 :: a32 :: l).set 32 b = a0 :: a1 :: a2 :: a3 :: a4 :: a5 :: a6 :: a7 :: a8 :: a9 :: a10 :: a11 :: a12 :: a13 :: a14 :: a15 :: a16 :: a17 :: a18 :: a19 :: a20 :: a21 :: a22 :: a23 :: a24 :: a25 :: a26 :: a27 :: a28 :: a29 :: a30 :: a31 :: b :: l := rfl
end
section
variable {fr : Fr} {st : Sto} {f g h : Sem} {b c : SemB} {s t : SSem} {i j : Int} {n k : Nat} {l : SemL} {w u : W}
@[simp] theorem x_seq : sSeq s t fr st = (match s fr st with | .nx fr1 st1 => t fr1 st1 | o => o) := rfl
@[simp] theorem x_nil : sNil fr st = .nx fr st := rfl
@[simp] theorem x_exp : sExp f fr st = (f fr st).stm fr fun _ st1 => .nx fr st1 := rfl
@[simp] theorem x_ret : sRet f fr st = (f fr st).stm fr fun w st1 => .rt w st1 := rfl
@[simp] theorem x_if : sIf b s t fr st = (b fr st).stm fr fun b st1 => if b = true then s fr st1 else t fr st1 := rfl
@[simp] theorem x_asgN : sAsg f (gNm n) fr st = (f fr st).stm fr fun w st1 => .nx (fr.set n (some w)) st1 := rfl
@[simp] theorem x_subL {o i : Sem} : sSub uLst f o i fr st = (f fr st).stm fr fun w st1 => (o fr st1).stm fr fun o st2 => (i fr st2).stm fr fun i st3 => match uLst o i w st3 with
  | some st4 => .nx fr st4
  | none => .bad := rfl
@[simp] theorem x_var : eVar n fr st = (match fr[n]? with
  | some (some w) => .ok w st
  | _ => .bad) := rfl
@[simp] theorem x_c : eC w fr st = .ok w st := rfl
@[simp] theorem x_2 {op : Op2} : e2 op f g fr st = (f fr st).bind fun w st1 => (g fr st1).bind fun u st2 => op w u st2 := rfl
@[simp] theorem x_1 {op : Op1} : e1 op f fr st = (f fr st).bind fun w st1 => op w st1 := rfl
@[simp] theorem x_N {op : OpN} : eN op l fr st = (l fr st).bind fun w st1 => op w st1 := rfl
@[simp] theorem x_call {F : Fn} : eCall F l fr st = (l fr st).bind fun w st1 => F w st1 := rfl
@[simp] theorem x_aNil : aNil fr st = .ok [] st := rfl
@[simp] theorem x_aCons : aCons f l fr st = (f fr st).bind fun w st1 => (l fr st1).bind fun ws st2 => .ok (w :: ws) st2 := rfl
@[simp] theorem x_bOf : bOf f fr st = (f fr st).bind fun w st1 => match w with
  | .bl b => .ok b st1
  | _ => .bad := rfl
@[simp] theorem x_bNot : bNot b fr st = (b fr st).bind fun b st1 => .ok (!b) st1 := rfl
@[simp] theorem x_bAnd : bAnd b c fr st = (b fr st).bind fun b st1 => if b = true then c fr st1 else .ok false st1 := rfl
@[simp] theorem x_bOr : bOr b c fr st = (b fr st).bind fun b st1 => if b = true then .ok true st1 else c fr st1 := rfl
@[simp] theorem x_and : eAnd f g fr st = (f fr st).bind fun w st1 => match w with
  | .bl b => if b = true then g fr st1 else .ok (.bl false) st1
  | _ => .bad := rfl
@[simp] theorem x_not : eNot f fr st = (f fr st).bind fun w st1 => match w with
  | .bl b => .ok (.bl (!b)) st1
  | _ => .bad := rfl
@[simp] theorem x_chain {op op' : Op2} : eChain op op' f g h fr st = (f fr st).bind fun x st1 => (g fr st1).bind fun y st2 => (op x y st2).bind fun z st3 => match z with
  | .bl b => if b = true then (h fr st3).bind fun w st4 => op' y w st4 else .ok (.bl false) st3
  | _ => .bad := rfl
@[simp] theorem x_add : oAdd (.int i) (.int j) st = .ok (.int (i + j)) st := rfl
@[simp] theorem x_sub : oSub (.int i) (.int j) st = .ok (.int (i - j)) st := rfl
theorem x_mul (h : mulOk i j = true) : oMul (.int i) (.int j) st = .ok (.int (i * j)) st := if_pos h
theorem mul_small (h : -(2 ^ 64) < j ∧ j < 2 ^ 64) : mulOk i j = true := by
  unfold mulOk
  rw [Bool.or_eq_true]
  exact .inl (dec_mk (.inr h))
theorem mul_smallL (h : -(2 ^ 64) < i ∧ i < 2 ^ 64) : mulOk i j = true := by
  unfold mulOk
  rw [Bool.or_eq_true]
  exact .inl (dec_mk (.inl h))
@[simp] theorem x_mulR (h : -(2 ^ 64) < j ∧ j < 2 ^ 64) : oMul (.int i) (.int j) st = .ok (.int (i * j)) st := x_mul (mul_small h)
@[simp] theorem x_mulL (h : -(2 ^ 64) < i ∧ i < 2 ^ 64) : oMul (.int i) (.int j) st = .ok (.int (i * j)) st := x_mul (mul_smallL h)
@[simp] theorem x_div (h : 0 < j) (h2 : j.natAbs.log2 < 9000) : oDiv (.int i) (.int j) st = .ok (.int (i / j)) st := if_pos (dec_mk ⟨h, h2⟩)
theorem log_small {j : Int} (h : 0 < j) (h2 : j < 2 ^ 64) : j.natAbs.log2 < 9000 := by
  have : j.natAbs < 2 ^ 64 := by omega
  have := (Nat.log2_lt (n := j.natAbs) (k := 64) (by omega)).mpr this
  omega
@[simp] theorem x_divS (h : 0 < j) (h2 : j < 2 ^ 64) : oDiv (.int i) (.int j) st = .ok (.int (i / j)) st := x_div h (log_small h h2)
@[simp] theorem x_mod (h : 0 < j) : oMod (.int i) (.int j) st = .ok (.int (i % j)) st := if_pos h
@[simp] theorem x_pow (h : 0 ≤ j ∧ j ≤ 1000000 ∧ i.natAbs < 2 ^ 64) : oPow (.int i) (.int j) st = .ok (.int (i ^ j.toNat)) st := if_pos (dec_mk h)
@[simp] theorem x_le : oLe (.int i) (.int j) st = .ok (.bl (decide (i ≤ j))) st := rfl
@[simp] theorem x_lt : oLt (.int i) (.int j) st = .ok (.bl (decide (i < j))) st := rfl
@[simp] theorem x_gt : oGt (.int i) (.int j) st = .ok (.bl (decide (j < i))) st := rfl
@[simp] theorem x_ge : oGe (.int i) (.int j) st = .ok (.bl (decide (j ≤ i))) st := rfl
@[simp] theorem x_int : oInt [.int i] st = .ok (.int i) st := rfl
@[simp] theorem x_intB {b : Bool} : oInt [.bl b] st = .ok (.int (if b then 1 else 0)) st := rfl
@[simp] theorem x_eqI : oEq (.int i) (.int j) st = .ok (.bl (decide (i = j))) st := by
  show (match eqW st (.int i) (.int j) with | some b => Out.ok (W.bl b) st | none => .bad) = _
  have : eqW st (.int i) (.int j) = some (decide (i = j)) := by
    show (if SeqAt.shaped (.int i) && SeqAt.shaped (.int j) then some (PyData.eqv (.int i) (.int j)) else none) = _
    have z : ∀ i : Int, SeqAt.shaped (.int i) = true := fun i => by rfl
    rw [z, z]
    show some (i == j) = _
    congr 1
  rw [this]
@[simp] theorem x_neI : oNe (.int i) (.int j) st = .ok (.bl (!decide (i = j))) st := by
  show (match eqW st (.int i) (.int j) with | some b => Out.ok (W.bl (!b)) st | none => .bad) = _
  have : eqW st (.int i) (.int j) = some (decide (i = j)) := by
    show (if SeqAt.shaped (.int i) && SeqAt.shaped (.int j) then some (PyData.eqv (.int i) (.int j)) else none) = _
    have z : ∀ i : Int, SeqAt.shaped (.int i) = true := fun i => by rfl
    rw [z, z]
    show some (i == j) = _
    congr 1
  rw [this]
theorem x_lst {ws : List W} (h : ws.length ≤ 1000) : oLst ws st = .ok (.lst ws) st := if_pos (decide_eq_true h)
theorem x_cell {ws : List W} (h : ws.length ≤ 1000) : oCell ws st = .ok (.cell st.length) (st ++ [.lst ws]) := if_pos (decide_eq_true h)
@[simp] theorem x_pNo : pNo fr st = .ok none st := rfl
@[simp] theorem x_pYes : pYes f fr st = (f fr st).bind fun w st1 => match w with
  | .int i => .ok (some i) st1
  | _ => .bad := rfl
@[simp] theorem x_sl {l h : SemO} : eSl f l h fr st = (f fr st).bind fun x st1 => (l fr st1).bind fun lo st2 => (h fr st2).bind fun hi st3 => oSl x lo hi st3 := rfl
@[simp] theorem x_iSeq : iSeq f fr st = (f fr st).bind fun x st1 => match itW st1 x with
  | some ws => .ok (x, ws) st1
  | none => .bad := rfl
@[simp] theorem x_eM {ty : Sto → W → Bool} {op : OpM} : eM ty op f l fr st = (f fr st).bind fun w st1 => if ty st1 w = true then (l fr st1).bind fun ws st2 => op w ws st2 else .bad := rfl
@[simp] theorem x_lst_lst {ws : List W} : lstW st (.lst ws) = some ws := rfl
@[simp] theorem x_lst_ro {ws : List W} : lstW st (.ro ws) = some ws := rfl
@[simp] theorem x_lst_tup {ws : List W} : lstW st (.tup ws) = none := rfl
@[simp] theorem x_tup_tup {ws : List W} : tupW st (.tup ws) = some ws := rfl
@[simp] theorem x_seq_lst {ws : List W} : seqW st (.lst ws) = some ws := rfl
@[simp] theorem x_seq_ro {ws : List W} : seqW st (.ro ws) = some ws := rfl
@[simp] theorem x_seq_tup {ws : List W} : seqW st (.tup ws) = some ws := rfl
@[simp] theorem x_it_lst {ws : List W} : itW st (.lst ws) = some ws := rfl
@[simp] theorem x_it_ro {ws : List W} : itW st (.ro ws) = some ws := rfl
@[simp] theorem x_it_tup {ws : List W} : itW st (.tup ws) = some ws := rfl
theorem x_len {ws : List W} (h : seqW st w = some ws) (hn : ∀ x, w ≠ .str x) : oLen [w] st = .ok (.int ws.length) st := by
  cases w <;> first | exact absurd rfl (hn _) | simp [oLen, h]
@[simp] theorem x_len_tup {ws : List W} : oLen [.tup ws] st = .ok (.int ws.length) st := rfl
@[simp] theorem x_len_lst {ws : List W} : oLen [.lst ws] st = .ok (.int ws.length) st := rfl
@[simp] theorem x_len_ro {ws : List W} : oLen [.ro ws] st = .ok (.int ws.length) st := rfl
@[simp] theorem x_list_tup {ws : List W} : oList [.tup ws] st = .ok (.lst ws) st := rfl
@[simp] theorem x_list_lst {ws : List W} : oList [.lst ws] st = .ok (.lst ws) st := rfl
@[simp] theorem x_tuple_lst {ws : List W} : oTuple [.lst ws] st = .ok (.tup ws) st := rfl
@[simp] theorem x_tuple_tup {ws : List W} : oTuple [.tup ws] st = .ok (.tup ws) st := rfl
theorem x_ix {ws : List W} (h : seqW st w = some ws) (hn : ∀ x, w ≠ .str x) {m : Nat} (hm : ixN ws.length i = some m) (hu : ws[m]? = some u) : oIx w (.int i) st = .ok u st := by
  have e : (seqW st w).bind (fun ws => atI ws i) = some u := by
    rw [h]; show (ixN ws.length i).bind (fun j => ws[j]?) = _; rw [hm]; exact hu
  cases w <;> first | exact absurd rfl (hn _) | simp only [oIx, e]
theorem ixN_ok {n : Nat} {i : Int} (h : 0 ≤ i) (h2 : i < n) : ixN n i = some i.toNat := by
  unfold ixN; rw [if_pos h, if_pos h2]
theorem x_ixT {ws : List W} (h : 0 ≤ i) (hu : ws[i.toNat]? = some u) : oIx (.tup ws) (.int i) st = .ok u st := by
  have hl : i.toNat < ws.length := by
    rcases Nat.lt_or_ge i.toNat ws.length with q | q
    · exact q
    · rw [List.getElem?_eq_none q] at hu; cases hu
  exact x_ix rfl (fun _ z => by cases z) (ixN_ok h (by omega)) hu
theorem x_ixL {ws : List W} (h : 0 ≤ i) (hu : ws[i.toNat]? = some u) : oIx (.lst ws) (.int i) st = .ok u st := by
  have hl : i.toNat < ws.length := by
    rcases Nat.lt_or_ge i.toNat ws.length with q | q
    · exact q
    · rw [List.getElem?_eq_none q] at hu; cases hu
  exact x_ix rfl (fun _ z => by cases z) (ixN_ok h (by omega)) hu
end
theorem leave_same {n : Nat} {w : W} {st : Sto} (h : st.length = n) : leave n w st = .ok w st := if_pos h
theorem mk_rt {m : Nat} {b : SSem} {ws : List W} {st st1 : Sto} {w : W} (h : b (ws.map some ++ List.replicate (m - ws.length) none) st = .rt w st1) (hl : st1.length = st.length) : mkFn m b ws st = .ok w st1 := by
  unfold mkFn mkFnG; rw [h]; exact leave_same hl
theorem mkA_rt {m : Nat} {b : SSem} {ws : List W} {st st1 : Sto} {w : W} (h : b (ws.map some ++ List.replicate (m - ws.length) none) st = .rt w st1) : mkFnA m b ws st = .ok w st1 := by
  unfold mkFnA mkFnG; rw [h]; rfl
/-- new cells that nothing handed back speaks of -/
theorem mk_rt2 {m : Nat} {b : SSem} {ws : List W} {st ex : Sto} {w : W} (h : b (ws.map some ++ List.replicate (m - ws.length) none) st = .rt w (st ++ ex)) (hw : ∀ n f, fz0 n f w = some w) (ho : st.all (oldW st.length) = true) : mkFn m b ws st = .ok w st := by
  unfold mkFn mkFnG; rw [h]
  show leave st.length w (st ++ ex) = _
  unfold leave
  split
  · rename_i e
    have : ex = [] := by
      rw [List.length_append] at e
      exact List.eq_nil_of_length_eq_zero (by omega)
    rw [this, List.append_nil]
  · rw [hw]
    simp only [List.take_left, ho, if_true]
/-! ## comprehensions, loops -/
inductive Both {α β : Type} (R : α → β → Prop) : List α → List β → Prop
  | nil : Both R [] []
  | cons {a : α} {b : β} {l : List α} {m : List β} (h : R a b) (r : Both R l m) : Both R (a :: l) (b :: m)
theorem lc_map {x : W} {all : List W} {g : TgF} {t : SemB} {e : Sem} {fr : Fr} {f : W → W} {st : Sto} (hs : srcOk x all st) : ∀ ws : List W, (∀ w ∈ ws, ∃ fr1, g w fr st = some fr1 ∧ t fr1 st = .ok true st ∧ e fr1 st = .ok (f w) st) → lcRun x all g t e fr ws st = .ok (ws.map f) st
  | [], _ => by unfold lcRun; rw [if_pos hs]; rfl
  | w :: r, h => by
    obtain ⟨fr1, h1, h2, h3⟩ := h w List.mem_cons_self
    have ih := lc_map hs r fun u hu => h u (List.mem_cons_of_mem _ hu)
    unfold lcRun
    rw [if_pos hs, h1]
    simp only [h2, h3, ih, List.map_cons]
theorem lc_filter {x : W} {all : List W} {g : TgF} {t : SemB} {e : Sem} {fr : Fr} {p : W → Bool} {f : W → W} {st : Sto} (hs : srcOk x all st) : ∀ ws : List W, (∀ w ∈ ws, ∃ fr1, g w fr st = some fr1 ∧ t fr1 st = .ok (p w) st ∧ (p w = true → e fr1 st = .ok (f w) st)) → lcRun x all g t e fr ws st = .ok ((ws.filter p).map f) st
  | [], _ => by unfold lcRun; rw [if_pos hs]; rfl
  | w :: r, h => by
    obtain ⟨fr1, h1, h2, h3⟩ := h w List.mem_cons_self
    have ih := lc_filter hs r fun u hu => h u (List.mem_cons_of_mem _ hu)
    unfold lcRun
    rw [if_pos hs, h1]
    cases e : p w with
    | true => simp only [h2, e, h3 e, ih, List.filter_cons, if_true, List.map_cons]
    | false => simp only [h2, e, ih, List.filter_cons]; rfl
theorem x_lc {f : SemI} {g : TgF} {own : List Nat} {t : SemB} {e : Sem} {fr : Fr} {st st1 st2 : Sto} {x : W} {all ys : List W} (h : f fr st = .ok (x, all) st1) (h2 : lcRun x all g t e (wipeF fr own) all st1 = .ok ys st2) : eLc f g own t e fr st = .ok (.lst ys) st2 := by
  unfold eLc eLcG; rw [h, Out.bind_ok]; simp only [h2, finL]
theorem x_lcC {f : SemI} {g : TgF} {own : List Nat} {t : SemB} {e : Sem} {fr : Fr} {st st1 st2 : Sto} {x : W} {all ys : List W} (h : f fr st = .ok (x, all) st1) (h2 : lcRun x all g t e (wipeF fr own) all st1 = .ok ys st2) : eLcC f g own t e fr st = .ok (.cell st2.length) (st2 ++ [.lst ys]) := by
  unfold eLcC eLcG; rw [h, Out.bind_ok]; simp only [h2, finC]
/-- a loop by an invariant over the turns -/
theorem for_inv {x : W} {all : List W} {g : TgF} {b : SSem} (P : Nat → Fr → Sto → Prop) (hs : ∀ k fr st, P k fr st → srcOk x all st) (step : ∀ k fr st w, P k fr st → all[k]? = some w → ∃ fr1 fr2 st2, g w fr st = some fr1 ∧ (b fr1 st = .nx fr2 st2 ∨ b fr1 st = .ct fr2 st2) ∧ P (k + 1) fr2 st2) :
    ∀ (m k : Nat) (fr : Fr) (st : Sto), all.length = k + m → P k fr st → ∃ fr' st', forRun x all g b (all.drop k) fr st = .nx fr' st' ∧ P all.length fr' st'
  | 0, k, fr, st, hm, h => ⟨fr, st, by rw [List.drop_eq_nil_of_le (by omega)]; unfold forRun; rw [if_pos (hs k fr st h)], by rw [hm]; exact h⟩
  | m + 1, k, fr, st, hm, h => by
    have hk : k < all.length := by omega
    obtain ⟨fr1, fr2, st2, h1, h2, h3⟩ := step k fr st all[k] h (by simp)
    obtain ⟨fr', st', e1, e2⟩ := for_inv P hs step m (k + 1) fr2 st2 (by omega) h3
    refine ⟨fr', st', ?_, e2⟩
    rw [List.drop_eq_getElem_cons hk]
    unfold forRun
    rw [if_pos (hs k fr st h), h1]
    rcases h2 with h2 | h2 <;> simp only [h2, e1]
theorem x_for {f : SemI} {g : TgF} {b : SSem} {fr : Fr} {st st1 : Sto} {x : W} {all : List W} (h : f fr st = .ok (x, all) st1) (P : Nat → Fr → Sto → Prop) (h0 : P 0 fr st1) (hs : ∀ k fr st, P k fr st → srcOk x all st) (step : ∀ k fr st w, P k fr st → all[k]? = some w → ∃ fr1 fr2 st2, g w fr st = some fr1 ∧ (b fr1 st = .nx fr2 st2 ∨ b fr1 st = .ct fr2 st2) ∧ P (k + 1) fr2 st2) :
    ∃ fr' st', sFor f g b fr st = .nx fr' st' ∧ P all.length fr' st' := by
  obtain ⟨fr', st', e1, e2⟩ := for_inv P hs step all.length 0 fr st1 (by omega) h0
  refine ⟨fr', st', ?_, e2⟩
  unfold sFor; rw [h, Out.stm_ok]
  exact e1
theorem rngW_at {lo c : Int} {n k : Nat} {w : W} (h : (rngW lo c n)[k]? = some w) : k < n ∧ w = .int (lo + (k : Int) * c) := by
  unfold rngW at h
  rw [List.getElem?_map] at h
  by_cases q : k < n
  · rw [List.getElem?_range q] at h
    exact ⟨q, (Option.some.inj h).symm⟩
  · rw [List.getElem?_eq_none (by simpa using q)] at h; cases h
theorem rng_mem {lo c : Int} {n : Nat} {w : W} (h : w ∈ rngW lo c n) : ∃ k, k < n ∧ w = .int (lo + (k : Int) * c) := by
  unfold rngW at h
  obtain ⟨k, h1, h2⟩ := List.mem_map.mp h
  exact ⟨k, by simpa using h1, h2.symm⟩
theorem x_rng1 {l : SemL} {fr : Fr} {st st1 : Sto} {j : Int} (h : l fr st = .ok [.int j] st1) (h2 : j ≤ 1000000) (h3 : -1000000 ≤ j) : iRng rg1 l fr st = .ok (.non, rngW 0 1 j.toNat) st1 := by
  unfold iRng rg1
  rw [h, Out.bind_ok]
  have hb : big j = true := dec_mk (by omega)
  have hl : j.toNat ≤ LINE := by unfold LINE; omega
  simp only [hb, if_true, if_pos hl]
/-! ## a row of statements -/
theorem seq_to {s t : SSem} {fr fr1 : Fr} {st st1 : Sto} {o : SOut} (h : s fr st = .nx fr1 st1) (h2 : t fr1 st1 = o) : sSeq s t fr st = o := by
  unfold sSeq; rw [h]; exact h2
theorem asg_to {f : Sem} {i : Nat} {t : SSem} {fr : Fr} {st st1 : Sto} {w : W} {o : SOut} (h : f fr st = .ok w st1) (h2 : t (fr.set i (some w)) st1 = o) : sSeq (sAsg f (gNm i)) t fr st = o := by
  unfold sSeq sAsg; rw [h]; exact h2
/-- if not ..: is passed by -/
theorem if_no {b : SemB} {s u t : SSem} {fr fr1 : Fr} {st st1 st2 : Sto} {o : SOut} (h : b fr st = .ok false st1) (h3 : u fr st1 = .nx fr1 st2) (h2 : t fr1 st2 = o) : sSeq (sIf b s u) t fr st = o := by
  unfold sSeq sIf; rw [h]; simp [h3]; exact h2
@[simp] theorem ty_non_ {st : Sto} : tyW st .non = some "NoneType" := rfl
@[simp] theorem isi_non {st : Sto} {n : String} : oIsi [.non, .ty n] st = if tyN "NoneType" && tyN n then .ok (.bl (subT "NoneType" n)) st else .bad := rfl
@[simp] theorem isi2_non {st : Sto} {n m : String} : oIsi [.non, .tup [.ty n, .ty m]] st = if tyN "NoneType" && (tyN n && tyN m) then .ok (.bl (subT "NoneType" n || subT "NoneType" m)) st else .bad := by
  show (if tyN "NoneType" && [n, m].all tyN then Out.ok (W.bl ([n, m].any (subT "NoneType"))) st else .bad) = _
  simp
@[simp] theorem ty_bl_ {st : Sto} {b : Bool} : tyW st (.bl b) = some "bool" := rfl
@[simp] theorem isi_bl {st : Sto} {b : Bool} {n : String} : oIsi [(.bl b), .ty n] st = if tyN "bool" && tyN n then .ok (.bl (subT "bool" n)) st else .bad := rfl
@[simp] theorem isi2_bl {st : Sto} {b : Bool} {n m : String} : oIsi [(.bl b), .tup [.ty n, .ty m]] st = if tyN "bool" && (tyN n && tyN m) then .ok (.bl (subT "bool" n || subT "bool" m)) st else .bad := by
  show (if tyN "bool" && [n, m].all tyN then Out.ok (W.bl ([n, m].any (subT "bool"))) st else .bad) = _
  simp
@[simp] theorem ty_int_ {st : Sto} {i : Int} : tyW st (.int i) = some "int" := rfl
@[simp] theorem isi_int {st : Sto} {i : Int} {n : String} : oIsi [(.int i), .ty n] st = if tyN "int" && tyN n then .ok (.bl (subT "int" n)) st else .bad := rfl
@[simp] theorem isi2_int {st : Sto} {i : Int} {n m : String} : oIsi [(.int i), .tup [.ty n, .ty m]] st = if tyN "int" && (tyN n && tyN m) then .ok (.bl (subT "int" n || subT "int" m)) st else .bad := by
  show (if tyN "int" && [n, m].all tyN then Out.ok (W.bl ([n, m].any (subT "int"))) st else .bad) = _
  simp
@[simp] theorem ty_str_ {st : Sto} {z : Str} : tyW st (.str z) = some "str" := rfl
@[simp] theorem isi_str {st : Sto} {z : Str} {n : String} : oIsi [(.str z), .ty n] st = if tyN "str" && tyN n then .ok (.bl (subT "str" n)) st else .bad := rfl
@[simp] theorem isi2_str {st : Sto} {z : Str} {n m : String} : oIsi [(.str z), .tup [.ty n, .ty m]] st = if tyN "str" && (tyN n && tyN m) then .ok (.bl (subT "str" n || subT "str" m)) st else .bad := by
  show (if tyN "str" && [n, m].all tyN then Out.ok (W.bl ([n, m].any (subT "str"))) st else .bad) = _
  simp
@[simp] theorem ty_tup_ {st : Sto} {ws : List W} : tyW st (.tup ws) = some "tuple" := rfl
@[simp] theorem isi_tup {st : Sto} {ws : List W} {n : String} : oIsi [(.tup ws), .ty n] st = if tyN "tuple" && tyN n then .ok (.bl (subT "tuple" n)) st else .bad := rfl
@[simp] theorem isi2_tup {st : Sto} {ws : List W} {n m : String} : oIsi [(.tup ws), .tup [.ty n, .ty m]] st = if tyN "tuple" && (tyN n && tyN m) then .ok (.bl (subT "tuple" n || subT "tuple" m)) st else .bad := by
  show (if tyN "tuple" && [n, m].all tyN then Out.ok (W.bl ([n, m].any (subT "tuple"))) st else .bad) = _
  simp
@[simp] theorem ty_lst_ {st : Sto} {ws : List W} : tyW st (.lst ws) = some "list" := rfl
@[simp] theorem isi_lst {st : Sto} {ws : List W} {n : String} : oIsi [(.lst ws), .ty n] st = if tyN "list" && tyN n then .ok (.bl (subT "list" n)) st else .bad := rfl
@[simp] theorem isi2_lst {st : Sto} {ws : List W} {n m : String} : oIsi [(.lst ws), .tup [.ty n, .ty m]] st = if tyN "list" && (tyN n && tyN m) then .ok (.bl (subT "list" n || subT "list" m)) st else .bad := by
  show (if tyN "list" && [n, m].all tyN then Out.ok (W.bl ([n, m].any (subT "list"))) st else .bad) = _
  simp
@[simp] theorem ty_dct_ {st : Sto} {ws : List W} : tyW st (.dct [] ws) = some "dict" := rfl
@[simp] theorem ty_dct_S {st : Sto} {x : Str} {ks ws : List W} : tyW st (.dct (.str x :: ks) ws) = some "dict" := rfl
@[simp] theorem isi_dct {st : Sto} {ws : List W} {n : String} : oIsi [(.dct [] ws), .ty n] st = if tyN "dict" && tyN n then .ok (.bl (subT "dict" n)) st else .bad := rfl
@[simp] theorem isi_dctS {st : Sto} {x : Str} {ks ws : List W} {n : String} : oIsi [(.dct (.str x :: ks) ws), .ty n] st = if tyN "dict" && tyN n then .ok (.bl (subT "dict" n)) st else .bad := rfl
@[simp] theorem isi2_dct {st : Sto} {ws : List W} {n m : String} : oIsi [(.dct [] ws), .tup [.ty n, .ty m]] st = if tyN "dict" && (tyN n && tyN m) then .ok (.bl (subT "dict" n || subT "dict" m)) st else .bad := by
  show (if tyN "dict" && [n, m].all tyN then Out.ok (W.bl ([n, m].any (subT "dict"))) st else .bad) = _
  simp
@[simp] theorem isi2_dctS {st : Sto} {x : Str} {ks ws : List W} {n m : String} : oIsi [(.dct (.str x :: ks) ws), .tup [.ty n, .ty m]] st = if tyN "dict" && (tyN n && tyN m) then .ok (.bl (subT "dict" n || subT "dict" m)) st else .bad := by
  show (if tyN "dict" && [n, m].all tyN then Out.ok (W.bl ([n, m].any (subT "dict"))) st else .bad) = _
  simp
@[simp] theorem tyN_NoneType : tyN "NoneType" = true := by decide +kernel
@[simp] theorem subT_NoneType_bool : subT "NoneType" "bool" = false := by decide +kernel
@[simp] theorem subT_NoneType_int : subT "NoneType" "int" = false := by decide +kernel
@[simp] theorem subT_NoneType_str : subT "NoneType" "str" = false := by decide +kernel
@[simp] theorem subT_NoneType_tuple : subT "NoneType" "tuple" = false := by decide +kernel
@[simp] theorem subT_NoneType_list : subT "NoneType" "list" = false := by decide +kernel
@[simp] theorem subT_NoneType_dict : subT "NoneType" "dict" = false := by decide +kernel
@[simp] theorem tyN_bool : tyN "bool" = true := by decide +kernel
@[simp] theorem subT_bool_bool : subT "bool" "bool" = true := by decide +kernel
@[simp] theorem subT_bool_int : subT "bool" "int" = true := by decide +kernel
@[simp] theorem subT_bool_str : subT "bool" "str" = false := by decide +kernel
@[simp] theorem subT_bool_tuple : subT "bool" "tuple" = false := by decide +kernel
@[simp] theorem subT_bool_list : subT "bool" "list" = false := by decide +kernel
@[simp] theorem subT_bool_dict : subT "bool" "dict" = false := by decide +kernel
@[simp] theorem tyN_int : tyN "int" = true := by decide +kernel
@[simp] theorem subT_int_bool : subT "int" "bool" = false := by decide +kernel
@[simp] theorem subT_int_int : subT "int" "int" = true := by decide +kernel
@[simp] theorem subT_int_str : subT "int" "str" = false := by decide +kernel
@[simp] theorem subT_int_tuple : subT "int" "tuple" = false := by decide +kernel
@[simp] theorem subT_int_list : subT "int" "list" = false := by decide +kernel
@[simp] theorem subT_int_dict : subT "int" "dict" = false := by decide +kernel
@[simp] theorem tyN_str : tyN "str" = true := by decide +kernel
@[simp] theorem subT_str_bool : subT "str" "bool" = false := by decide +kernel
@[simp] theorem subT_str_int : subT "str" "int" = false := by decide +kernel
@[simp] theorem subT_str_str : subT "str" "str" = true := by decide +kernel
@[simp] theorem subT_str_tuple : subT "str" "tuple" = false := by decide +kernel
@[simp] theorem subT_str_list : subT "str" "list" = false := by decide +kernel
@[simp] theorem subT_str_dict : subT "str" "dict" = false := by decide +kernel
@[simp] theorem tyN_tuple : tyN "tuple" = true := by decide +kernel
@[simp] theorem subT_tuple_bool : subT "tuple" "bool" = false := by decide +kernel
@[simp] theorem subT_tuple_int : subT "tuple" "int" = false := by decide +kernel
@[simp] theorem subT_tuple_str : subT "tuple" "str" = false := by decide +kernel
@[simp] theorem subT_tuple_tuple : subT "tuple" "tuple" = true := by decide +kernel
@[simp] theorem subT_tuple_list : subT "tuple" "list" = false := by decide +kernel
@[simp] theorem subT_tuple_dict : subT "tuple" "dict" = false := by decide +kernel
@[simp] theorem tyN_list : tyN "list" = true := by decide +kernel
@[simp] theorem subT_list_bool : subT "list" "bool" = false := by decide +kernel
@[simp] theorem subT_list_int : subT "list" "int" = false := by decide +kernel
@[simp] theorem subT_list_str : subT "list" "str" = false := by decide +kernel
@[simp] theorem subT_list_tuple : subT "list" "tuple" = false := by decide +kernel
@[simp] theorem subT_list_list : subT "list" "list" = true := by decide +kernel
@[simp] theorem subT_list_dict : subT "list" "dict" = false := by decide +kernel
@[simp] theorem tyN_dict : tyN "dict" = true := by decide +kernel
@[simp] theorem subT_dict_bool : subT "dict" "bool" = false := by decide +kernel
@[simp] theorem subT_dict_int : subT "dict" "int" = false := by decide +kernel
@[simp] theorem subT_dict_str : subT "dict" "str" = false := by decide +kernel
@[simp] theorem subT_dict_tuple : subT "dict" "tuple" = false := by decide +kernel
@[simp] theorem subT_dict_list : subT "dict" "list" = false := by decide +kernel
@[simp] theorem subT_dict_dict : subT "dict" "dict" = true := by decide +kernel

@[simp] theorem eq_bl {a b : Bool} {st : Sto} : oEq (.bl a) (.bl b) st = .ok (.bl (decide (a = b))) st := by cases a <;> cases b <;> rfl
@[simp] theorem ne_bl {a b : Bool} {st : Sto} : oNe (.bl a) (.bl b) st = .ok (.bl (!decide (a = b))) st := by cases a <;> cases b <;> rfl
end SL

namespace SLm
open PySem PySem.Spec PyProof.Rows
/-! # dicts whose keys are of several kinds: numbers, texts, None, tuples of such -/
abbrev EMix := NestedKey × Value × Value
def entM (w : World) (x : EMix) : DictEntry := ⟨x.1.hash w, x.2.1, x.2.2⟩
def KOk (h : Heap) (k : NestedKey) (v : Value) : Prop := NestedIs h k v ∧ k.depth ≤ 8
section
variable {P : Program} {w : World} {A : Around} {E : Value → Shared → Prop} {s : Shared}
theorem mix_at {es : Array DictEntry} {xs : List EMix} (he : es.toList = xs.map (entM w)) (i : Nat) : es[i]? = xs[i]?.map (entM w) := by
  rw [← Array.getElem?_toList, he, List.getElem?_map]
theorem mix_eq (hu : A.units + 8 < cLine) {a b : NestedKey} {u v : Value} {Q : Bool → Shared → Prop} (ha : KOk s.heap a u) (hb : KOk s.heap b v) (h : Q (decide (a = b)) s) : wpAny (model P w) A (PySem.eqBool u v) Q E s :=
  eqAt_key a b A s _ _ ha.1 hb.1 (by have := ha.2; have := hb.2; omega) _ _ _ _ (by rw [← NestedKey.decide_eq]; exact h)
theorem mix_tells {key : Value} {k : NestedKey} {stored : List Value} {Q : Bool → Shared → Prop} (hk : KOk s.heap k key) (hs : ∀ v ∈ stored, ∃ j, KOk s.heap j v) (h : Q false s) : wpAny (model P w) A (tableMayTell key stored) Q E s := by
  unfold tableMayTell
  by_cases em : stored.isEmpty = true
  · rw [if_pos em]; exact wpAny_pure h
  · rw [if_neg em]
    refine wpAny_bind (quiet_key k key 8 s hk.1 hk.2 _ _ _ ?_)
    rw [if_neg (by decide)]
    refine wpAny_bind (wpAny_forIn_list _ (fun rest r t => (t = s ∧ r = (none, ())) ∧ ∀ v ∈ rest, v ∈ stored) _ (fun x rest r t hI => ?_) (fun r t hI => ?_) _ _ ⟨⟨rfl, rfl⟩, fun _ h => h⟩)
    · obtain ⟨⟨rfl, rfl⟩, sub⟩ := hI
      obtain ⟨j, hj⟩ := hs x (sub x List.mem_cons_self)
      refine wpAny_bind (quiet_key j x 8 t hj.1 hj.2 _ _ _ ?_)
      rw [if_neg (by decide)]
      exact wpAny_pure ⟨⟨rfl, rfl⟩, fun v hv => sub v (List.mem_cons_of_mem _ hv)⟩
    · obtain ⟨⟨rfl, rfl⟩, _⟩ := hI
      exact wpAny_pure h
/-- where the keys of this hash stand -/
abbrev plM (w : World) (es : Array DictEntry) (k : NestedKey) : List Nat := placesWithHash es.size (fun i => es[i]?.map (·.hash)) (k.hash w)
theorem plM_at {es : Array DictEntry} {xs : List EMix} {k : NestedKey} (he : es.toList = xs.map (entM w)) {i : Nat} (hi : i ∈ plM w es k) : ∃ y, xs[i]? = some y ∧ es[i]? = some (entM w y) ∧ ((entM w y).hash == k.hash w) = true := by
  obtain ⟨_, h2⟩ := List.mem_filter.mp hi
  have h2 : (es[i]?.map (·.hash) == some (k.hash w)) = true := h2
  have e := mix_at he i
  cases q : xs[i]? with
  | none => rw [q] at e; rw [e] at h2; simp at h2
  | some y =>
    rw [q] at e
    rw [e] at h2
    exact ⟨y, rfl, e, by simpa using h2⟩
theorem plM_in {es : Array DictEntry} {xs : List EMix} {k : NestedKey} (he : es.toList = xs.map (entM w)) {i : Nat} {p : Value × Value} (hi : xs[i]? = some (k, p)) : i ∈ plM w es k := by
  have e := mix_at he i
  rw [hi] at e
  have lt : i < es.size := by
    rcases Nat.lt_or_ge i es.size with q | q
    · exact q
    · rw [Array.getElem?_eq_none q] at e; cases e
  refine List.mem_filter.mpr ⟨List.mem_range.mpr lt, ?_⟩
  show (es[i]?.map (·.hash) == some (k.hash w)) = true
  rw [e]
  simp [entM]
theorem plM_nd {es : Array DictEntry} {k : NestedKey} : (plM w es k).Nodup := List.Pairwise.filter _ List.nodup_range
theorem nd_one {xs : List EMix} (hn : (xs.map (·.1)).Nodup) {i j : Nat} {k : NestedKey} {p q : Value × Value} (hi : xs[i]? = some (k, p)) (hj : xs[j]? = some (k, q)) : i = j := by
  have ei : (xs.map (·.1))[i]? = some k := by rw [List.getElem?_map, hi]; rfl
  have ej : (xs.map (·.1))[j]? = some k := by rw [List.getElem?_map, hj]; rfl
  obtain ⟨li, ei⟩ := List.getElem?_eq_some_iff.mp ei
  obtain ⟨lj, ej⟩ := List.getElem?_eq_some_iff.mp ej
  rcases Nat.lt_trichotomy i j with q | q | q
  · exact absurd (ei.trans ej.symm) (List.pairwise_iff_getElem.mp hn _ _ li lj q)
  · exact q
  · exact absurd (ej.trans ei.symm) (List.pairwise_iff_getElem.mp hn _ _ lj li q)
end
section
variable {P : Program} {w : World} {A : Around} {E : Value → Shared → Prop} {s : Shared} {d : Addr} {o : Obj} {es : Array DictEntry} {ep : Nat} {xs : List EMix} {k : NestedKey} {key : Value} {Q : Option Nat → Shared → Prop}
theorem mix_plain (hu : A.units + 8 < cLine) (hkey : KOk s.heap k key) (ho : s.heap.get? d = some o) (hd : o.data = .dict es ep) (he : es.toList = xs.map (entM w)) (his : ∀ x ∈ xs, KOk s.heap x.1 x.2.1)
    (hnone : (∀ (j : Nat) (p : Value × Value), xs[j]? ≠ some (k, p)) → Q none s) (hsome : ∀ (j : Nat) (p : Value × Value), xs[j]? = some (k, p) → Q (some j) s) :
    wpAny (model P w) A (dictWalkPlain d key (k.hash w) es (plM w es k)) Q E s := by
  unfold dictWalkPlain
  refine wpAny_bind (wpAny_forIn_list _ (fun rest b t => (t = s ∧ b = (none, ())) ∧ ∃ pre, plM w es k = pre ++ rest ∧ ∀ i ∈ pre, ∀ p, xs[i]? ≠ some (k, p)) _ (fun x rest b t hI => ?_) (fun b t hI => ?_) _ _ ⟨⟨rfl, rfl⟩, [], rfl, fun _ h => nomatch h⟩)
  · obtain ⟨⟨rfl, rfl⟩, pre, hp, hno⟩ := hI
    obtain ⟨y, hy, hex, hh⟩ := plM_at he (show x ∈ plM w es k by rw [hp]; exact List.mem_append_right _ List.mem_cons_self)
    simp only [hex]
    rw [if_pos hh]
    refine wpAny_bind (wpAny_dictEpoch ho hd (wpAny_bind (mix_eq hu (a := y.1) (b := k) (his y (List.mem_of_getElem? hy)) hkey (wpAny_bind (wpAny_dictEpoch ho hd ?_)))))
    rw [if_neg (by simp)]
    by_cases q : y.1 = k
    · rw [decide_eq_true q, if_pos rfl]
      exact wpAny_bind (wpAny_rule (wpAny_pure (wpAny_pure (hsome x y.2 (by rw [hy, ← q])))))
    · rw [decide_eq_false q, if_neg (by decide)]
      refine wpAny_bind (wpAny_rule (wpAny_pure ⟨⟨rfl, rfl⟩, pre ++ [x], by rw [hp]; simp, fun i hi p e => ?_⟩))
      rcases List.mem_append.mp hi with hi | hi
      · exact hno i hi p e
      · rw [List.mem_singleton.mp hi, hy] at e
        exact q (by rw [Option.some.inj e])
  · obtain ⟨⟨rfl, rfl⟩, pre, hp, hno⟩ := hI
    refine wpAny_pure (hnone fun j p e => hno j ?_ p e)
    have := plM_in he e
    rw [hp, List.append_nil] at this
    exact this
theorem mix_str {x : Str} {t : Tok} (hk : NestedIs s.heap k (.str x t)) : k = .text x := by cases hk; rfl
theorem mix_isStr {h : Heap} {j : NestedKey} {v : Value} {x : Str} (hj : NestedIs h j v) (hv : isExactStrKey v = true) : v.isStr x = true ↔ j = .text x := by
  cases hj with
  | text y u =>
    show (y == x) = true ↔ _
    simp
  | _ => cases hv
theorem mix_find (hu : A.units + 8 < cLine) (hkey : KOk s.heap k key) (ho : s.heap.get? d = some o) (hd : o.data = .dict es ep) (he : es.toList = xs.map (entM w)) (his : ∀ x ∈ xs, KOk s.heap x.1 x.2.1) (hn : (xs.map (·.1)).Nodup)
    (hnone : (∀ (j : Nat) (p : Value × Value), xs[j]? ≠ some (k, p)) → Q none s) (hsome : ∀ (j : Nat) (p : Value × Value), xs[j]? = some (k, p) → Q (some j) s) :
    wpAny (model P w) A (dictFind d key (k.hash w)) Q E s := by
  have hst : ∀ v ∈ (plM w es k).filterMap (fun i => es[i]?.map (·.key)), ∃ j, KOk s.heap j v := fun v hv => by
    obtain ⟨i, hi, e⟩ := List.mem_filterMap.mp hv
    obtain ⟨y, hy, hex, _⟩ := plM_at he hi
    rw [hex] at e
    cases e
    exact ⟨y.1, his y (List.mem_of_getElem? hy)⟩
  have hany : ∀ a, key = .ref a → (es.any fun e => e.key == key && e.hash != k.hash w) ≠ true := fun a ea z => by
    obtain ⟨i, hi, e2⟩ := Array.any_eq_true.mp z
    have q := mix_at he i
    rw [Array.getElem?_eq_getElem hi] at q
    cases hx : xs[i]? with
    | none => rw [hx] at q; cases q
    | some y =>
      rw [hx] at q
      have q : es[i] = entM w y := Option.some.inj q
      rw [q] at e2
      obtain ⟨u1, u2⟩ := Bool.and_eq_true_iff.mp e2
      have u1 : y.2.1 = key := by
        have u1 : (y.2.1 == key) = true := u1
        rw [ea] at u1 ⊢
        exact beq_iff_eq.mp u1
      have := (his y (List.mem_of_getElem? hx)).1
      rw [u1] at this
      have := NestedIs.inj _ _ _ this hkey.1
      have u2 : (y.1.hash w != k.hash w) = true := u2
      rw [this] at u2
      simp at u2
  unfold dictFind
  refine wpAny_holding ?_
  refine wpAny_bind (wpAny_dictEntries ho hd ?_)
  by_cases hs : ∃ x t, key = .str x t ∧ (es.all fun e => isExactStrKey e.key) = true
  · obtain ⟨x, t, rfl, ha⟩ := hs
    have ek := mix_str hkey.1
    subst ek
    dsimp only
    rw [if_pos ha]
    have all : ∀ (i : Nat) (y : EMix), xs[i]? = some y → (y.2.1.isStr x = true ↔ y.1 = .text x) := fun i y hy => by
      have q := mix_at he i
      rw [hy] at q
      obtain ⟨hi, q⟩ := Array.getElem?_eq_some_iff.mp q
      have := Array.all_eq_true.mp ha i hi
      rw [q] at this
      exact mix_isStr (his y (List.mem_of_getElem? hy)).1 this
    unfold foundByValue
    cases hf : es.findIdx? (fun e => e.key.isStr x) with
    | none =>
      refine wpAny_pure (hnone fun j p e => ?_)
      have q := mix_at he j
      rw [e] at q
      obtain ⟨hj, q⟩ := Array.getElem?_eq_some_iff.mp q
      have z := Array.findIdx?_eq_none_iff.mp hf _ (Array.getElem_mem hj)
      rw [q] at z
      have z : p.1.isStr x = false := z
      rw [(all j _ e).mpr rfl] at z
      cases z
    | some i =>
      obtain ⟨hi, z, _⟩ := Array.findIdx?_eq_some_iff_getElem.mp hf
      have q := mix_at he i
      rw [Array.getElem?_eq_getElem hi] at q
      cases hx : xs[i]? with
      | none => rw [hx] at q; cases q
      | some y =>
        rw [hx] at q
        have q : es[i] = entM w y := Option.some.inj q
        have ye : y.1 = .text x := (all i y hx).mp (by rw [q] at z; exact z)
        simp only [Array.getElem?_eq_getElem hi, q]
        refine wpAny_bind (wpAny_dictEpoch ho hd (wpAny_bind (mix_eq hu (a := y.1) (b := .text x) (his y (List.mem_of_getElem? hx)) hkey (wpAny_bind (wpAny_dictEpoch ho hd ?_)))))
        rw [if_neg (by simp), decide_eq_true ye, if_pos rfl]
        exact wpAny_bind (wpAny_rule (wpAny_pure (hsome i y.2 (by rw [hx, ← ye]))))
  · by_cases hb : ((key :: (plM w es k).filterMap fun i => es[i]?.map (·.key)).all carriedByValue) = true
    · cases key <;> dsimp only <;> (try rw [if_neg (fun ha => hs ⟨_, _, rfl, ha⟩)]) <;> rw [if_pos hb] <;> exact mix_plain hu hkey ho hd he his hnone hsome
    · by_cases hone : ((plM w es k).filterMap (fun i => es[i]?.map (·.key)) == [key]) = true <;> cases key <;> (try (exfalso; cases hkey.1; done)) <;> dsimp only <;> (try rw [if_neg (fun ha => hs ⟨_, _, rfl, ha⟩)]) <;> rw [if_neg hb] <;> (try rw [if_neg (hany _ rfl)]) <;> (first | rw [if_pos hone] | rw [if_neg hone]) <;> first | refine wpAny_bind (wpAny_pure ?_) | refine wpAny_bind (mix_tells hkey hst ?_)
      all_goals rw [if_neg (by simp)]
      all_goals refine wpAny_bind (wpAny_forIn_list _ (fun rest b t => t = s ∧ ∃ hit pre, b = (none, hit) ∧ plM w es k = pre ++ rest ∧ ((hit = none ∧ ∀ i ∈ pre, ∀ p, xs[i]? ≠ some (k, p)) ∨ ∃ j p, hit = some j ∧ j ∈ pre ∧ xs[j]? = some (k, p))) _ (fun x rest b t hI => ?_) (fun b t hI => ?_) _ _ ⟨rfl, none, [], rfl, rfl, .inl ⟨rfl, fun _ h => nomatch h⟩⟩)
      all_goals first
        | (obtain ⟨rfl, hit, pre, rfl, hp, hH⟩ := hI
           obtain ⟨y, hy, hex, hh⟩ := plM_at he (show x ∈ plM w es k by rw [hp]; exact List.mem_append_right _ List.mem_cons_self)
           have nd := plM_nd (w := w) (es := es) (k := k)
           rw [hp] at nd
           have xn : x ∉ pre := fun z => (List.nodup_append.mp nd).2.2 x z x List.mem_cons_self rfl
           simp only [hex]
           rw [if_pos hh]
           refine wpAny_bind (wpAny_dictEpoch ho hd (wpAny_bind (mix_eq hu (a := y.1) (b := k) (his y (List.mem_of_getElem? hy)) hkey (wpAny_bind (wpAny_dictEpoch ho hd ?_)))))
           rw [if_neg (by simp)]
           by_cases q : y.1 = k
           · rw [decide_eq_true q]
             rcases hH with ⟨rfl, hno⟩ | ⟨j, p, rfl, hj, ej⟩
             · simp only [if_true, Option.isSome_none, Bool.false_eq_true, if_false]
               refine wpAny_bind (wpAny_rule ?_)
               split
               · exact wpAny_pure (wpAny_pure (hsome x y.2 (by rw [hy, ← q])))
               · exact wpAny_pure ⟨rfl, some x, pre ++ [x], rfl, by rw [hp]; simp, .inr ⟨x, y.2, rfl, List.mem_append_right _ (List.mem_singleton.mpr rfl), by rw [hy, ← q]⟩⟩
             · exact absurd (by rw [← nd_one hn ej (show xs[x]? = some (k, y.2) by rw [hy, ← q])]; exact hj) xn
           · rw [decide_eq_false q]
             simp only [Bool.false_eq_true, if_false, Bool.false_and]
             refine wpAny_bind (wpAny_rule ?_)
             refine wpAny_pure ⟨rfl, hit, pre ++ [x], rfl, by rw [hp]; simp, ?_⟩
             rcases hH with ⟨rfl, hno⟩ | ⟨j, p, rfl, hj, ej⟩
             · refine .inl ⟨rfl, fun i hi p e => ?_⟩
               rcases List.mem_append.mp hi with hi | hi
               · exact hno i hi p e
               · rw [List.mem_singleton.mp hi, hy] at e
                 exact q (by rw [Option.some.inj e])
             · exact .inr ⟨j, p, rfl, List.mem_append_left _ hj, ej⟩)
        | (obtain ⟨rfl, hit, pre, rfl, hp, hH⟩ := hI
           rw [List.append_nil] at hp
           rcases hH with ⟨rfl, hno⟩ | ⟨j, p, rfl, hj, ej⟩
           · exact wpAny_pure (hnone fun j p e => hno j (by rw [← hp]; exact plM_in he e) p e)
           · exact wpAny_pure (hsome j p ej))
end
end SLm

namespace SLm
open PySem PySem.Spec PyProof.Rows
/-! # dicts whose keys are of several kinds: read, written -/
def atM (xs : List EMix) (k : NestedKey) : Option Value := (xs.find? fun x => decide (x.1 = k)).map (·.2.2)
def putM (k : NestedKey) (v : Value) (x : EMix) : EMix := if x.1 = k then (x.1, x.2.1, v) else x
def storedM (xs : List EMix) (k : NestedKey) (key v : Value) : List EMix := if (atM xs k).isSome = true then xs.map (putM k v) else xs ++ [(k, key, v)]
def DictMix (w : World) (h : Heap) (d : Addr) (xs : List EMix) : Prop := ∃ o es ep, h.get? d = some o ∧ o.ExactDict ∧ o.data = .dict es ep ∧ es.toList = xs.map (entM w) ∧ (∀ x ∈ xs, KOk h x.1 x.2.1) ∧ (xs.map (·.1)).Nodup
theorem DictMix.typeIs {w : World} {s : Shared} {d : Addr} {xs : List EMix} (h : DictMix w s.heap d xs) : s.TypeIs (.ref d) "dict" := let ⟨o, _, _, ho, hc, _⟩ := h; ⟨o, ho, hc.1⟩
theorem atM_none {xs : List EMix} {k : NestedKey} (h : ∀ (j : Nat) (p : Value × Value), xs[j]? ≠ some (k, p)) : atM xs k = none := by
  unfold atM
  cases q : xs.find? (fun x => decide (x.1 = k)) with
  | none => rfl
  | some y =>
    obtain ⟨j, hj⟩ := List.getElem?_of_mem (List.mem_of_find?_eq_some q)
    have e : y.1 = k := of_decide_eq_true (by simpa using List.find?_some q)
    exact absurd (by rw [hj, ← e]) (h j y.2)
theorem atM_some {xs : List EMix} (hn : (xs.map (·.1)).Nodup) {k : NestedKey} {j : Nat} {p : Value × Value} (h : xs[j]? = some (k, p)) : atM xs k = some p.2 := by
  unfold atM
  cases q : xs.find? (fun x => decide (x.1 = k)) with
  | none =>
    have := List.find?_eq_none.mp q _ (List.mem_of_getElem? h)
    simp at this
  | some y =>
    obtain ⟨i, hi⟩ := List.getElem?_of_mem (List.mem_of_find?_eq_some q)
    have e : y.1 = k := of_decide_eq_true (by simpa using List.find?_some q)
    have ij := nd_one hn (p := y.2) (show xs[i]? = some (k, y.2) by rw [hi, ← e]) h
    rw [ij, h] at hi
    cases hi; rfl
theorem keys_putM (k : NestedKey) (v : Value) (xs : List EMix) : (xs.map (putM k v)).map (·.1) = xs.map (·.1) := by
  rw [List.map_map]
  refine List.map_congr_left fun x _ => ?_
  show (putM k v x).1 = x.1
  unfold putM; split <;> rfl
theorem modify_putM {w : World} {k : NestedKey} {v : Value} {xs : List EMix} (hn : (xs.map (·.1)).Nodup) {j : Nat} {p : Value × Value} (h : xs[j]? = some (k, p)) : (xs.map (entM w)).modify j (fun e => { e with val := v }) = (xs.map (putM k v)).map (entM w) := by
  refine List.ext_getElem? fun i => ?_
  rw [List.getElem?_modify, List.getElem?_map, List.getElem?_map, List.getElem?_map]
  cases q : xs[i]? with
  | none => simp
  | some y =>
    by_cases e : j = i
    · subst e
      rw [h] at q
      cases q
      simp [entM, putM]
    · have ne : ¬ y.1 = k := fun z => e (nd_one hn h (show xs[i]? = some (k, y.2) by rw [q, ← z]))
      simp [e, putM, ne]
section
variable {P : Program} {w : World} {A : Around} {E : Value → Shared → Prop} {s : Shared} {d : Addr} {xs : List EMix} {k : NestedKey} {key : Value}
theorem KOk.keeps {h h' : Heap} {j : NestedKey} {u : Value} {o : Obj} {es : Array DictEntry} {ep : Nat} (x : KOk h j u) (ho : h.get? d = some o) (hd : o.data = .dict es ep) (hs : Heap.SameBut d h h') : KOk h' j u :=
  ⟨NestedIs.at (fun b ob vs n hb hc => by
    refine (hs.2 b fun e => ?_).trans hb
    subst e
    rw [ho] at hb
    cases hb
    rw [hd] at hc
    cases hc) j _ x.1, x.2⟩
theorem mix_get {Q : Option Value → Shared → Prop} (hu : A.units + 8 < cLine) (hkey : KOk s.heap k key) (hm : DictMix w s.heap d xs) (h : Q (atM xs k) { s with toks := s.toks + k.draws }) : wpAny (model P w) A (dictGet d key) Q E s := by
  obtain ⟨o, es, ep, ho, _, hd, he, his, hn⟩ := hm
  unfold dictGet
  refine wpAny_holding ?_
  refine wpAny_bind (pyHash_key k key A s _ hkey.1 (by have := hkey.2; omega) ?_)
  refine wpAny_bind (mix_find (s := { s with toks := s.toks + k.draws }) hu hkey ho hd he his hn (fun hno => ?_) (fun j p hj => ?_))
  · rw [atM_none hno] at h
    exact wpAny_pure h
  · rw [atM_some hn hj] at h
    refine wpAny_bind (wpAny_dictEntries (s := { s with toks := s.toks + k.draws }) ho hd ?_)
    rw [mix_at he j, hj]
    exact wpAny_pure h
theorem mix_set {v : Value} {Q : Unit → Shared → Prop} (hu : A.units + 8 < cLine) (hkey : KOk s.heap k key) (hm : DictMix w s.heap d xs) (hsz : xs.length ≤ sizeLine)
    (hQ : ∀ h', DictMix w h' d (storedM xs k key v) → Heap.SameBut d s.heap h' → Q () { s with heap := h', toks := s.toks + k.draws }) : wpAny (model P w) A (dictSet d key v) Q E s := by
  obtain ⟨o, es, ep, ho, hc, hd, he, his, hn⟩ := hm
  have sz : es.size = xs.length := by rw [← Array.length_toList, he, List.length_map]
  unfold dictSet
  refine wpAny_holding ?_
  refine wpAny_bind (pyHash_key k key A s _ hkey.1 (by have := hkey.2; omega) ?_)
  unfold dictSetHashed
  refine wpAny_holding ?_
  refine wpAny_bind (mix_find (s := { s with toks := s.toks + k.draws }) hu hkey ho hd he his hn (fun hno => ?_) (fun j p hj => ?_))
  · have sn : storedM xs k key v = xs ++ [(k, key, v)] := by unfold storedM; rw [atM_none hno]; rfl
    have nk : k ∉ xs.map (·.1) := fun z => by
      obtain ⟨y, hy, e⟩ := List.mem_map.mp z
      obtain ⟨j, hj⟩ := List.getElem?_of_mem hy
      exact hno j y.2 (by rw [hj, ← e])
    refine wpAny_bind (wpAny_rule (wpAny_updateDictKeys (hz := by omega) (s := { s with toks := s.toks + k.draws }) ho hd (hQ _ ⟨_, _, ep + 1, Heap.get?_update_self _ ho (Obj.isFreed_of_dict (Obj.data_mapDictKeys hd _)), hc.mapDictKeys _, Obj.data_mapDictKeys hd _, ?_, ?_, ?_⟩ (Heap.SameBut.update ..))))
    · rw [sn, List.map_append, ← he]; simp [entM]
    · rw [sn]
      intro x hx
      rcases List.mem_append.mp hx with hx | hx
      · exact (his x hx).keeps ho hd (Heap.SameBut.update ..)
      · rw [List.mem_singleton.mp hx]
        exact hkey.keeps ho hd (Heap.SameBut.update ..)
    · rw [sn, List.map_append]
      refine List.nodup_append.mpr ⟨hn, by simp, fun a ha b hb e => nk ?_⟩
      have hb : b = k := List.mem_singleton.mp hb
      rw [← hb, ← e]; exact ha
  · have sn : storedM xs k key v = xs.map (putM k v) := by unfold storedM; rw [atM_some hn hj]; rfl
    refine wpAny_bind (wpAny_rule (wpAny_bind (wpAny_updateDict (s := { s with toks := s.toks + k.draws }) ho hd (wpAny_point (hQ _ ⟨_, _, ep, Heap.get?_update_self _ ho (Obj.isFreed_of_dict (Obj.data_mapDict hd _)), hc.mapDict _, Obj.data_mapDict hd _, ?_, ?_, ?_⟩ (Heap.SameBut.update ..))))))
    · rw [sn, ← modify_putM hn hj, ← he]; simp
    · rw [sn]
      intro x hx
      obtain ⟨y, hy, rfl⟩ := List.mem_map.mp hx
      unfold putM
      split <;> exact (his y hy).keeps ho hd (Heap.SameBut.update ..)
    · rw [sn, keys_putM]; exact hn
end
end SLm

namespace SLm
open PySem PySem.Spec PyProof.Rows
section
variable {P : Program} {w : World} {A : Around} {E : Value → Shared → Prop} {s : Shared} {d : Addr} {xs : List EMix} {k : NestedKey} {key : Value}
theorem mix_getItem {v : Value} {Q : Value → Shared → Prop} (hu : A.units + 9 < cLine) (hkey : KOk s.heap k key) (hm : DictMix w s.heap d xs) (hp : atM xs k = some v) (h : Q v { s with toks := s.toks + k.draws }) : wpAny (model P w) A (getItem (.ref d) key) Q E s := by
  have ty := hm.typeIs
  unfold getItem
  refine wpAny_holding ?_
  refine wpAny_bind (wpAny_sequenceKey ty (by decide) ?_)
  refine wpAny_bind (wpAny_callSpecial?_slot (name := Str.ofString "__getitem__") ty slot_dict_getitem (wpAny_call_entry slot_dict_getitem ty entry_dict_getitem ?_ (args_dict_getitem _ _)))
  show wpAny _ _ (dictGet d key >>= _) _ _ s
  refine wpAny_bind (mix_get (by show A.units + 1 + 8 < cLine; omega) hkey hm ?_)
  rw [hp]
  exact wpAny_pure ⟨v, rfl, wpAny_pure h⟩
theorem mix_setItem {v : Value} {Q : Unit → Shared → Prop} (hu : A.units + 9 < cLine) (hkey : KOk s.heap k key) (hm : DictMix w s.heap d xs) (hsz : xs.length ≤ sizeLine)
    (hQ : ∀ h', DictMix w h' d (storedM xs k key v) → Heap.SameBut d s.heap h' → Q () { s with heap := h', toks := s.toks + k.draws }) : wpAny (model P w) A (setItem (.ref d) key v) Q E s := by
  have ty := hm.typeIs
  unfold setItem
  refine wpAny_holding ?_
  refine wpAny_bind (wpAny_sequenceKey ty (by decide) ?_)
  refine wpAny_bind (wpAny_callSpecial?_slot (name := Str.ofString "__setitem__") ty slot_dict_setitem (wpAny_call_entry slot_dict_setitem ty entry_dict_setitem ?_ (args_dict_setitem _ _ _)))
  show wpAny _ _ (Builtin.Dict.notOrdered "__setitem__" ⟨[.ref d, key, v], []⟩ >>= _) _ _ s
  refine wpAny_bind (wpAny_notOrdered_dict ty ?_)
  show wpAny _ _ (dictSet d key v >>= _) _ _ s
  exact wpAny_bind (mix_set (by show A.units + 1 + 8 < cLine; omega) hkey hm hsz fun h' hm' hs' => wpAny_pure ⟨.none, rfl, wpAny_pure (hQ h' hm' hs')⟩)
end
end SLm

namespace SL
open PySem PySem.Spec PyProof.Rows L2
/-! # dicts whose keys are nested tuples -/
/-- the world of the hashes -/
class HW where
  w : World
def valN {α : Type} (l : List (NestedKey × α)) (k : NestedKey) : Option α := (l.find? fun p => decide (p.1 = k)).map (·.2)
def putN {α : Type} (kk : List NestedKey) (xs : List α) (k : NestedKey) (x : α) : List α := (kk.zip xs).map fun p => if p.1 = k then x else p.2
def valX (xs : List NEnt) (k : NestedKey) : Option V := (xs.find? fun x => decide (x.1 = k)).map (·.2.2)
def putX' (k : NestedKey) (v : V) (x : NEnt) : NEnt := if x.1 = k then (x.1, x.2.1, v) else x
/-- behind d[k] = v; the key's tuple at b -/
def storeX (xs : List NEnt) (k : NestedKey) (b : V) (v : V) : List NEnt := if (valX xs k).isSome = true then xs.map (putX' k v) else xs ++ [(k, b, v)]
theorem storeX_len (xs : List NEnt) (k : NestedKey) (b : V) (v : V) : (storeX xs k b v).length ≤ xs.length + 1 := by
  unfold storeX; split <;> simp
section
variable {P : Program} {w : World}
theorem same_val {k : NestedKey} : ∀ {xs : List NEnt} {ys : List SLm.EMix}, Paired SameN xs ys → (∀ v, valX xs k = some v → ∃ p, SLm.atM ys k = some p ∧ RelV v p) ∧ (valX xs k = none → SLm.atM ys k = none)
  | _, _, .nil => ⟨fun v h => (by cases h), fun _ => rfl⟩
  | x :: xs, y :: ys, .cons r t => by
    obtain ⟨i1, i2⟩ := same_val (k := k) t
    unfold valX SLm.atM at i1 i2 ⊢
    by_cases e : x.1 = k
    · have e2 : y.1 = k := by rw [← r.1]; exact e
      rw [List.find?_cons_of_pos (by simpa using e), List.find?_cons_of_pos (by simpa using e2)]
      exact ⟨fun v h => by cases h; exact ⟨y.2.2, rfl, r.2.2⟩, fun h => nomatch h⟩
    · have e2 : ¬ y.1 = k := by rw [← r.1]; exact e
      rw [List.find?_cons_of_neg (by simpa using e), List.find?_cons_of_neg (by simpa using e2)]
      exact ⟨i1, i2⟩
theorem same_map {k : NestedKey} {v : V} {u : Value} (rv : RelV v u) : ∀ {xs : List NEnt} {ys : List SLm.EMix}, Paired SameN xs ys → Paired SameN (xs.map (putX' k v)) (ys.map (SLm.putM k u))
  | _, _, .nil => .nil
  | x :: xs, y :: ys, .cons r t => by
    rw [List.map_cons, List.map_cons]
    refine .cons ?_ (same_map rv t)
    unfold putX' SLm.putM
    by_cases e : x.1 = k
    · rw [if_pos e, if_pos (by rw [← r.1]; exact e)]
      exact ⟨r.1, r.2.1, rv⟩
    · rw [if_neg e, if_neg (by rw [← r.1]; exact e)]
      exact r
theorem same_app : ∀ {xs us : List NEnt} {ys ws : List SLm.EMix}, Paired SameN xs ys → Paired SameN us ws → Paired SameN (xs ++ us) (ys ++ ws)
  | _, _, _, _, .nil, h => h
  | _, _, _, _, .cons r t, h => .cons r (same_app t h)
theorem same_store {k : NestedKey} {b v : V} {c u : Value} (rb : RelV b c) (rv : RelV v u) {xs : List NEnt} {ys : List SLm.EMix} (h : Paired SameN xs ys) : Paired SameN (storeX xs k b v) (SLm.storedM ys k c u) := by
  obtain ⟨i1, i2⟩ := same_val (k := k) h
  unfold storeX SLm.storedM
  cases e : valX xs k with
  | some z =>
    obtain ⟨p, hp, _⟩ := i1 z e
    simp only [hp, Option.isSome_some, if_true]
    exact same_map rv h
  | none =>
    simp only [i2 e, Option.isSome_none, Bool.false_eq_true, if_false]
    exact same_app h (.cons ⟨rfl, rb, rv⟩ .nil)
theorem same_mem : ∀ {xs : List NEnt} {ys : List SLm.EMix}, Paired SameN xs ys → ∀ y ∈ ys, ∃ x ∈ xs, x.1 = y.1 ∧ RelV x.2.1 y.2.1
  | _, _, .nil, y, h => by cases h
  | x :: xs, z :: ys, .cons r t, y, h => by
    rcases List.mem_cons.mp h with e | h
    · exact ⟨x, List.mem_cons_self, by rw [e]; exact r.1, by rw [e]; exact r.2.1⟩
    · obtain ⟨u, hu, e⟩ := same_mem t y h
      exact ⟨u, List.mem_cons_of_mem _ hu, e⟩
end
/-! ## what the heap knows -/
section
variable {P : Program} {w : World} {K : PySem.W.Frag} {mg : Str → Option Value} {F H : Hp} {h : Heap} {μ : List Addr}
mutual
theorem nk_is (ok : HOk P w H h) (l : ∀ a o, F a = some o → H a = some o) : ∀ {y : W} {k : NestedKey} {v : V} {u : Value}, nkW y = some k → Rep K mg F μ y v → RelV v u → NestedIs h k u
  | .non, k, v, u, e, r, ru => by
    cases e
    cases rep_non_inv r
    have : u = .none := ru
    subst this; exact .none
  | .bl b, k, v, u, e, r, ru => by
    cases e
    cases rep_bl_inv r
    have : u = .bool b := ru
    subst this; exact .bool rfl
  | .int i, k, v, u, e, r, ru => by
    cases e
    cases rep_int_inv r
    obtain ⟨t, rfl⟩ := (show ∃ t, u = Value.int i t from ru)
    exact .int _ _
  | .str x, k, v, u, e, r, ru => by
    cases e
    cases rep_str_inv r
    obtain ⟨t, rfl⟩ := (show ∃ t, u = Value.str x t from ru)
    exact .text _ _
  | .tup ws, k, v, u, e, r, ru => by
    unfold nkW at e
    obtain ⟨ks, e1, rfl⟩ := Option.map_eq_some_iff.mp e
    obtain ⟨a, vs, rfl, h1, h2⟩ := rep_tup_inv r
    have : u = .ref a := ru
    subst this
    obtain ⟨_, its, rv, o, ho, hc, n, hd⟩ := ok a _ (l a _ h1)
    exact .tup ho hc hd (by simpa using nks_is ok l e1 h2 rv)
  | .lst _, _, _, _, e, _, _ => by cases e
  | .dct _ _, _, _, _, e, _, _ => by cases e
  | .ins _ _ _, _, _, _, e, _, _ => by cases e
  | .cell _, _, _, _, e, _, _ => by cases e
  | .ro _, _, _, _, e, _, _ => by cases e
  | .ty _, _, _, _, e, _, _ => by cases e
  | .cls _, _, _, _, e, _, _ => by cases e
  | .tpn _, _, _, _, e, _, _ => by cases e
theorem nks_is (ok : HOk P w H h) (l : ∀ a o, F a = some o → H a = some o) : ∀ {ys : List W} {ks : List NestedKey} {vs : List V} {us : List Value}, nkWs ys = some ks → Reps K mg F μ ys vs → Vals vs us → NestedAll h ks us
  | [], ks, vs, us, e, r, rv => by
    cases e
    rw [Reps.nil_iff] at r
    subst r
    cases rv; exact .nil
  | y :: ys, ks, vs, us, e, r, rv => by
    unfold nkWs at e
    cases e1 : nkW y with
    | none => rw [e1] at e; cases e
    | some k =>
      cases e2 : nkWs ys with
      | none => rw [e1, e2] at e; cases e
      | some js =>
        rw [e1, e2] at e; cases e
        obtain ⟨v, t, rfl, r1, r2⟩ := r.cons_inv
        cases rv with
        | cons a b => exact .cons (nk_is ok l e1 r1 a) (nks_is ok l e2 r2 b)
end
theorem nkeyM_nk {y : W} {k : NestedKey} (h : nkeyM y = some k) : nkW y = some k ∧ k.depth ≤ 8 := by
  cases y with
  | tup ws => exact nkey_nk h
  | non => cases h; exact ⟨rfl, by decide⟩
  | bl b => cases h; exact ⟨rfl, by simp [NestedKey.depth]⟩
  | int i => cases h; exact ⟨rfl, by simp [NestedKey.depth]⟩
  | str x => cases h; exact ⟨rfl, by simp [NestedKey.depth]⟩
  | _ => cases h
theorem nkeyM_is (ok : HOk P w H h) (l : ∀ a o, F a = some o → H a = some o) {y : W} {k : NestedKey} {v : V} {u : Value} (e : nkeyM y = some k) (r : Rep K mg F μ y v) (ru : RelV v u) : SLm.KOk h k u :=
  ⟨nk_is ok l (nkeyM_nk e).1 r ru, (nkeyM_nk e).2⟩
theorem kn_keys : ∀ {ks : List W} {xs : List NEnt}, KN K mg F μ ks xs → mapO nkeyM ks = some (xs.map (·.1))
  | [], [], _ => rfl
  | [], _ :: _, h => by have := h.1; simp at this
  | _ :: _, [], h => by have := h.1; simp at this
  | k :: ks, x :: xs, h => by
    have i := kn_keys (ks := ks) (xs := xs) ⟨by simpa using h.1, fun i k x a b => h.2 (i + 1) k x (by simpa using a) (by simpa using b)⟩
    unfold mapO
    rw [(h.2 0 k x rfl rfl).1, i]; rfl
theorem dkn_of (ok : HOk P w H h) (l : ∀ a o, F a = some o → H a = some o) {a : Addr} {ks : List W} {xs : List NEnt} (r : Rd H a (DkN w a xs)) (kn : KN K mg F μ ks xs) :
    (a == sysModules) = false ∧ xs.length ≤ sizeLine ∧ ∃ ys, Paired SameN xs ys ∧ SLm.DictMix w h a ys := by
  have x : ObjOk P w H h a (DkN w a xs) := r.ok ok
  obtain ⟨⟨h1, h2, ys, p, o, es, ep, g1, g2, g3, g4, g5⟩, _⟩ := x
  refine ⟨h1, h2, ys, p, o, es, ep, g1, g2, g3, g4, fun y hy => ?_, g5⟩
  obtain ⟨z, hz, e1, e2⟩ := same_mem p y hy
  obtain ⟨i, hi⟩ := List.getElem?_of_mem hz
  have il : i < ks.length := by rw [kn.1]; exact (List.getElem?_eq_some_iff.mp hi).1
  obtain ⟨n1, n2⟩ := kn.2 i ks[i] z (List.getElem?_eq_getElem il) hi
  rw [← e1]
  exact nkeyM_is (P := P) (w := w) ok l n1 n2 e2
end
end SL

namespace SL
open PySem PySem.Spec PyProof.Rows L2
/-! # dicts with nested keys: read, written, made -/
theorem dkn_stay {wo : World} {a : Addr} {xs : List NEnt} {h1 h2 : Heap} (x : (a == sysModules) = false ∧ xs.length ≤ sizeLine ∧ ∃ ys, Paired SameN xs ys ∧ ∃ o es ep, h1.get? a = some o ∧ o.ExactDict ∧ o.data = .dict es ep ∧ es.toList = ys.map (entN wo) ∧ (ys.map (·.1)).Nodup) (k : ∀ o, h1.get? a = some o → h2.get? a = some o) :
    (a == sysModules) = false ∧ xs.length ≤ sizeLine ∧ ∃ ys, Paired SameN xs ys ∧ ∃ o es ep, h2.get? a = some o ∧ o.ExactDict ∧ o.data = .dict es ep ∧ es.toList = ys.map (entN wo) ∧ (ys.map (·.1)).Nodup := by
  obtain ⟨a1, a2, ys, p, o, es, ep, g1, g⟩ := x
  exact ⟨a1, a2, ys, p, o, es, ep, k _ g1, g⟩
def NGt (P : Program) (w : World) (H : Hp) (a : Addr) (y v : V) : Prop := ∀ h, HOk P w H h → ∀ u, RelV y u → ∃ k ys p, SLm.KOk h k u ∧ SLm.DictMix w h a ys ∧ SLm.atM ys k = some p ∧ RelV v p
def rNGet (P : Program) (w : World) : R2 := fun x y H Q => ∃ a v, x = .ref a ∧ NGt P w H a y v ∧ Q v H
def tNGet (P : Program) (w : World) (td ty : TE) : TE := fun σ H Q => td σ H fun x H1 => ty σ H1 fun y H2 => rNGet P w x y H2 Q
def rSetN (P : Program) (w : World) : TSet := fun o i v H Q => ∃ a xs k, o = .ref a ∧ H a = some (DkN w a xs) ∧ xs.length < sizeLine ∧ (∀ h, HOk P w H h → ∀ u, RelV i u → (a == sysModules) = false ∧ SLm.KOk h k u ∧ ∃ ys, Paired SameN xs ys ∧ SLm.DictMix w h a ys) ∧ Q (upd H a (DkN w a (storeX xs k i v)))
def tDNewN (w : World) : TE := fun _ H Q => ∀ p, H p = none → Q (.ref p) (upd H p (DkN w p []))
section
variable {X : Cx} {o i : Expr} {td ty : TE} {pos : Pos}
theorem nroom (hu : X.A.units + 64 < cLine) : X.A.units + 9 < cLine := by omega
theorem pe_nget (hu : X.A.units + 64 < cLine) (ho : PE X o td) (hi : PE X i ty) (hs : NoSl i) : PE X (.Subscript o i pos) (tNGet X.prog X.w td ty) := by
  refine ⟨fun pins s σ H Q I h => ?_⟩
  refine subD_of PySem.F.slot_dict_getitem.lookup hs (thn (ho.run pins s σ H _ I h) fun u s1 ⟨x, H1, I1, rx, q1⟩ => thn (hi.run pins s1 σ H1 _ I1 q1) fun iv s2 ⟨y, H2, I2, ry, a, v, ex, g, q2⟩ => ?_)
  subst ex
  obtain rfl : u = Value.ref a := rx
  obtain ⟨k, ys, p, hk, dd, hp, rv⟩ := g s2.heap I2.hok iv ry
  exact ⟨dd.typeIs, SLm.mix_getItem (nroom hu) hk dd hp ⟨v, H2, I2.tok _, rv, q2⟩⟩
theorem set_nest (hu : X.A.units + 64 < cLine) : PSet X (rSetN X.prog X.w) := by
  intro pins s σ H o i v ov iv u Q I ro ri rv h
  obtain ⟨a, xs, k, rfl, e, hl, g, q⟩ := h
  cases (show ov = Value.ref a from ro)
  obtain ⟨hs, hk, ys, sm, dd⟩ := g s.heap I.hok iv ri
  have yl : ys.length ≤ sizeLine := by rw [← Paired.length sm]; omega
  refine SLm.mix_setItem (nroom hu) hk dd yl fun h' dd' sb => ?_
  obtain ⟨o, es, ep, ho, g2, g3, g4, _, g5⟩ := dd'
  have sl := storeX_len xs k i v
  exact ⟨_, d_write (ob := DkN X.w a (storeX xs k i v)) I (by rw [e]; exact True.intro) sb ⟨o, ho⟩ ⟨⟨hs, by omega, _, same_store ri rv sm, o, es, ep, ho, g2, g3, g4, g5⟩, ⟨o, ho⟩, fun _ _ x k => dkn_stay x k⟩, q⟩
theorem pe_dnewN : PE X (.Dict [] [] pos) (tDNewN X.w) := ⟨fun pins s σ H Q I h =>
  wpAny_Dict_empty ⟨.ref s.heap.objs.size, _, I.laid (a := s.heap.objs.size) (o := DkN X.w s.heap.objs.size []) (t' := s.toks) (fun _ _ q => Heap.get?_push_of_some _ q) (Nat.le_refl _)
    ⟨⟨beq_eq_false_iff_ne.mpr (Ne.symm (Nat.ne_of_lt I.big)), Nat.zero_le _, [], .nil, _, #[], 0, Heap.get?_push_size _ rfl, ⟨rfl, rfl, rfl⟩, rfl, rfl, List.nodup_nil⟩, ⟨_, Heap.get?_push_size _ rfl⟩, fun _ _ x k => dkn_stay x k⟩, rfl, h _ (I.hok.fresh (Nat.le_refl _))⟩⟩
end
/-! ## by values -/
noncomputable def nctW (w : World) (st : Sto) (x : W) : Option (List W × List W) := match x with
  | .cell k => (match st[k]? with
    | some (.nct _ wo ks ws) => if dec (wo = w) = true then some (ks, ws) else none
    | _ => none)
  | _ => none
noncomputable def oNGet (w : World) : Op2 := fun x y st => match nctW w st x, nkeyM y with
  | some (ks, ws), some j => (match mapO nkeyM ks with
    | some kk => (match valN (kk.zip ws) j with
      | some u => .ok u st
      | none => .bad)
    | none => .bad)
  | _, _ => .bad
noncomputable def uNct (w : World) : Op3 := fun o y u st => match o with
  | .cell n => (match st[n]? with
    | some (.nct false wo ks ws) => if dec (wo = w) = true then (match mapO nkeyM ks, nkeyM y with
      | some kk, some j => if ks.length < LINE then (if (valN (kk.zip ws) j).isSome = true then some (st.set n (.nct false wo ks (putN kk ws j u))) else some (st.set n (.nct false wo (ks ++ [y]) (ws ++ [u])))) else none
      | _, _ => none) else none
    | _ => none)
  | _ => none
def eNDct0 (w : World) : Sem := fun _ st => .ok (.cell st.length) (st ++ [.nct false w [] []])
section
variable {K : PySem.W.Frag} {mg : Str → Option Value} {F : Hp} {μ : List Addr}
theorem valN_at {j : NestedKey} : ∀ {xs : List NEnt} {ws : List W}, Reps K mg F μ ws (xs.map (·.2.2)) → (∀ w, valN ((xs.map (·.1)).zip ws) j = some w → ∃ v, valX xs j = some v ∧ Rep K mg F μ w v) ∧ (valN ((xs.map (·.1)).zip ws) j = none → valX xs j = none)
  | [], ws, _ => ⟨fun w h => (by simp [valN] at h), fun _ => rfl⟩
  | x :: xs, [], r => by
    have := r.length
    simp at this
  | x :: xs, w :: ws, r => by
    obtain ⟨v, t, e, r1, r2⟩ := r.cons_inv
    rw [List.map_cons] at e
    injection e with e1 e2
    subst e1 e2
    obtain ⟨i1, i2⟩ := valN_at (j := j) r2
    rw [List.map_cons, List.zip_cons_cons]
    unfold valN valX at i1 i2 ⊢
    by_cases e : x.1 = j
    · rw [List.find?_cons_of_pos (by simpa using e), List.find?_cons_of_pos (by simpa using e)]
      exact ⟨fun u h => by cases h; exact ⟨_, rfl, r1⟩, fun h => nomatch h⟩
    · rw [List.find?_cons_of_neg (by simpa using e), List.find?_cons_of_neg (by simpa using e)]
      exact ⟨i1, i2⟩
theorem reps_putN {j : NestedKey} {u : W} {v : V} (ru : Rep K mg F μ u v) : ∀ {xs : List NEnt} {ws : List W}, Reps K mg F μ ws (xs.map (·.2.2)) → Reps K mg F μ (putN (xs.map (·.1)) ws j u) ((xs.map (putX' j v)).map (·.2.2))
  | [], ws, _ => by unfold putN; simp; exact .nil
  | x :: xs, [], r => by
    have := r.length
    simp at this
  | x :: xs, w :: ws, r => by
    obtain ⟨v', t, e, r1, r2⟩ := r.cons_inv
    rw [List.map_cons] at e
    injection e with e1 e2
    subst e1 e2
    have ih := reps_putN (j := j) ru r2
    unfold putN at ih ⊢
    rw [List.map_cons, List.zip_cons_cons, List.map_cons, List.map_cons, List.map_cons]
    refine .cons ?_ ih
    unfold putX'
    by_cases e : x.1 = j
    · rw [if_pos e, if_pos e]; exact ru
    · rw [if_neg e, if_neg e]; exact r1
theorem kn_putX {j : NestedKey} {v : V} {ks : List W} {xs : List NEnt} (h : KN K mg F μ ks xs) : KN K mg F μ ks (xs.map (putX' j v)) := by
  refine ⟨by rw [List.length_map]; exact h.1, fun i k x a b => ?_⟩
  rw [List.getElem?_map] at b
  obtain ⟨y, hy, rfl⟩ := Option.map_eq_some_iff.mp b
  have q := h.2 i k y a hy
  unfold putX'
  by_cases e : y.1 = j
  · rw [if_pos e]; exact q
  · rw [if_neg e]; exact q
theorem kn_app {ks : List W} {xs : List NEnt} {y : W} {j : NestedKey} {b v : V} (h : KN K mg F μ ks xs) (e : nkeyM y = some j) (r : Rep K mg F μ y b) : KN K mg F μ (ks ++ [y]) (xs ++ [(j, b, v)]) := by
  refine ⟨by simp [h.1], fun i k x a c => ?_⟩
  rcases Nat.lt_or_ge i ks.length with q | q
  · rw [List.getElem?_append_left q] at a
    rw [List.getElem?_append_left (by rw [← h.1]; exact q)] at c
    exact h.2 i k x a c
  · rw [List.getElem?_append_right q] at a
    rw [List.getElem?_append_right (by rw [← h.1]; exact q), ← h.1] at c
    cases hz : i - ks.length with
    | zero =>
      rw [hz] at a c
      cases a; cases c
      exact ⟨e, r⟩
    | succ m => rw [hz] at a; simp at a
theorem nct_at {w : World} {hid : List Addr} {st : Sto} {H : Hp} {x : W} {v : V} {ks ws : List W} (k : StOk K mg μ st hid H) (h : nctW w st x = some (ks, ws)) (r : Rep K mg (Fz μ st hid H) μ x v) :
    ∃ a xs, v = .ref a ∧ Rd H a (DkN w a xs) ∧ KN K mg (Fz μ st hid H) μ ks xs ∧ Reps K mg (Fz μ st hid H) μ ws (xs.map (·.2.2)) := by
  cases x with
  | cell n =>
    unfold nctW at h
    simp only at h
    split at h
    · rename_i l wo ks' ws' e
      split at h
      · rename_i hw
        cases h
        have hw := dec_of hw
        subst hw
        obtain ⟨a, rfl, e2, xs, d, kn, rr⟩ := k.cell e r
        refine ⟨a, xs, rfl, ?_, kn, rr⟩
        cases l with
        | true => obtain ⟨o, d⟩ := d; exact .inr ⟨o, d⟩
        | false => exact .inl d
      · cases h
    · cases h
  | _ => cases h
end
section
variable {X : Cx} {Wx : Wish} {w : World}
theorem os_nget (hw : X.w = w) : Op2S X (oNGet w) (rNGet X.prog X.w) := by
  subst hw
  intro Wx hid μ st σ H Q x y xv yv k rx ry P
  unfold oNGet at P
  split at P
  · rename_i ks ws j hx hy
    split at P
    · rename_i kk hk
      split at P
      · rename_i u hu
        obtain ⟨a, xs, rfl, rd, kn, rr⟩ := nct_at k hx rx
        have e := kn_keys kn
        rw [hk] at e
        cases e
        obtain ⟨v, hv, rv⟩ := (valN_at rr).1 u hu
        refine ⟨a, v, rfl, fun h ok uu ru => ?_, P μ H _ k .refl rv⟩
        obtain ⟨h1, h2, ys, sm, dd⟩ := dkn_of (P := X.prog) (w := X.w) ok (fun _ _ z => (Fz.sub z).1) rd kn
        have hk2 := nkeyM_is (P := X.prog) (w := X.w) ok (fun _ _ z => (Fz.sub z).1) hy ry ru
        obtain ⟨p, hp, rp⟩ := (same_val sm).1 v hv
        exact ⟨j, ys, p, hk2, dd, hp, rp⟩
      · exact P.elim
    · exact P.elim
  · exact P.elim
theorem ev_nget {k : Nat} {o i : Expr} {f g : Sem} {pos : Pos} (hw : X.w = w) (C : Ctx X Wx k) (ho : EV X Wx o f) (hi : EV X Wx i g) (hs : NoSl i := by intro _ _; rfl) : EV X Wx (.Subscript o i pos) (e2 (oNGet w) f g) :=
  PEm (pe_nget C.room.units ho hi hs) (e2_read (os_nget hw))
theorem ev_ndct0 {pos : Pos} (hw : X.w = w) : EV X Wx (.Dict [] [] pos) (eNDct0 w) := PEm pe_dnewN fun σ H Q ⟨μ, st, hid, fr, S, P⟩ => by
  subst hw
  intro p hp
  obtain ⟨k2, g2⟩ := S.sto.newCell (c := .nct false X.w [] []) (o := DkN X.w p []) hp rfl ⟨[], upd_same, ⟨rfl, fun i k x a _ => (by simp at a)⟩, .nil⟩
  refine P _ _ _ k2 g2 ?_
  unfold Rep
  exact ⟨p, by rw [← S.sto.len]; simp, rfl⟩
theorem os_setN (hw : X.w = w) : Op3S X (uNct w) (rSetN X.prog X.w) := by
  subst hw
  intro hid μ st st' H Q o y u ov yv v k ro ry ru e q
  unfold uNct at e
  split at e
  · rename_i n
    split at e
    · rename_i wo ks ws e1
      split at e
      · rename_i hwo
        have hwo := dec_of hwo
        subst hwo
        split at e
        · rename_i kk j hk hy
          obtain ⟨a, rfl, h1, xs, d, kn, rr⟩ := k.cell e1 ro
          have ek := kn_keys kn
          rw [hk] at ek
          cases ek
          have d : H a = some (DkN X.w a xs) := d
          split at e
          · rename_i hl
            have xl : xs.length < sizeLine := by
              rw [← kn.1, sizeLine_eq]
              unfold LINE at hl
              exact hl
            have vx := valN_at (j := j) rr
            refine ⟨a, xs, j, rfl, d, xl, fun h ok uu ru => ?_, ?_⟩
            · obtain ⟨h1, h2, ys, sm, dd⟩ := dkn_of (P := X.prog) (w := X.w) ok (fun _ _ z => (Fz.sub z).1) (.inl d) kn
              exact ⟨h1, nkeyM_is (P := X.prog) (w := X.w) ok (fun _ _ z => (Fz.sub z).1) hy ry ru, ys, sm, dd⟩
            · unfold storeX
              cases hv : valN ((xs.map (·.1)).zip ws) j with
              | some z =>
                obtain ⟨v', hv2, _⟩ := vx.1 z hv
                rw [hv] at e
                simp only [Option.isSome_some, if_true] at e
                cases e
                simp only [hv2, Option.isSome_some, if_true]
                obtain ⟨k2, g4⟩ := k.setCell (c' := .nct false X.w ks (putN (xs.map (·.1)) ws j u)) (o := DkN X.w a (xs.map (putX' j v))) h1 e1 rfl rfl ⟨_, upd_same, kn_putX kn, reps_putN ru rr⟩ rfl
                exact q _ _ k2 g4
              | none =>
                have hv2 := vx.2 hv
                rw [hv] at e
                simp only [Option.isSome_none, Bool.false_eq_true, if_false] at e
                cases e
                simp only [hv2, Option.isSome_none, Bool.false_eq_true, if_false]
                obtain ⟨k2, g4⟩ := k.setCell (c' := .nct false X.w (ks ++ [y]) (ws ++ [u])) (o := DkN X.w a (xs ++ [(j, yv, v)])) h1 e1 rfl rfl ⟨_, upd_same, kn_app kn hy ry, by rw [List.map_append]; exact rr.append (.cons ru .nil)⟩ rfl
                exact q _ _ k2 g4
          · cases e
        · cases e
      · cases e
    · cases e
  · cases e
end
end SL

namespace L2
open PySem PySem.Spec PyProof.Rows
/-! # walks over a dict with nested keys -/
def ItN (wo : World) (d : Addr) (o : Obj) (xs : List SL.NEnt) : It :=
  ⟨fun i H => H d = some (.frz o (SL.DkN wo d xs)) ∧ i < xs.length, fun i H x H' => H' = H ∧ ∃ k : SL.NEnt, xs[i]? = some k ∧ x = k.2.1, fun i H => H d = some (.frz o (SL.DkN wo d xs)) ∧ xs.length ≤ i⟩
theorem same_at : ∀ {xs : List SL.NEnt} {ys : List SLm.EMix} {i : Nat} {x : SL.NEnt}, Paired SL.SameN xs ys → xs[i]? = some x → ∃ y, ys[i]? = some y ∧ SL.SameN x y
  | _, _, _, _, .nil, h => by simp at h
  | _, _, 0, _, .cons r t, h => by simp at h; subst h; exact ⟨_, rfl, r⟩
  | _, _, i + 1, _, .cons r t, h => by
    obtain ⟨y, hy, e⟩ := same_at (i := i) t (by simpa using h)
    exact ⟨y, by simpa using hy, e⟩
theorem Inv.frzN {X : Cx} {pins : List (Addr × Obj)} {σ : St} {H : Hp} {s : Shared} {d : Addr} {o : Obj} {wo : World} {xs : List SL.NEnt} (I : Inv X pins σ H s) (h : H d = some (.frz o (SL.DkN wo d xs))) :
    (d == sysModules) = false ∧ s.heap.get? d = some o ∧ o.ExactDict ∧ ∃ (es : Array DictEntry) (ep : Nat), o.data = .dict es ep ∧ es.size = xs.length ∧
      ∀ (i : Nat) (k : SL.NEnt), xs[i]? = some k → ∃ en : DictEntry, es[i]? = some en ∧ RelV k.2.1 en.key := by
  obtain ⟨hd, ⟨hs, hz, ys, sm, o', es, ep, ho, hx, hdt, he, _⟩, _⟩ := I.hok d _ h
  rw [hd] at ho
  cases ho
  have l2 : xs.length = ys.length := Paired.length sm
  have l1 : es.size = ys.length := by rw [← Array.length_toList, he, List.length_map]
  refine ⟨hs, hd, hx, es, ep, hdt, by omega, fun i k e => ?_⟩
  obtain ⟨y, hy, e1⟩ := same_at sm e
  refine ⟨SL.entN wo y, ?_, ?_⟩
  · rw [← Array.getElem?_toList, he, List.getElem?_map, hy]; rfl
  · exact e1.2.1
section
variable {P : Program} {w : World} {K : PySem.W.Frag} {tg : Expr} {d : Addr} {o : Obj} {es : Array DictEntry} {ep : Nat}
theorem turn_keysN {wo : World} {xs : List SL.NEnt} (it : Addr) (hod : o.data = .dict es ep) : Turn P w K tg (ItN wo d o xs) [it] it (fun i h => h.IsKeyIter it d i xs.length ep) where
  mem := by simp
  obj := fun i h st b hb => by
    have e : b = it := by simpa using hb
    subst e
    obtain ⟨oi, e, c, dd⟩ := st
    exact ⟨oi, e, fun v z => by rw [dd] at z; cases z⟩
  keep := fun i h h' st k => st.at fun oi e => k it (by simp) oi e
  item := by
    intro X hP hw hK hc i pins s σ H E I hf st hg
    subst hP hw hK
    obtain ⟨hd, hi⟩ := hg
    obtain ⟨f0, f1, f2, f3, f4, f5⟩ := hf it (by simp)
    obtain ⟨hs, hgd, hx, es', ep', hdt, hsz, ent⟩ := I.frzN hd
    obtain ⟨rfl, rfl⟩ := dict_ep hod hdt
    obtain ⟨k, hkv⟩ : ∃ p, xs[i]? = some p := ⟨xs[i], List.getElem?_eq_getElem hi⟩
    obtain ⟨en, hen, hkey⟩ := ent i k hkv
    refine next_key_item st hgd hdt hsz hen fun h' st' sb => ?_
    have I1 : Inv X pins σ H { s with heap := h' } := I.turned (t' := s.toks) (fun b ob hb e => (sb.2 b hb).trans e) f0 f1 f3 f4 f5
    obtain ⟨oi, e, c, dd⟩ := id st'
    exact ⟨en.key, rfl, go_of (s := { s with heap := h' }) e c dd (by decide) ⟨k.2.1, H, I1, hkey, ⟨rfl, k, hkv, rfl⟩, st', fun b hb => (hf b hb).1⟩⟩
  done := by
    intro X hP hw hK hc i pins s σ H E I hf st hg
    subst hP hw hK
    obtain ⟨hd, hi⟩ := hg
    obtain ⟨f0, f1, f2, f3, f4, f5⟩ := hf it (by simp)
    obtain ⟨hs, hgd, hx, es', ep', hdt, hsz, ent⟩ := I.frzN hd
    obtain ⟨rfl, rfl⟩ := dict_ep hod hdt
    exact next_key_end (I.ok.hd hc) st hgd hdt hsz hi fun h' eb => ⟨rfl, I.turned (t' := s.toks) (fun b ob hb e => eb b ob hb e) f0 f1 f3 f4 f5⟩
  self := fun A i s Q E st h => by
    refine wpAny_pyIter_slot st.typeIs F.slot_dict_keyiterator_iter (wpAny_call_entry F.slot_dict_keyiterator_iter st.typeIs F.entry_dict_keyiterator_iter ?_ (F.args_dict_keyiterator_iter_1 _))
    show wpAny _ _ (ret (.ref it)) _ _ s
    exact wpAny_pure ⟨_, rfl, "dict_keyiterator", _, st.typeIs, F.slot_dict_keyiterator_next.lookup, h⟩
end
/-- the dict is locked -/
def iKeysNx (td : TE) : TI := fun σ H R => td σ H fun x H1 => ∃ d o wo xs, x = .ref d ∧ H1 d = some (.frz o (SL.DkN wo d xs)) ∧ R (ItN wo d o xs) H1
theorem pi_keysNA {X : Cx} {tg e : Expr} {td : TE} (he : PE X e td) : PI X tg e (iKeysNx td) := by
  refine ⟨fun pins s σ H R I h => ?_⟩
  refine thn (he.run pins s σ H _ I h) fun u s1 ⟨x, H1, I1, rx, d, o, wo, xs, ex, hd, q⟩ => ?_
  subst ex
  obtain rfl : u = Value.ref d := rx
  obtain ⟨hs, hgd, hx, es, ep, hdt, hsz, ent⟩ := I1.frzN hd
  refine iter_keys hs hgd hx hdt (pi_one (tk := s1.toks) I1 _ (turn_keysN _ hdt) ⟨_, Heap.get?_push_size _ rfl, rfl, ?_⟩ q)
  rw [hsz] <;> rfl
end L2
namespace SL
open PySem PySem.Spec PyProof.Rows L2
/-- the cell n's dict is let go -/
def unlkN (n : Nat) (st : Sto) : Option Sto := match st[n]? with
  | some (.nct true wo ks ws) => some (st.set n (.nct false wo ks ws))
  | _ => none
def unlNS (n : Nat) : SOut → SOut
  | .nx fr st => (match unlkN n st with
    | some st2 => .nx fr st2
    | none => .bad)
  | .bk fr st => (match unlkN n st with
    | some st2 => .bk fr st2
    | none => .bad)
  | .ct fr st => (match unlkN n st with
    | some st2 => .ct fr st2
    | none => .bad)
  | .rt w st => (match unlkN n st with
    | some st2 => .rt w st2
    | none => .bad)
  | _ => .bad
/-- while s runs the dict in slot i is locked; one that is locked already stays so -/
def sLockN (i : Nat) (s : SSem) : SSem := fun fr st => match fr[i]? with
  | some (some (.cell n)) => (match st[n]? with
    | some (.nct false wo ks ws) => unlNS n (s fr (st.set n (.nct true wo ks ws)))
    | some (.nct true _ _ _) => s fr st
    | _ => .bad)
  | _ => .bad
/-- the keys of the locked dict in slot i -/
def iKeysN (i : Nat) : SemI := fun fr st => match fr[i]? with
  | some (some (.cell n)) => (match st[n]? with
    | some (.nct true _ ks _) => if ks.length ≤ LINE then .ok (.non, ks) st else .bad
    | _ => .bad)
  | _ => .bad
section
variable {K : PySem.W.Frag} {mg : Str → Option Value} {Wx : Wish} {μ hid : List Addr} {st : Sto} {fr : Fr} {σ : L2.St} {H : Hp}
/-- the state as it is locked -/
theorem SI.lockX9 (S : SI K mg Wx μ st hid fr σ H) {i n : Nat} {wo : World} {ks ws : List W} (hf : fr[i]? = some (some (.cell n))) (hn : st[n]? = some (.nct false wo ks ws)) :
    ∃ (d : Addr) (xs : List NEnt), μ[n]? = some d ∧ d ∉ hid ∧ H d = some (DkN wo d xs) ∧ ∀ od, SI K mg Wx μ (st.set n (.nct true wo ks ws)) hid fr σ (upd H d (.frz od (DkN wo d xs))) ∧ Fz μ (st.set n (.nct true wo ks ws)) hid (upd H d (.frz od (DkN wo d xs))) = Fz μ st hid H := by
  obtain ⟨v, hv, r⟩ := S.loc i _ hf
  obtain ⟨d, rfl, h1, xs, g3, kn, rr⟩ := S.sto.cell hn r
  have g3' : H d = some (DkN wo d xs) := g3
  refine ⟨d, xs, h1, S.sto.hidn n d _ h1 hn rfl, g3', fun od => ?_⟩
  obtain ⟨k2, e, _⟩ := S.sto.setCell0 (c' := .nct true wo ks ws) (o := .frz od (DkN wo d xs)) h1 hn rfl rfl ⟨xs, ⟨od, upd_same⟩, kn, rr⟩
  exact ⟨⟨k2, S.len, fun j w h => by rw [e]; exact S.loc j w h, by rw [e]; exact S.ex⟩, e⟩
/-- .. and let go -/
theorem unlkN_at {n : Nat} {st2 : Sto} {d : Addr} {od : Obj} {u : HO} (k : StOk K mg μ st hid H) (h : unlkN n st = some st2) (hd : μ[n]? = some d) (hH : H d = some (.frz od u)) :
    StOk K mg μ st2 hid (upd H d u) ∧ Fz μ st2 hid (upd H d u) = Fz μ st hid H := by
  unfold unlkN at h
  split at h
  · rename_i wo ks ws hn
    cases h
    obtain ⟨xs, ⟨o, g3⟩, kn, rr⟩ := k.ok n d _ hd hn
    rw [hH] at g3
    cases g3
    obtain ⟨k2, e, _⟩ := k.setCell0 (c' := .nct false wo ks ws) (o := DkN wo d xs) hd hn rfl rfl ⟨xs, upd_same, kn, rr⟩
    exact ⟨k2, e⟩
  · cases h
theorem SI.freeN {μ2 : List Addr} {st2 st3 : Sto} {fr2 : Fr} {σ2 : L2.St} {H2 : Hp} {n : Nat} {d : Addr} {od : Obj} {u : HO} (S2 : SI K mg Wx μ2 st2 hid fr2 σ2 H2) (h : unlkN n st2 = some st3) (hd : μ2[n]? = some d) (hH : H2 d = some (.frz od u)) : SI K mg Wx μ2 st3 hid fr2 σ2 (upd H2 d u) := by
  obtain ⟨k3, e⟩ := unlkN_at S2.sto h hd hH
  exact ⟨k3, S2.len, fun j w h => by rw [e]; exact S2.loc j w h, by rw [e]; exact S2.ex⟩
theorem dkn_nf {wo : World} {d : Addr} {xs : List NEnt} : ∀ o z, DkN wo d xs ≠ .frz o z := fun o z q => by unfold DkN at q; cases q
end
section
variable {X : Cx} {Wx : Wish}
theorem sv_lockN {i : Nat} {st : Stmt} {s : SSem} (h : SV X Wx st s) : SV X Wx st (sLockN i s) := PSm (PSor (ps_lock h) h) fun D σ H ⟨μ, st, hid, fr, S, P⟩ => by
  unfold sLockN at P
  split at P
  · rename_i n hf
    split at P
    · rename_i wo ks ws hn
      obtain ⟨d, xs, h1, h2, h4, h5⟩ := S.lockX9 hf hn
      refine .inl ⟨d, _, h4, True.intro, fun od => ?_⟩
      obtain ⟨S1, e1⟩ := h5 od
      refine ⟨μ, _, hid, fr, S1, ?_⟩
      have at2 : ∀ {μ2 : List Addr} {st2 : Sto} {H2 : Hp}, Grow hid μ (st.set n (.nct true wo ks ws)) (upd H d (.frz od (DkN wo d xs))) μ2 st2 H2 → μ2[n]? = some d ∧ H2 d = some (.frz od (DkN wo d xs)) := fun g => ⟨g.pre.get h1, g.lck _ _ _ upd_same⟩
      cases e : s fr (st.set n (.nct true wo ks ws)) with
      | bad => rw [e] at P; exact P
      | er x f s => rw [e] at P; exact False.elim P
      | nx f2 st2 =>
        rw [e] at P
        intro μ2 σ2 H2 S2 g
        obtain ⟨a1, a2⟩ := at2 g
        refine ⟨a2, ?_⟩
        cases eu : unlkN n st2 with
        | none => simp only [unlNS, eu] at P; exact False.elim P
        | some st3 =>
          simp only [unlNS, eu] at P
          exact P μ2 σ2 _ (S2.freeN eu a1 a2) (grow_lock (n := n) e1 h2 h4 dkn_nf rfl g (unlkN_at S2.sto eu a1 a2).2)
      | bk f2 st2 =>
        rw [e] at P
        intro μ2 σ2 H2 S2 g
        obtain ⟨a1, a2⟩ := at2 g
        refine ⟨a2, ?_⟩
        cases eu : unlkN n st2 with
        | none => simp only [unlNS, eu] at P; exact False.elim P
        | some st3 =>
          simp only [unlNS, eu] at P
          exact P μ2 σ2 _ (S2.freeN eu a1 a2) (grow_lock (n := n) e1 h2 h4 dkn_nf rfl g (unlkN_at S2.sto eu a1 a2).2)
      | ct f2 st2 =>
        rw [e] at P
        intro μ2 σ2 H2 S2 g
        obtain ⟨a1, a2⟩ := at2 g
        refine ⟨a2, ?_⟩
        cases eu : unlkN n st2 with
        | none => simp only [unlNS, eu] at P; exact False.elim P
        | some st3 =>
          simp only [unlNS, eu] at P
          exact P μ2 σ2 _ (S2.freeN eu a1 a2) (grow_lock (n := n) e1 h2 h4 dkn_nf rfl g (unlkN_at S2.sto eu a1 a2).2)
      | rt w st2 =>
        rw [e] at P
        intro μ2 H2 v k2 g r2
        obtain ⟨a1, a2⟩ := at2 g
        refine ⟨a2, ?_⟩
        cases eu : unlkN n st2 with
        | none => simp only [unlNS, eu] at P; exact False.elim P
        | some st3 =>
          simp only [unlNS, eu] at P
          obtain ⟨k3, e3⟩ := unlkN_at k2 eu a1 a2
          exact P μ2 _ v k3 (grow_lock (n := n) e1 h2 h4 dkn_nf rfl g e3) (by rw [e3]; exact r2)
    · exact .inr ⟨μ, st, hid, fr, S, P⟩
    · exact P.elim
  · exact P.elim
/-- an iterator over the keys, of whatever world -/
theorem iv_keysN {i : Nat} {x : Str} {tg : Expr} {pos : Pos} (he : EV X Wx (.Name x pos) (eVar i)) : IV X Wx tg (.Name x pos) (iKeysN i) := PIm (pi_keysNA he) fun σ H R ⟨μ, st, hid, fr, S, P⟩ => by
  unfold iKeysN at P
  split at P
  · rename_i n hf
    split at P
    · rename_i wo ks ws hn
      split at P
      · rename_i hl
        refine ⟨μ, st, hid, fr, S, ?_⟩
        have ev : eVar i fr st = .ok (.cell n) st := by unfold eVar; rw [hf]
        rw [ev]
        intro μ1 H1 v k1 g1 r1
        obtain ⟨d, rfl, h1, xs, ⟨o, c3⟩, kn, rr⟩ := k1.cell hn r1
        have hz := kn.1
        refine ⟨d, o, wo, xs, rfl, c3, P μ1 H1 _ k1 g1 ?_⟩
        exact {
          len := le_line hl
          go := fun hid μ st H j k l p q s hj => ⟨q _ _ _ c3, by rw [← hz]; exact hj⟩
          yld := fun hid μ st H j v H' k l p q s hj y => by
            obtain ⟨rfl, e, e1, rfl⟩ := y
            refine ⟨k, .refl, ks[j], List.getElem?_eq_getElem hj, ?_⟩
            exact Rep.mono l p _ _ (kn.2 j ks[j] e (List.getElem?_eq_getElem hj) e1).2
          stop := fun hid μ st H j k l p q s hj => ⟨q _ _ _ c3, by rw [← hz]; exact hj⟩ }
      · exact P.elim
    · exact P.elim
  · exact P.elim
end
end SL

namespace L2
open PySem PySem.Spec PyProof.Rows
/-! # isinstance(x, C) where x may be a dict with keys of several kinds -/
def rIsiN (K : PySem.W.Frag) : List V → Hp → VK → Prop := fun xs H Q => ∃ (d : Addr) (wo : World) (ks : List SL.NEnt) (n : String) (b : Bool), xs = [.ref d, .ty n] ∧ Rd H d (SL.DkN wo d ks) ∧ PySem.W.kitOne K (.type "dict") (.type n) = some b ∧ Q (.bl b) H
theorem call_isiN {X : Cx} : CallR X (.builtin "isinstance") (rIsiN X.K) := by
  intro pins s σ H xs us Q I r h
  obtain ⟨d, wo, ks, n, b, rfl, rd, e, q⟩ := h
  obtain ⟨u1, u2, rfl, r1, r2⟩ := vals2 r
  cases (show u1 = Value.ref d from r1)
  have e2 : u2 = Value.type n := r2
  subst e2
  obtain ⟨⟨_, _, _, _, o, _, _, h1, h2, _⟩, _⟩ := rd.ok I.hok
  exact PySem.W.kia_one PySem.W.kitx_dict I.kIn ⟨o, h1, h2.1⟩ e (fun z => nomatch z) fun tk => ⟨.bl b, H, I.tok tk, rfl, q⟩
end L2
namespace SL
open PySem PySem.Spec PyProof.Rows L2
def rIsiAN (K : PySem.W.Frag) : List V → Hp → VK → Prop := fun vs H Q => rIsiAll K vs H Q ∨ rIsiN K vs H Q
/-- isinstance of data, and of a dict with keys of several kinds -/
def oIsiN : OpN := fun ws st => match ws with
  | [.cell k, .ty n] => (match st[k]? with
    | some (.nct _ _ _ _) => if tyN n = true then .ok (.bl (subT "dict" n)) st else .bad
    | _ => oIsi [.cell k, .ty n] st)
  | _ => oIsi ws st
section
variable {X : Cx}
theorem cr_isiN : CallR X (.builtin "isinstance") (rIsiAN X.K) := cr_isi.or call_isiN
theorem os_isiN : OpNS X oIsiN (rIsiAN X.K) := by
  intro Wx hid μ st σ H Q ws vs k r P
  unfold oIsiN at P
  split at P
  · rename_i j n
    split at P
    · rename_i l wo ks ws' e
      split at P
      · rename_i hn
        obtain ⟨v, z, rfl, r1, r2⟩ := reps2 r
        obtain ⟨a, rfl, _, xs, dd, _, _⟩ := k.cell e r1
        rw [rep_ty_inv r2]
        have rd : Rd H a (DkN wo a xs) := by
          cases l with
          | true => obtain ⟨o, q⟩ := dd; exact .inr ⟨o, q⟩
          | false => exact .inl dd
        exact .inr ⟨a, wo, xs, n, _, rfl, rd, kit_sub (by decide) hn, P μ H _ k .refl rep_bl⟩
      · exact P.elim
    · exact .inl (os_isi _ hid μ st σ H Q _ vs k r P)
  · exact .inl (os_isi _ hid μ st σ H Q _ vs k r P)
@[simp] theorem isiN_data {x : W} {n : String} {st : Sto} (h : ∀ k, x ≠ .cell k) : oIsiN [x, .ty n] st = oIsi [x, .ty n] st := by
  cases x <;> first | rfl | exact absurd rfl (h _)
theorem isiN_nct {k : Nat} {l : Bool} {wo : World} {ks vs : List W} {st : Sto} (h : st[k]? = some (.nct l wo ks vs)) : oIsiN [.cell k, .ty "dict"] st = .ok (.bl true) st := by
  show (match st[k]? with
    | some (.nct _ _ _ _) => if tyN "dict" = true then Out.ok (W.bl (subT "dict" "dict")) st else .bad
    | _ => oIsi [.cell k, .ty "dict"] st) = _
  rw [h]; rfl
end
end SL

namespace SLm
open PySem PySem.Spec PyProof.Rows
/-! # len(d) of a dict with keys of several kinds -/
section
variable {P : Program} {w : World} {A : Around} {E : Value → Shared → Prop} {s : Shared} {d : Addr} {es : Array DictEntry} {ep : Nat}
theorem raw_len {Q : Value → Shared → Prop} (hd : (d == sysModules) = false) (hm : s.heap.DictRaw d es ep) (fit : es.size ≤ sizeLine) (h : Q (.int es.size (s.toks + 1)) { s with toks := s.toks + 1 + 1 }) : wpAny (model P w) A (call (.builtin "len") [.ref d]) Q E s := by
  have ty := hm.typeIs
  have f2 : (es.size : Int) < 2 ^ 63 := by rw [sizeLine_eq] at fit; omega
  refine Calls.call_function_entry kind_len plain_len entry_len (args_len1 _) ?_
  unfold Builtin.«len»
  refine wpAny_bind (m := oneArg "len" _) (wpAny_pure ?_)
  refine wpAny_bind (m := callSpecial? (.ref d) (Str.ofString "__len__")) (wpAny_callSpecial?_slot (name := Str.ofString "__len__") ty F.slot_dict_len (call_meetsIn F.slot_dict_len ty F.entry_dict_len (F.args_dict_len_1 _) (meets_dict_len_raw d hd) ⟨es, ep, hm, ?_⟩))
  show wpAny _ _ _ _ _ { s with toks := s.toks + 1 }
  refine wpAny_bind (wpAny_holding (wpAny_pure ?_))
  refine wpAny_bind (wpAny_letGo ?_)
  show wpAny _ _ (if ((es.size : Nat) : Int) < 0 then _ else _) _ _ _
  rw [if_neg (by omega)]
  show wpAny _ _ (if ((es.size : Nat) : Int) ≥ 2 ^ 63 then _ else _) _ _ _
  rw [if_neg (by omega)]
  exact wpAny_bind (wpAny_mkInt (wpAny_pure ⟨_, rfl, h⟩))
end
end SLm
namespace L2
open PySem PySem.Spec PyProof.Rows
theorem dkn_raw {P : Program} {w : World} {H : Hp} {h : Heap} (ok : HOk P w H h) {wo : World} {d : Addr} {xs : List SL.NEnt} (rd : Rd H d (SL.DkN wo d xs)) : (d == sysModules) = false ∧ xs.length ≤ sizeLine ∧ ∃ es ep, h.DictRaw d es ep ∧ es.size = xs.length := by
  obtain ⟨⟨h1, h2, ys, p, o, es, ep, g1, g2, g3, g4, g5⟩, _⟩ := rd.ok ok
  refine ⟨h1, h2, es, ep, ⟨o, g1, g2, g3⟩, ?_⟩
  rw [← Array.length_toList, g4, List.length_map, Paired.length p]
def rNLen : List V → Hp → VK → Prop := fun vs H Q => ∃ (d : Addr) (wo : World) (xs : List SL.NEnt), vs = [.ref d] ∧ Rd H d (SL.DkN wo d xs) ∧ Q (.int xs.length) H
theorem cr_nlen {X : Cx} : CallR X (.builtin "len") rNLen := by
  intro pins s σ H vs us Q J r hq
  obtain ⟨d, wo, xs, rfl, rd, q⟩ := hq
  rw [Vals.ref1 r]
  obtain ⟨h1, h2, es, ep, raw, sz⟩ := dkn_raw J.hok rd
  refine SLm.raw_len h1 raw (by omega) ?_
  rw [sz]
  exact ⟨.int _, H, J.tok _, ⟨_, rfl⟩, q⟩
end L2
namespace SL
open PySem PySem.Spec PyProof.Rows L2
/-- len of a dict with keys of several kinds -/
def oNLen : OpN := fun ws st => match ws with
  | [.cell k] => (match st[k]? with
    | some (.nct _ _ ks _) => .ok (.int ks.length) st
    | _ => .bad)
  | _ => .bad
theorem os_nlen {X : Cx} : OpNS X oNLen rNLen := by
  intro Wx hid μ st σ H Q ws vs k r P
  unfold oNLen at P
  split at P
  · rename_i j
    split at P
    · rename_i l wo ks ws' e
      obtain ⟨v, rfl, r1⟩ := reps1 (ws := []) r
      obtain ⟨a, rfl, _, xs, dd, kn, _⟩ := k.cell e r1
      have rd : Rd H a (DkN wo a xs) := by
        cases l with
        | true => obtain ⟨o, q⟩ := dd; exact .inr ⟨o, q⟩
        | false => exact .inl dd
      refine ⟨a, wo, xs, rfl, rd, ?_⟩
      rw [← kn.1]
      exact P μ H _ k .refl rep_int
    · exact P.elim
  · exact P.elim
end SL

namespace L2
open PySem PySem.Spec PyProof.Rows
/-! # d.items() of a dict with keys of several kinds -/
def ItNI (wo : World) (d : Addr) (o : Obj) (xs : List SL.NEnt) : It :=
  ⟨fun i H => H d = some (.frz o (SL.DkN wo d xs)) ∧ i < xs.length, fun i H x H' => ∃ (T : Addr) (k : SL.NEnt), xs[i]? = some k ∧ x = .ref T ∧ H T = none ∧ H' = upd H T (.tup [k.2.1, k.2.2]), fun i H => H d = some (.frz o (SL.DkN wo d xs)) ∧ xs.length ≤ i⟩
theorem Inv.frzNI {X : Cx} {pins : List (Addr × Obj)} {σ : St} {H : Hp} {s : Shared} {d : Addr} {o : Obj} {wo : World} {xs : List SL.NEnt} (I : Inv X pins σ H s) (h : H d = some (.frz o (SL.DkN wo d xs))) :
    (d == sysModules) = false ∧ ∃ (es : Array DictEntry) (ep : Nat), o.data = .dict es ep ∧ s.heap.DictRaw d es ep ∧ es.size = xs.length ∧
      ∀ (i : Nat) (k : SL.NEnt), xs[i]? = some k → ∃ en : DictEntry, es[i]? = some en ∧ RelV k.2.1 en.key ∧ RelV k.2.2 en.val := by
  obtain ⟨hd, ⟨hs, hz, ys, sm, o', es, ep, ho, hx, hdt, he, _⟩, _⟩ := I.hok d _ h
  rw [hd] at ho
  cases ho
  have l2 : xs.length = ys.length := Paired.length sm
  have l1 : es.size = ys.length := by rw [← Array.length_toList, he, List.length_map]
  refine ⟨hs, es, ep, hdt, ⟨o, hd, hx, hdt⟩, by omega, fun i k e => ?_⟩
  obtain ⟨y, hy, e1⟩ := same_at sm e
  refine ⟨SL.entN wo y, ?_, e1.2.1, e1.2.2⟩
  rw [← Array.getElem?_toList, he, List.getElem?_map, hy]; rfl
section
variable {P : Program} {w : World} {K : PySem.W.Frag} {d : Addr} {o : Obj} {es : Array DictEntry} {ep : Nat}
theorem turn_itemsN {wo : World} {xs : List SL.NEnt} {elts : List Expr} {kk : Nat} {tpos : Pos} (it : Addr) (hod : o.data = .dict es ep) :
    Turn P w K (.Tuple elts kk tpos) (ItNI wo d o xs) [it] it (fun i h => ∃ ok ov, IsItemIter h it d i xs.length ep ok ov) where
  mem := by simp
  obj := fun i h st b hb => by
    have e : b = it := by simpa using hb
    subst e
    obtain ⟨ok, ov, e⟩ := st
    exact ⟨_, e, fun v z => nomatch z⟩
  keep := fun i h h' st k => let ⟨ok, ov, e⟩ := st; ⟨ok, ov, k it (by simp) _ e⟩
  item := by
    intro X hP hw hK hc i pins s σ H E I hf st hg
    subst hP hw hK
    obtain ⟨hd, hi⟩ := hg
    obtain ⟨hs, es', ep', hdt, raw, hsz, ent⟩ := I.frzNI hd
    obtain ⟨rfl, rfl⟩ := dict_ep hod hdt
    obtain ⟨k, hkv⟩ : ∃ p, xs[i]? = some p := ⟨xs[i], List.getElem?_eq_getElem hi⟩
    obtain ⟨en, hen, rk, rv⟩ := ent i k hkv
    obtain ⟨hil, hen⟩ := Array.getElem?_eq_some_iff.mp hen
    obtain ⟨ok, ov, he⟩ := st
    rw [← hsz] at he
    have hlt : it < s.heap.objs.size := Heap.lt_size he
    refine wpAny_pyNext_items_item_raw he raw hil fun h' ho hT hz hk => ?_
    refine ⟨_, rfl, wpAny_letOwnedTupleGo_items (s := { s with heap := h' }) ho fun h'' he' sb => ?_⟩
    have hT2 : h''.get? s.heap.objs.size = some { cls := .type "tuple", data := .seq #[es'[i].key, es'[i].val] } := (sb.2 _ (Nat.ne_of_gt hlt)).trans hT
    rw [hen] at hT2
    have new : ObjOk X.prog X.w (upd H s.heap.objs.size (.tup [k.2.1, k.2.2])) h'' s.heap.objs.size (.tup [k.2.1, k.2.2]) :=
      ⟨by show 2 ≤ sizeLine; decide, [en.key, en.val], .cons rk (.cons rv .nil), ⟨_, hT2, rfl, _, rfl⟩⟩
    have I1 : Inv X pins σ (upd H s.heap.objs.size (.tup [k.2.1, k.2.2])) { s with heap := h'' } :=
      I.turnedNew (t' := s.toks) (ch := [it]) (fun b ob hb e => (sb.2 b (by simpa using hb)).trans (hk b ob (by simpa using hb) e)) hf (Nat.le_refl _) new
    refine ⟨.ref s.heap.objs.size, _, I1, rfl, ⟨_, k, hkv, rfl, I.hok.fresh (Nat.le_refl _), rfl⟩, ⟨es'[i].key, es'[i].val, ?_⟩, fun b hb => ?_⟩
    · rw [← hsz]; exact he'
    · have e : b = it := by simpa using hb
      rw [e, upd_ne (Nat.ne_of_lt hlt)]
      exact (hf it (by simp)).1
  done := by
    intro X hP hw hK hc i pins s σ H E I hf st hg
    subst hP hw hK
    obtain ⟨hd, hi⟩ := hg
    obtain ⟨f0, f1, f2, f3, f4, f5⟩ := hf it (by simp)
    obtain ⟨hs, es', ep', hdt, raw, hsz, ent⟩ := I.frzNI hd
    obtain ⟨rfl, rfl⟩ := dict_ep hod hdt
    obtain ⟨ok, ov, he⟩ := st
    rw [← hsz] at he
    exact wpAny_pyNext_items_end_raw (I.ok.hd hc) he raw (by omega) fun h' eb => ⟨rfl, I.turned (t' := s.toks) (fun b ob hb e => eb b ob hb e) f0 f1 f3 f4 f5⟩
  self := fun A i s Q E st h => let ⟨_, _, e⟩ := st; PySem.W.kcp_self e h
end
/-- the dict is locked -/
def iItemsNx (td : TE) : TI := fun σ H R => td σ H fun x H1 => ∃ d o wo xs, x = .ref d ∧ H1 d = some (.frz o (SL.DkN wo d xs)) ∧ R (ItNI wo d o xs) H1
theorem pi_itemsNA {X : Cx} {e : Expr} {td : TE} {elts : List Expr} {kk : Nat} {tpos apos cpos : Pos} (he : PE X e td) (hbase : attributeBase e "items" X.env (eval e X.env) = eval e X.env := by rfl) (hline : (apos.endLine == cpos.line) = true := by rfl) :
    PI X (.Tuple elts kk tpos) (.Call (.Attribute e "items" apos) [] [] cpos) (iItemsNx td) := by
  refine ⟨fun pins s σ H R I h => ?_⟩
  refine wpAny_Call_method (T := "dict") (id := "dict.items") hbase rfl hline F.plainAttrs_dict F.slot_dict_items F.type_dict_items (thn (he.run pins s σ H _ I h) fun u s1 ⟨x, H1, I1, rx, d, o, wo, xs, ex, hd, q⟩ => ?_)
  subst ex
  obtain rfl : u = Value.ref d := rx
  obtain ⟨hs, es, ep, hdt, raw, hsz, ent⟩ := I1.frzNI hd
  refine ⟨raw.typeIs, (fun b eb => by
    cases eb
    obtain ⟨ob, h1, h2, h3⟩ := raw
    exact ⟨ob, h1, h2.2.1⟩), ?_⟩
  have I2 : Inv X pins σ H1 { s1 with heap := s1.heap.push { cls := .type "dict_items", data := .fields #[.ref d] } } := I1.kept (t' := s1.toks) fun b ob q => Heap.get?_push_of_some _ q
  have fin : wpAny (model X.prog X.w) X.A (pyIter (.ref s1.heap.objs.size)) (PIE X pins σ (.Tuple elts kk tpos) R) X.xe { s1 with heap := s1.heap.push { cls := .type "dict_items", data := .fields #[.ref d] } } := by
    refine wpAny_pyIter_items_raw (d := d) ⟨_, Heap.get?_push_size _ rfl, rfl, rfl⟩ (raw.push _) (pi_one (tk := s1.toks) I2 _ (turn_itemsN _ hdt) ⟨.none, .none, ?_⟩ q)
    rw [← hsz]
    exact Heap.get?_push_size _ rfl
  show wpAny _ _ (callWith cpos (.builtin "dict.items") [.ref d] [] []) _ X.xe s1
  exact method_meetsIn F.slot_dict_items F.entry_dict_items rfl (PySem.evalArgs_none ⟨rfl, raw.typeIs, F.args_dict_items_1 _, _, meets_dict_items_raw d hs, ⟨⟨es, ep, raw⟩, fin⟩⟩)
end L2
namespace SL
open PySem PySem.Spec PyProof.Rows L2
/-- the entries of the locked dict in slot i -/
def iItemsN (i : Nat) : SemI := fun fr st => match fr[i]? with
  | some (some (.cell n)) => (match st[n]? with
    | some (.nct true _ ks ws) => if ks.length ≤ LINE then .ok (.non, kvT ks ws) st else .bad
    | _ => .bad)
  | _ => .bad
section
variable {X : Cx} {Wx : Wish}
theorem iv_itemsN {i : Nat} {x : Str} {elts : List Expr} {kk0 : Nat} {tpos apos cpos pos : Pos} (he : EV X Wx (.Name x pos) (eVar i)) (hbase : attributeBase (.Name x pos) "items" X.env (eval (.Name x pos) X.env) = eval (.Name x pos) X.env := by rfl) (hline : (apos.endLine == cpos.line) = true := by rfl) : IV X Wx (.Tuple elts kk0 tpos) (.Call (.Attribute (.Name x pos) "items" apos) [] [] cpos) (iItemsN i) := PIm (pi_itemsNA he hbase hline) fun σ H R ⟨μ, st, hid, fr, S, P⟩ => by
  unfold iItemsN at P
  split at P
  · rename_i n hf
    split at P
    · rename_i wo ks ws hn
      split at P
      · rename_i hl
        refine ⟨μ, st, hid, fr, S, ?_⟩
        have ev : eVar i fr st = .ok (.cell n) st := by unfold eVar; rw [hf]
        rw [ev]
        intro μ1 H1 v k1 g1 r1
        obtain ⟨d, rfl, h1, xs, ⟨o, c3⟩, kn, rr⟩ := k1.cell hn r1
        have hz := kn.1
        have hw : ws.length = xs.length := by have := rr.length; rw [List.length_map] at this; exact this
        have hkv : (kvT ks ws).length = ks.length := by unfold kvT; rw [List.length_map, List.length_zip]; omega
        refine ⟨d, o, wo, xs, rfl, c3, P μ1 H1 _ k1 g1 ?_⟩
        exact {
          len := by rw [hkv]; exact le_line hl
          go := fun hid μ st H j k l p q s hj => ⟨q _ _ _ c3, by rw [← hz, ← hkv]; exact hj⟩
          yld := fun hid μ st H j v H' k l p q s hj y => by
            obtain ⟨T, e, e1, rfl, hT, rfl⟩ := y
            rw [hkv] at hj
            have e3 : (xs.map (·.2.2))[j]? = some e.2.2 := by rw [List.getElem?_map, e1]; rfl
            obtain ⟨u, h4, h5⟩ := rr.get' e3
            obtain ⟨k2, g2, e4⟩ := k.laid (o := .tup [e.2.1, e.2.2]) hT
            refine ⟨k2, g2, .tup [ks[j], u], ?_, ?_⟩
            · unfold kvT
              rw [List.getElem?_map, (List.getElem?_zip_eq_some (z := (ks[j], u))).mpr ⟨List.getElem?_eq_getElem hj, h4⟩]; rfl
            · exact rep_tup e4 (.cons ((Rep.mono l p _ _ (kn.2 j ks[j] e (List.getElem?_eq_getElem hj) e1).2).mono g2.le (.refl _)) (.cons ((Rep.mono l p _ _ h5).mono g2.le (.refl _)) .nil))
          stop := fun hid μ st H j k l p q s hj => ⟨q _ _ _ c3, by rw [← hz, ← hkv]; exact hj⟩ }
      · exact P.elim
    · exact P.elim
  · exact P.elim
end
end SL

namespace SLd
open PySem PySem.Spec PyProof.Rows L2
/-! # list(d.values()) of a dict with keys of several kinds -/
section
variable {X : Cx} {e : Expr} {te : TE} {p apos cpos pos : Pos}
theorem dkn_vals {P : Program} {w : World} {H : Hp} {h : Heap} (ok : HOk P w H h) {wo : World} {d : Addr} {xs : List SL.NEnt} (rd : Rd H d (SL.DkN wo d xs)) : (d == sysModules) = false ∧ xs.length ≤ sizeLine ∧ ∃ es ep, h.DictRaw d es ep ∧ es.size = xs.length ∧ ∀ (i : Nat) (k : SL.NEnt), xs[i]? = some k → ∃ en : DictEntry, es[i]? = some en ∧ RelV k.2.2 en.val := by
  obtain ⟨⟨h1, h2, ys, p, o, es, ep, g1, g2, g3, g4, g5⟩, _⟩ := rd.ok ok
  refine ⟨h1, h2, es, ep, ⟨o, g1, g2, g3⟩, by rw [← Array.length_toList, g4, List.length_map, Paired.length p], fun i k hk => ?_⟩
  obtain ⟨y, hy, e1⟩ := same_at p hk
  refine ⟨SL.entN wo y, ?_, e1.2.2⟩
  rw [← Array.getElem?_toList, g4, List.getElem?_map, hy]; rfl
def tListValsN (te : TE) : TE := fun σ H Q => te σ H fun x H1 => ∃ (d : Addr) (wo : World) (xs : List SL.NEnt), x = .ref d ∧ Rd H1 d (SL.DkN wo d xs) ∧ ∀ p, H1 p = none → Q (.ref p) (upd H1 p (.lst (xs.map (·.2.2))))
theorem pe_listValsN (hc : X.calm = true) (he : PE X e te) (hg : Gl X "list") (hm : X.mg "list" = none) (hv : bootBuiltins "list" = some (.type "list")) (hbase : attributeBase e "values" X.env (eval e X.env) = eval e X.env := by rfl) (hline : (apos.endLine == cpos.line) = true := by rfl)
    (hs : starEach [.Call (.Attribute e "values" apos) [] [] cpos] X.env = (false, eval (.Call (.Attribute e "values" apos) [] [] cpos) X.env) :: starEach [] X.env := by rfl) :
    PE X (.Call (.Name "list" p) [.Call (.Attribute e "values" apos) [] [] cpos] [] pos) (tListValsN te) := by
  refine ⟨fun pn s σ H Q J post => ?_⟩
  refine wpAny_Call_Name_kw (ld_blt J hg hm hv ?_)
  refine PyProof.Rows.callWith_type1 ?_ hs rfl
  rw [hs]
  show wpAny _ _ (spliced ((false, eval (.Call (.Attribute e "values" apos) [] [] cpos) X.env) :: backTo pos (starEach [] X.env))) _ _ s
  refine Calls.spliced_cons ?_
  refine wpAny_Call_method (T := "dict") (id := "dict.values") hbase rfl hline F.plainAttrs_dict F.slot_dict_values F.type_dict_values (thn (he.run pn s σ H _ J post) fun u s1 ⟨x, H1, J1, ru, d, wo, xs, ex, hd, q⟩ => ?_)
  subst ex
  obtain rfl : u = Value.ref d := ru
  obtain ⟨hs0, hz, es, ep, raw, sz, ent⟩ := dkn_vals J1.hok hd
  have J2 : Inv X pn σ H1 { s1 with heap := s1.heap.push { cls := .type "dict_values", data := .fields #[.ref d] } } := J1.kept (t' := s1.toks) fun b ob q => Heap.get?_push_of_some _ q
  refine ⟨raw.typeIs, fun b eb => by cases eb; obtain ⟨o, ho, hxd, _⟩ := raw; exact ⟨o, ho, hxd.2.1⟩, ?_⟩
  show wpAny _ _ (callWith cpos (.builtin "dict.values") [.ref d] [] []) _ X.xe s1
  refine method_meetsIn F.slot_dict_values F.entry_dict_values rfl (PySem.evalArgs_none ⟨rfl, raw.typeIs, F.args_dict_values_1 _, _, meets_dict_values_raw d hs0, ⟨⟨es, ep, raw⟩, ?_⟩⟩)
  refine Calls.spliced_nil ?_
  refine PySem.W.kdl_call (PySem.KdlSrc.rawValues (r := s1.heap.objs.size) (d := d) (es := es) (ep := ep)) (J1.ok.hd hc) ⟨⟨_, Heap.get?_push_size _ rfl, rfl, rfl⟩, raw.push _⟩ (by omega) fun h' tk acc' c' hkeep hS hacc => ?_
  refine ⟨.ref _, upd H1 _ (.lst (xs.map (·.2.2))), J2.laid hkeep (Nat.le_refl _) (show ObjOk X.prog X.w _ _ _ (.lst (xs.map (·.2.2))) from ⟨?_, acc'.toList, c', ?_, ?_⟩), rfl, q _ (J2.hok.fresh (Nat.le_refl _))⟩
  · rw [List.length_map]; exact hz
  · have el : acc'.toList.length = acc'.size := by simp
    refine vals_of_at (by rw [List.length_map, el, hacc.1, sz]) fun j x w h1 h2 => ?_
    obtain ⟨hj, hky⟩ := hacc.2 j w (by rw [← Array.getElem?_toList]; exact h2)
    rw [List.getElem?_map] at h1
    obtain ⟨k, h3, rfl⟩ := Option.map_eq_some_iff.mp h1
    obtain ⟨en, h4, rv⟩ := ent j k h3
    rw [Array.getElem?_eq_getElem hj] at h4
    rw [hky, Option.some.inj h4]
    exact rv
  · rw [Array.toArray_toList]; exact hS
end
end SLd
namespace SL
open PySem PySem.Spec PyProof.Rows L2
def eListVN (f : Sem) : Sem := fun fr st => (f fr st).bind fun x st1 => match x with
  | .cell k => (match st1[k]? with
    | some (.nct _ _ _ us) => .ok (.lst us) st1
    | _ => .bad)
  | _ => .bad
section
variable {X : Cx} {Wx : Wish}
theorem ev_listVN {e : Expr} {f : Sem} {p apos cpos pos : Pos} (hc : X.calm = true) (hm : X.mg "list" = none) (he : EV X Wx e f) (hg : Gl X "list" := by rfl) (hv : bootBuiltins "list" = some (.type "list") := by decide +kernel) (hbase : attributeBase e "values" X.env (eval e X.env) = eval e X.env := by rfl) (hline : (apos.endLine == cpos.line) = true := by rfl)
    (hs : starEach [.Call (.Attribute e "values" apos) [] [] cpos] X.env = (false, eval (.Call (.Attribute e "values" apos) [] [] cpos) X.env) :: starEach [] X.env := by rfl) :
    EV X Wx (.Call (.Name "list" p) [.Call (.Attribute e "values" apos) [] [] cpos] [] pos) (eListVN f) :=
  PEm (SLd.pe_listValsN hc he hg hm hv hbase hline hs) fun σ H Q ⟨μ, st, hid, fr, S, P⟩ => by
    unfold SLd.tListValsN
    refine ⟨μ, st, hid, fr, S, ?_⟩
    unfold eListVN at P
    cases h : f fr st with
    | bad => rw [h] at P; exact P
    | err x s => rw [h] at P; exact P
    | ok w st1 =>
      rw [h, Out.bind_ok] at P
      intro μ1 H1 v k1 g1 r1
      have P1 := EPost.from g1 P
      split at P1
      · rename_i n
        split at P1
        · rename_i l wo ks us e
          obtain ⟨a, rfl, _, xs, dd, kn, rr⟩ := k1.cell e r1
          have rd : Rd H1 a (DkN wo a xs) := by
            cases l with
            | true => obtain ⟨o, q⟩ := dd; exact .inr ⟨o, q⟩
            | false => exact .inl dd
          refine ⟨a, wo, xs, rfl, rd, fun q post => ?_⟩
          refine ok_new P1 k1 post fun F l e => rep_lst e ?_
          exact rr.mono l (.refl _)
        · exact P1.elim
      · exact P1.elim
end
end SL

namespace L2
open PySem PySem.Spec PyProof.Rows
/-! # a dict with plain keys, seen as one with keys of several kinds -/
def keyN : Key → NestedKey
  | .inl i => .num i
  | .inr x => .text x
theorem keyN_inj {a b : Key} (h : keyN a = keyN b) : a = b := by
  cases a <;> cases b <;> cases h <;> rfl
def nOf (kvs : List (Key × V)) : List SL.NEnt := kvs.map fun p => (keyN p.1, kV p.1, p.2)
section
variable {P : Program} {w : World}
theorem keyN_hash (k : Key) : (keyN k).hash w = (mixKind P w).hash k := by cases k <;> rfl
theorem mk_ys : ∀ {es : List DictEntry} {vs : List (Key × Value)} {kvs : List (Key × V)}, PySem.Pairs (mixKind P w) es vs → KV kvs vs → (∀ e ∈ es, ∃ k, (mixKind P w).is k e.key = true ∧ e.hash = (mixKind P w).hash k) → ∃ ys : List SLm.EMix, Paired SL.SameN (nOf kvs) ys ∧ es = ys.map (SL.entN w) ∧ ys.map (·.1) = (vs.map (·.1)).map keyN
  | _, _, _, .nil, .nil, _ => ⟨[], .nil, rfl, rfl⟩
  | e :: es, kv :: vs, p :: kvs, .cons hp hv r, .cons hk t, h => by
    obtain ⟨ys, a, b, c⟩ := mk_ys r t fun x hx => h x (List.mem_cons_of_mem _ hx)
    obtain ⟨k, h1, h2⟩ := h e List.mem_cons_self
    have ek : k = kv.1 := (mixKind P w).inj _ _ _ h1 hp
    subst ek
    obtain ⟨k1, k2⟩ := hk
    refine ⟨(keyN kv.1, e.key, e.val) :: ys, .cons ⟨by rw [← k1], ?_, by rw [hv]; exact k2⟩ a, ?_, ?_⟩
    · show RelV (kV p.1) e.key
      rw [k1]
      exact relV_key hp
    · rw [List.map_cons, ← b]
      congr 1
      obtain ⟨eh, ek, ev⟩ := e
      show DictEntry.mk eh ek ev = ⟨(keyN kv.1).hash w, ek, ev⟩
      have h2 : eh = (mixKind P w).hash kv.1 := h2
      rw [h2, keyN_hash (P := P)]
    · rw [List.map_cons, List.map_cons, List.map_cons, c]
theorem dkn_from {H : Hp} {h : Heap} {a : Addr} {kvs : List (Key × V)} (x : ObjOk P w H h a (.dK kvs)) (H' : Hp) : ObjOk P w H' h a (SL.DkN w a (nOf kvs)) := by
  obtain ⟨z, hs, vs, kv, o, es, ep, ho, hx, hdat, hk, hp, hn⟩ := x
  obtain ⟨ys, p1, p2, p3⟩ := mk_ys hp kv fun e he => hk e (Array.mem_toList_iff.mp he)
  refine ⟨⟨hs, by unfold nOf; rw [List.length_map]; exact z, ys, p1, o, es, ep, ho, hx, hdat, p2, ?_⟩, ⟨o, ho⟩, fun _ _ x k => SL.dkn_stay x k⟩
  rw [p3]
  have hn := List.nodup_iff_pairwise_ne.mp hn
  refine List.nodup_iff_pairwise_ne.mpr ?_
  rw [List.pairwise_map]
  exact hn.imp fun hne e => hne (keyN_inj e)
end
/-- the dict that td tells is seen anew -/
def tAsN (w : World) (td : TE) : TE := fun σ H Q => td σ H fun x H1 => ∃ (d : Addr) (kvs : List (Key × V)), x = .ref d ∧ H1 d = some (.dK kvs) ∧ Q x (upd H1 d (SL.DkN w d (nOf kvs)))
theorem pe_asN {X : Cx} {e : Expr} {td : TE} (he : PE X e td) : PE X e (tAsN X.w td) := by
  refine ⟨fun pins s σ H Q I h => ?_⟩
  refine thn (he.run pins s σ H _ I h) fun u s1 ⟨x, H1, I1, rx, d, kvs, ex, hd, q⟩ => ?_
  have ob := I1.hok d _ hd
  have hg : ∃ u, s1.heap.get? d = some u := by
    obtain ⟨_, _, _, _, o, _, _, ho, _⟩ := id ob
    exact ⟨o, ho⟩
  have I2 : Inv X pins σ (upd H1 d (SL.DkN X.w d (nOf kvs))) { s1 with heap := s1.heap, toks := s1.toks } := I1.write (x := d) (e := d) (by rw [hd]; exact True.intro) (.inl rfl) (fun b v _ z => z) hg (dkn_from ob _)
  exact ⟨x, _, I2, rx, q⟩
end L2
namespace SL
open PySem PySem.Spec PyProof.Rows L2
/-- the same dict, from here on one with keys of several kinds; f hands back a fresh dict, the last cell -/
noncomputable def eAsN (w : World) (f : Sem) : Sem := fun fr st => (f fr st).bind fun x st1 => match x with
  | .cell k => (match st1[k]? with
    | some (.dct ks us) => (match mapO keyW ks with
      | some _ => .ok (.cell k) (st1.set k (.nct false w ks us))
      | none => .bad)
    | _ => .bad)
  | _ => .bad
section
variable {K : PySem.W.Frag} {mg : Str → Option Value} {F : Hp} {μ : List Addr}
theorem mapO_head {α β : Type} {f : α → Option β} {a : α} {l : List α} {bs : List β} (h : mapO f (a :: l) = some bs) : ∃ b r, f a = some b ∧ mapO f l = some r ∧ bs = b :: r := by
  unfold mapO at h
  cases e1 : f a with
  | none => rw [e1] at h; cases h
  | some b =>
    cases e2 : mapO f l with
    | none => rw [e1, e2] at h; cases h
    | some r => rw [e1, e2] at h; cases h; exact ⟨b, r, rfl, rfl, rfl⟩
theorem keyW_M {k : W} {key : Key} (h : keyW k = some key) : nkeyM k = some (keyN key) := by
  cases k <;> first | (cases h; rfl) | cases h
theorem kn_plain {ks : List W} {kk : List Key} {vs : List V} (h : mapO keyW ks = some kk) (hl : kk.length = vs.length) : KN K mg F μ ks (nOf (kk.zip vs)) := by
  have kl := mapO_len h
  refine ⟨by unfold nOf; rw [List.length_map, List.length_zip]; omega, fun i k x a b => ?_⟩
  unfold nOf at b
  rw [List.getElem?_map] at b
  obtain ⟨p, hp, rfl⟩ := Option.map_eq_some_iff.mp b
  rw [List.getElem?_zip_eq_some] at hp
  have e := mapO_get h a hp.1
  exact ⟨keyW_M e, rep_key e⟩
end
section
variable {X : Cx} {Wx : Wish} {w : World}
theorem ev_asN {e : Expr} {f : Sem} (hw : X.w = w) (he : EV X Wx e f) : EV X Wx e (eAsN w f) := PEm (pe_asN he) fun σ H Q ⟨μ, st, hid, fr, S, P⟩ => by
  subst hw
  unfold tAsN
  refine ⟨μ, st, hid, fr, S, ?_⟩
  unfold eAsN at P
  cases h : f fr st with
  | bad => rw [h] at P; exact P
  | err x s => rw [h] at P; exact P
  | ok w st1 =>
    rw [h, Out.bind_ok] at P
    intro μ1 H1 v k1 g1 r1
    have P1 := EPost.from g1 P
    split at P1
    · rename_i n
      split at P1
      · rename_i ks us e1
        split at P1
        · rename_i kk hk
          obtain ⟨a, rfl, h1, vs, ⟨l, q, c1, c2, c3⟩, h3⟩ := k1.cell e1 r1
          rw [kind_plain hk] at c1
          cases c1
          have c2' : kk.length = vs.length := c2
          have c3' : H1 a = some (.dK (kk.zip vs)) := c3
          refine ⟨a, kk.zip vs, rfl, c3', ?_⟩
          have rr : Reps X.K X.mg (Fz μ1 st1 hid H1) μ1 us ((nOf (kk.zip vs)).map (·.2.2)) := by
            unfold nOf
            rw [List.map_map]
            show Reps _ _ _ _ us ((kk.zip vs).map (·.2))
            rw [zip_snd kk vs c2']
            exact h3
          have ul : (Cel.dct ks us).unl = true := by
            cases ks with
            | nil => rfl
            | cons k r =>
              obtain ⟨b, _, hb, _, _⟩ := mapO_head hk
              cases k <;> first | rfl | cases hb
          obtain ⟨k2, g4⟩ := k1.setCell (c' := .nct false X.w ks us) (o := DkN X.w a (nOf (kk.zip vs))) h1 e1 rfl rfl ⟨_, upd_same, kn_plain hk c2', rr⟩ ul
          refine P1 _ _ _ k2 g4 ?_
          unfold Rep
          exact ⟨a, h1, rfl⟩
        · exact P1.elim
      · exact P1.elim
    · exact P1.elim
end
end SL

namespace L2
open PySem PySem.Spec PyProof.Rows
/-! # .. and back -/
section
variable {P : Program} {w : World}
theorem is_kV {k : Key} {u : Value} (h : RelV (kV k) u) : (mixKind P w).is k u = true := by
  cases k with
  | inl i => obtain ⟨t, rfl⟩ := (show ∃ t, u = Value.int i t from h); show keyIs (.inl i) (.int i t) = true; simp [keyIs, Value.isInt]
  | inr x => obtain ⟨t, rfl⟩ := (show ∃ t, u = Value.str x t from h); show keyIs (.inr x) (.str x t) = true; simp [keyIs, Value.isStrOf]
theorem of_ys : ∀ {kvs : List (Key × V)} {ys : List SLm.EMix}, Paired SL.SameN (nOf kvs) ys → ∃ vs : List (Key × Value), KV kvs vs ∧ PySem.Pairs (mixKind P w) (ys.map (SL.entN w)) vs ∧ (∀ e ∈ ys.map (SL.entN w), ∃ k, (mixKind P w).is k e.key = true ∧ e.hash = (mixKind P w).hash k) ∧ ys.map (·.1) = (vs.map (·.1)).map keyN
  | [], _, .nil => ⟨[], .nil, .nil, fun _ h => (nomatch h), rfl⟩
  | p :: kvs, y :: ys, .cons ⟨h1, h2, h3⟩ t => by
    obtain ⟨vs, a, b, c, d⟩ := of_ys t
    have i := is_kV (P := P) (w := w) h2
    refine ⟨(p.1, y.2.2) :: vs, .cons ⟨rfl, h3⟩ a, .cons i rfl b, fun e he => ?_, by rw [List.map_cons, List.map_cons, List.map_cons, d, ← h1]⟩
    rcases List.mem_cons.mp he with rfl | he
    · refine ⟨p.1, i, ?_⟩
      show y.1.hash w = _
      rw [← h1, keyN_hash (P := P)]
    · exact c e he
theorem dk_from {H : Hp} {h : Heap} {a : Addr} {kvs : List (Key × V)} (x : ObjOk P w H h a (SL.DkN w a (nOf kvs))) (H' : Hp) : ObjOk P w H' h a (.dK kvs) := by
  obtain ⟨⟨hs, z, ys, p1, o, es, ep, ho, hx, hdat, he, hn⟩, _⟩ := x
  obtain ⟨vs, a1, a2, a3, a4⟩ := of_ys (P := P) (w := w) p1
  rw [← he] at a2 a3
  refine ⟨by unfold nOf at z; rw [List.length_map] at z; exact z, hs, vs, a1, o, es, ep, ho, hx, hdat, fun e he => a3 e (Array.mem_toList_iff.mpr he), a2, ?_⟩
  rw [a4] at hn
  have hn := List.nodup_iff_pairwise_ne.mp hn
  rw [List.pairwise_map] at hn
  exact List.nodup_iff_pairwise_ne.mpr (hn.imp fun hne e => hne (by rw [e]))
end
/-- sorted(d) of texts, d a dict of the several kinds -/
def rSortN (w : World) : List V → Hp → VK → Prop := fun xs H Q => ∃ (a : Addr) (kvs : List (Key × V)) (ks : List Str), xs = [.ref a] ∧ H a = some (SL.DkN w a (nOf kvs)) ∧ kvs.map (·.1) = ks.map Sum.inr ∧ ks.length < 64 ∧ ∀ ys p, ys.Perm ks → sortedS ys = true → H p = none → Q (.ref p) (upd H p (.lst (ys.map V.str)))
theorem cr_sortN {X : Cx} (hc : X.calm = true) : CallR X (.builtin "sorted") (rSortN X.w) := by
  intro pins s σ H xs us Q I r q
  obtain ⟨a, kvs, ks, rfl, hd, hk, h64, q⟩ := q
  have ob := I.hok a _ hd
  have hg : ∃ u, s.heap.get? a = some u := by
    obtain ⟨⟨_, _, _, _, o, _, _, ho, _⟩, _⟩ := id ob
    exact ⟨o, ho⟩
  have I2 : Inv X pins σ (upd H a (.dK kvs)) { s with heap := s.heap, toks := s.toks } := I.write (x := a) (e := a) (by rw [hd]; exact True.intro) (.inl rfl) (fun b v _ z => z) hg (dk_from ob _)
  refine thn (call_sortedD hc pins s σ (upd H a (.dK kvs)) [.ref a] us (fun v G => ∃ ys p, v = .ref p ∧ ys.Perm ks ∧ sortedS ys = true ∧ H p = none ∧ p ≠ a ∧ G = upd (upd H a (.dK kvs)) p (.lst (ys.map V.str))) I2 r ⟨a, kvs, ks, rfl, .inl upd_same, hk, h64, fun ys p h1 h2 h3 => ?_⟩) fun u s1 hp => ?_
  · have pa : p ≠ a := fun e => by rw [e, upd_same] at h3; cases h3
    rw [upd_ne pa] at h3
    exact ⟨ys, p, rfl, h1, h2, h3, pa, rfl⟩
  · obtain ⟨v, G, IG, rv, ys, p, rfl, h1, h2, h3, pa, rfl⟩ := hp
    have ha : upd (upd H a (.dK kvs)) p (.lst (ys.map V.str)) a = some (.dK kvs) := by rw [upd_ne (Ne.symm pa), upd_same]
    have ob2 := IG.hok a _ ha
    have hg2 : ∃ u, s1.heap.get? a = some u := by
      obtain ⟨_, _, _, _, o, _, _, ho, _⟩ := id ob2
      exact ⟨o, ho⟩
    have I3 : Inv X pins σ (upd (upd (upd H a (.dK kvs)) p (.lst (ys.map V.str))) a (SL.DkN X.w a (nOf kvs))) { s1 with heap := s1.heap, toks := s1.toks } := IG.write (x := a) (e := a) (by rw [ha]; exact True.intro) (.inl rfl) (fun b v _ z => z) hg2 (dkn_from ob2 _)
    have eH : upd (upd (upd H a (.dK kvs)) p (.lst (ys.map V.str))) a (SL.DkN X.w a (nOf kvs)) = upd H p (.lst (ys.map V.str)) := by
      funext b
      by_cases e1 : b = a
      · subst e1; rw [upd_same, upd_ne (Ne.symm pa), hd]
      · rw [upd_ne e1]
        by_cases e2 : b = p
        · subst e2; rw [upd_same, upd_same]
        · rw [upd_ne e2, upd_ne e2, upd_ne e1]
    rw [eH] at I3
    exact ⟨_, _, I3, rv, q ys p h1 h2 h3⟩
end L2
namespace SL
open PySem PySem.Spec PyProof.Rows L2
noncomputable def oSortN (w : World) : OpN := fun ws st => match ws with
  | [.cell k] => (match st[k]? with
    | some (.nct false wo ks _) => if dec (wo = w) = true then (match mapO keyW ks with
      | some kk => (match txtKs kk with
        | some xs => if xs.length < 64 then .ok (.lst ((sortS xs).map .str)) st else .bad
        | none => .bad)
      | none => .bad) else .bad
    | _ => .bad)
  | _ => .bad
section
variable {K : PySem.W.Frag} {mg : Str → Option Value} {F : Hp} {μ : List Addr}
theorem kn_nOf {ks : List W} {kk : List Key} {xs : List NEnt} (kn : KN K mg F μ ks xs) (h : mapO keyW ks = some kk) : xs = nOf (kk.zip (xs.map (·.2.2))) := by
  have kl := mapO_len h
  refine List.ext_getElem? fun i => ?_
  unfold nOf
  rw [List.getElem?_map]
  cases q : xs[i]? with
  | none =>
    have : (kk.zip (xs.map (·.2.2)))[i]? = none := by
      rw [List.getElem?_eq_none_iff] at q ⊢
      rw [List.length_zip, List.length_map]; omega
    rw [this]; rfl
  | some x =>
    have il : i < ks.length := by rw [kn.1]; exact (List.getElem?_eq_some_iff.mp q).1
    obtain ⟨n1, n2⟩ := kn.2 i ks[i] x (List.getElem?_eq_getElem il) q
    have ik : i < kk.length := by omega
    have e1 : kk[i]? = some kk[i] := List.getElem?_eq_getElem ik
    have e2 := mapO_get h (List.getElem?_eq_getElem il) e1
    have z : (kk.zip (xs.map (·.2.2)))[i]? = some (kk[i], x.2.2) := by
      rw [List.getElem?_zip_eq_some]
      exact ⟨e1, by rw [List.getElem?_map, q]; rfl⟩
    rw [z]
    rw [keyW_M e2] at n1
    have v : x.2.1 = kV kk[i] := by
      cases hk : ks[i] with
      | int j =>
        rw [hk] at n2 e2
        have a1 := rep_int_inv n2
        have a2 : Sum.inl j = kk[i] := Option.some.inj e2
        rw [a1, ← a2]; rfl
      | str y =>
        rw [hk] at n2 e2
        have a1 := rep_str_inv n2
        have a2 : Sum.inr y = kk[i] := Option.some.inj e2
        rw [a1, ← a2]; rfl
      | _ => rw [hk] at e2; cases e2
    obtain ⟨a, b, c⟩ := x
    have a1 : keyN kk[i] = a := Option.some.inj n1
    have v : b = kV kk[i] := v
    rw [← a1, v]; rfl
end
theorem os_sortN {X : Cx} {w : World} (hw : X.w = w) : OpNS X (oSortN w) (rSortN X.w) := by
  subst hw
  intro Wx hid μ st σ H Q ws vs k r P
  unfold oSortN at P
  split at P
  · rename_i n
    split at P
    · rename_i wo ks us e
      split at P
      · rename_i hwo
        have hwo := dec_of hwo
        subst hwo
        split at P
        · rename_i kk hk
          split at P
          · rename_i ts ht
            split at P
            · rename_i hl
              obtain ⟨v, rfl, r1⟩ := reps1 (ws := []) r
              obtain ⟨a, rfl, _, xs, dd, kn, rr⟩ := k.cell e r1
              have dd : H a = some (DkN X.w a xs) := dd
              have ex := kn_nOf kn hk
              have kl := mapO_len hk
              have hz : kk.length = (xs.map (·.2.2)).length := by rw [List.length_map, ← kn.1]; exact kl
              refine ⟨a, kk.zip (xs.map (·.2.2)), ts, rfl, by rw [← ex]; exact dd, by rw [zip_fst kk _ hz]; exact txtKs_eq ht, hl, fun ys p pm sr hp => ?_⟩
              have e2 : ys = sortS ts := sortS_of pm sr
              rw [e2]
              refine ok_new P k hp fun F l e => rep_lst e ?_
              exact reps_strs _
            · exact P.elim
          · exact P.elim
        · exact P.elim
      · exact P.elim
    · exact P.elim
  · exact P.elim
end SL

namespace SL
open PySem PySem.Spec PyProof.Rows L2
def top (i : Nat) : Stmt := PySem.Challenge.pw_surelabels_k04_wrong_books.main.body.getD i (.Pass ⟨0, 0, 0, 0⟩)
def inCls (st : Stmt) (i : Nat) : Stmt := match st with
  | .ClassDef _ _ _ b _ _ _ _ _ _ _ => b.getD i (.Pass ⟨0, 0, 0, 0⟩)
  | _ => .Pass ⟨0, 0, 0, 0⟩
abbrev s_law_draw : Stmt := top 18
abbrev s_law_power : Stmt := top 20
abbrev s_law_row_of : Stmt := top 21
abbrev s_law_signs : Stmt := top 19
abbrev s_law_book_model : Stmt := top 22
abbrev s_law_drawn_book : Stmt := top 23
abbrev s_law_is_row : Stmt := top 24
abbrev s_law_is_sign : Stmt := top 25
abbrev s_law_due : Stmt := top 26
abbrev s_law_pool : Stmt := top 17
abbrev s_is_integer : Stmt := top 7
abbrev s_is_between : Stmt := top 8
abbrev s_is_row : Stmt := top 9
abbrev s_is_sign : Stmt := top 11
abbrev s_are_patterns : Stmt := top 14
abbrev s_is_row_of : Stmt := top 10
abbrev s_Book___init__ : Stmt := inCls (top 15) 0
abbrev s_law_told : Stmt := top 27
abbrev s_law_wrong_row : Stmt := top 28
abbrev s_law : Stmt := top 29
abbrev s_init_BadBook : Stmt := inCls (top 3) 0
def tabL (l : List (Str × Str × Bool)) (a b : Str) : Option Bool := (l.find? fun p => decide (p.1 = a) && decide (p.2.1 = b)).map (·.2.2)
theorem tabL_at {l : List (Str × Str × Bool)} {a b : Str} {r : Bool} (h : tabL l a b = some r) : (a, b, r) ∈ l := by
  unfold tabL at h
  obtain ⟨p, hp, rfl⟩ := Option.map_eq_some_iff.mp h
  have z := List.find?_some hp
  rw [Bool.and_eq_true] at z
  obtain ⟨rfl, rfl⟩ := And.intro (of_decide_eq_true z.1) (of_decide_eq_true z.2)
  exact List.mem_of_find?_eq_some hp
def exL : List (Str × Str × Bool) := [("BadBook", "BadBook", true), ("BadBook", "LabelError", true)]
def exT : ExT := tabL exL
/-! ### what the defs say -/
variable [HW]
noncomputable def B_law_draw : SSem := sSeq (sSub uLst (e2 oAdd (e2 oIx (eVar 0) (eC (.int 3))) (eC (.int 1))) (eVar 0) (eC (.int 3))) (sSeq (sIf (bAnd (bOf (e2 oEq (e2 oIx (eVar 0) (eC (.int 2))) (eC (.int 0)))) (bOf (e2 oLt (e2 oIx (eVar 0) (eC (.int 1))) (eN oLen (aCons (e2 oIx (eVar 0) (eC (.int 0))) (aNil)))))) (sSeq (sAsg (e2 oIx (e2 oIx (eVar 0) (eC (.int 0))) (e2 oIx (eVar 0) (eC (.int 1)))) (gNm 3)) (sSeq (sSub uLst (e2 oAdd (e2 oIx (eVar 0) (eC (.int 1))) (eC (.int 1))) (eVar 0) (eC (.int 1))) (sIf (bOf (e2 oGe (eVar 3) (e2 oPow (eC (.int 10)) (eC (.int 18))))) (sSub uLst (eVar 3) (eVar 0) (eC (.int 2))) (sSub uLst (e2 oMod (eN oInt (aCons (e2 oAdd (e2 oAdd (e2 oMul (e2 oIx (eVar 0) (eC (.int 4))) (eC (.int 37))) (eVar 3)) (eC (.int 4217))) (aNil))) (eC (.int 2147483629))) (eVar 0) (eC (.int 4)))))) (sNil)) (sSeq (sIf (bOf (e2 oGt (e2 oIx (eVar 0) (eC (.int 2))) (eC (.int 0)))) (sSeq (sAsg (e2 oMod (eN oInt (aCons (e2 oIx (eVar 0) (eC (.int 2))) (aNil))) (eVar 1)) (gNm 4)) (sSeq (sSub uLst (e2 oDiv (e2 oIx (eVar 0) (eC (.int 2))) (eVar 1)) (eVar 0) (eC (.int 2))) (sRet (eVar 4)))) (sNil)) (sSeq (sAsg (e2 oMod (eN oInt (aCons (e2 oAdd (e2 oAdd (e2 oMul (e2 oIx (eVar 0) (eC (.int 4))) (eC (.int 48271))) (e2 oMul (e2 oIx (eVar 0) (eC (.int 3))) (eC (.int 110503)))) (eC (.int 6133))) (aNil))) (eC (.int 2147483647))) (gNm 2)) (sSeq (sAsg (e2 oMod (eN oInt (aCons (e2 oMul (eVar 2) (e2 oAdd (e2 oDiv (eVar 2) (eC (.int 1031))) (eC (.int 40014)))) (aNil))) (eC (.int 2147483647))) (gNm 2)) (sSeq (sAsg (e2 oMod (eN oInt (aCons (e2 oMul (eVar 2) (e2 oAdd (e2 oDiv (eVar 2) (eC (.int 2039))) (eC (.int 69621)))) (aNil))) (eC (.int 2147483399))) (gNm 2)) (sRet (e2 oMod (eN oInt (aCons (e2 oDiv (eVar 2) (eC (.int 32))) (aNil))) (eVar 1))))))))
noncomputable def F_law_draw : Fn := mkFn 5 B_law_draw
noncomputable def B_law_power : SSem := sSeq (sAsg (eC (.int 1)) (gNm 1)) (sSeq (sFor (iRng rg1 (aCons (eVar 0) (aNil))) (gNm 2) (sAsg (e2 oAdd (eVar 1) (eVar 1)) (gNm 1))) (sRet (eVar 1)))
noncomputable def F_law_power : Fn := mkFn 3 B_law_power
noncomputable def B_law_row_of : SSem := sSeq (sAsg (eN oCell (aNil)) (gNm 2)) (sSeq (sFor (iRng rg1 (aCons (eVar 1) (aNil))) (gNm 3) (sSeq (sExp (eM isLst mInsert (eVar 2) (aCons (eC (.int 0)) (aCons (e2 oSub (eVar 0) (e2 oMul (e2 oDiv (eVar 0) (eC (.int 2))) (eC (.int 2)))) (aNil))))) (sAsg (e2 oDiv (eVar 0) (eC (.int 2))) (gNm 0)))) (sRet (eN oTuple (aCons (eVar 2) (aNil)))))
noncomputable def F_law_row_of : Fn := mkFn 4 B_law_row_of
noncomputable def B_law_signs : SSem := sSeq (sAsg (eN oListSC (aCons (eC (.str "0123456789abcdefghijklmnopqrstuvwxyz")) (aNil))) (gNm 2)) (sSeq (sIf (bOf (e2 oGt (eCall F_law_draw (aCons (eVar 0) (aCons (eC (.int 3)) (aNil)))) (eC (.int 0)))) (sAsg (eN oListSC (aCons (eC (.str "abcdefghijkl")) (aNil))) (gNm 2)) (sNil)) (sSeq (sAsg (eN oCell (aNil)) (gNm 3)) (sSeq (sFor (iRng rg1 (aCons (eVar 1) (aNil))) (gNm 4) (sExp (eM isLst mAppend (eVar 3) (aCons (eM isLst mPopAt (eVar 2) (aCons (eCall F_law_draw (aCons (eVar 0) (aCons (eN oLen (aCons (eVar 2) (aNil))) (aNil)))) (aNil))) (aNil))))) (sRet (eN oSortS (aCons (eVar 3) (aNil)))))))
noncomputable def F_law_signs : Fn := mkFn 5 B_law_signs
noncomputable def B_law_book_model : SSem := sSeq (sAsg (eLcC (iRng rg1 (aCons (eCall F_law_power (aCons (eVar 1) (aNil))) (aNil))) (gNm 7) [7] (tTrue) (eCall F_law_row_of (aCons (eVar 7) (aCons (eVar 1) (aNil))))) (gNm 3)) (sSeq (sAsg (eDct0) (gNm 4)) (sSeq (sFor (iSeq (eCall F_law_signs (aCons (eVar 0) (aCons (eN oMin2 (aCons (eVar 2) (aCons (e2 oSub (eCall F_law_power (aCons (eVar 1) (aNil))) (eC (.int 2))) (aNil)))) (aNil))))) (gNm 5) (sSub uDct (eM isLst mPopAt (eVar 3) (aCons (eCall F_law_draw (aCons (eVar 0) (aCons (eN oLen (aCons (eVar 3) (aNil))) (aNil)))) (aNil))) (eVar 4) (eVar 5))) (sSeq (sAsg (eM isLst mPopAt (eVar 3) (aCons (eCall F_law_draw (aCons (eVar 0) (aCons (eN oLen (aCons (eVar 3) (aNil))) (aNil)))) (aNil))) (gNm 6)) (sRet (eN oLst (aCons (eVar 4) (aCons (eVar 6) (aCons (eM isLst mPopAt (eVar 3) (aCons (eCall F_law_draw (aCons (eVar 0) (aCons (eN oLen (aCons (eVar 3) (aNil))) (aNil)))) (aNil))) (aNil)))))))))
noncomputable def F_law_book_model : Fn := mkFnA 8 B_law_book_model
noncomputable def B_law_drawn_book : SSem := sSeq (sAsg (e2 oIx (eN oLst (aCons (eC (.int 2)) (aCons (eC (.int 2)) (aCons (eC (.int 3)) (aCons (eC (.int 3)) (aCons (eC (.int 4)) (aCons (eC (.int 6)) (aNil)))))))) (eCall F_law_draw (aCons (eVar 0) (aCons (eC (.int 6)) (aNil))))) (gNm 1)) (sSeq (sAsg (e2 oIx (eN oLst (aCons (eC (.int 1)) (aCons (eC (.int 2)) (aCons (eC (.int 2)) (aCons (eC (.int 3)) (aCons (eC (.int 6)) (aCons (eC (.int 10)) (aNil)))))))) (eCall F_law_draw (aCons (eVar 0) (aCons (eC (.int 6)) (aNil))))) (gNm 2)) (sRet (eCall F_law_book_model (aCons (eVar 0) (aCons (eVar 1) (aCons (eVar 2) (aNil)))))))
noncomputable def F_law_drawn_book : Fn := mkFnA 3 B_law_drawn_book
noncomputable def B_law_is_row : SSem := sSeq (sIf (bOr (bNot (bOf (eN oIsi (aCons (eVar 0) (aCons (eC (.ty "tuple")) (aNil)))))) (bOf (e2 oNe (eN oLen (aCons (eVar 0) (aNil))) (eVar 1)))) (sRet (eC (.bl false))) (sNil)) (sSeq (sAsg (eLc (iSeq (eVar 0)) (gNm 3) [3] (bAnd (bOf (eN oIsi (aCons (eVar 3) (aCons (eC (.ty "int")) (aNil))))) (bAnd (bNot (bOf (eN oIsi (aCons (eVar 3) (aCons (eC (.ty "bool")) (aNil)))))) (bAnd (bOf (e2 oLe (eC (.int 0)) (eVar 3))) (bOf (e2 oLe (eVar 3) (eC (.int 1))))))) (eVar 3)) (gNm 2)) (sRet (e2 oEq (eN oLen (aCons (eVar 2) (aNil))) (eVar 1))))
noncomputable def F_law_is_row : Fn := mkFn 4 B_law_is_row
noncomputable def B_law_is_sign : SSem := sRet (eAnd (eN oIsi (aCons (eVar 0) (aCons (eC (.ty "str")) (aNil)))) (eAnd (e2 oEq (eN oLen (aCons (eVar 0) (aNil))) (eC (.int 1))) (e2 oIn (eVar 0) (eC (.str "0123456789abcdefghijklmnopqrstuvwxyz")))))
noncomputable def F_law_is_sign : Fn := mkFn 1 B_law_is_sign
noncomputable def B_law_due : SSem := sSeq (sIf (bOr (bNot (bOf (eN oIsiN (aCons (eVar 0) (aCons (eC (.ty "dict")) (aNil)))))) (bOr (bOf (e2 oLt (eN oNLen (aCons (eVar 0) (aNil))) (eC (.int 1)))) (bOf (e2 oGt (eN oNLen (aCons (eVar 0) (aNil))) (eC (.int 10)))))) (sRet (eC (.str "patterns"))) (sNil)) (sSeq (sAsg (eListVN (eVar 0)) (gNm 3)) (sSeq (sIf (bOr (bNot (bOf (eN oIsiN (aCons (e2 oIx (eVar 3) (eC (.int 0))) (aCons (eC (.ty "tuple")) (aNil)))))) (bOr (bOf (e2 oLt (eN oLen (aCons (e2 oIx (eVar 3) (eC (.int 0))) (aNil))) (eC (.int 1)))) (bOf (e2 oGt (eN oLen (aCons (e2 oIx (eVar 3) (eC (.int 0))) (aNil))) (eC (.int 6)))))) (sRet (eC (.str "patterns"))) (sNil)) (sSeq (sAsg (eN oLen (aCons (e2 oIx (eVar 3) (eC (.int 0))) (aNil))) (gNm 4)) (sSeq (sLockN 0 (sFor (iKeysN 0) (gNm 5) (sIf (bOr (bNot (bOf (eCall F_law_is_sign (aCons (eVar 5) (aNil))))) (bNot (bOf (eCall F_law_is_row (aCons (e2 (oNGet HW.w) (eVar 0) (eVar 5)) (aCons (eVar 4) (aNil))))))) (sRet (eC (.str "patterns"))) (sNil)))) (sSeq (sIf (bNot (bOf (eCall F_law_is_row (aCons (eVar 1) (aCons (eVar 4) (aNil)))))) (sRet (eC (.str "start"))) (sNil)) (sSeq (sIf (bNot (bOf (eCall F_law_is_row (aCons (eVar 2) (aCons (eVar 4) (aNil)))))) (sRet (eC (.str "stop"))) (sNil)) (sSeq (sAsg (e2 oAdd (eVar 3) (eN oLst (aCons (eVar 1) (aCons (eVar 2) (aNil))))) (gNm 3)) (sSeq (sFor (iRng rg1 (aCons (eN oLen (aCons (eVar 3) (aNil))) (aNil))) (gNm 6) (sIf (bOf (e2 oIn (e2 oIx (eVar 3) (eVar 6)) (eSl (eVar 3) (pNo) (pYes (eVar 6))))) (sRet (eC (.str "same"))) (sNil))) (sRet (eC (.str "made")))))))))))
noncomputable def F_law_due : Fn := mkFn 7 B_law_due
noncomputable def B_law_pool : SSem := sSeq (sAsg (eC (.int 31)) (gNm 1)) (sSeq (sFor (iSeq (eSl (eVar 0) (pNo) (pYes (eC (.int 63))))) (gNm 2) (sAsg (e2 oMod (eN oInt (aCons (e2 oAdd (e2 oAdd (e2 oMul (eVar 1) (eC (.int 53))) (eVar 2)) (eC (.int 17))) (aNil))) (eC (.int 2147483629))) (gNm 1))) (sRet (eN oCell (aCons (eN oList (aCons (eSl (eVar 0) (pNo) (pYes (eC (.int 63)))) (aNil))) (aCons (eC (.int 0)) (aCons (eC (.int 0)) (aCons (eC (.int 0)) (aCons (eVar 1) (aNil)))))))))
noncomputable def F_law_pool : Fn := mkFnC 3 B_law_pool
noncomputable def B_is_integer : SSem := sRet (eAnd (eN oIsi (aCons (eVar 0) (aCons (eC (.ty "int")) (aNil)))) (eNot (eN oIsi (aCons (eVar 0) (aCons (eC (.ty "bool")) (aNil))))))
noncomputable def F_is_integer : Fn := mkFn 1 B_is_integer
noncomputable def B_is_between : SSem := sRet (eAnd (eCall F_is_integer (aCons (eVar 0) (aNil))) (eChain oLe oLe (eVar 1) (eVar 0) (eVar 2)))
noncomputable def F_is_between : Fn := mkFn 3 B_is_between
noncomputable def B_is_row : SSem := sRet (eAnd (eN oIsi (aCons (eVar 0) (aCons (eC (.ty "tuple")) (aNil)))) (eN oAll (aCons (eLc (iSeq (eVar 0)) (gNm 1) [1] (tTrue) (eCall F_is_between (aCons (eVar 1) (aCons (eC (.int 0)) (aCons (eC (.int 1)) (aNil)))))) (aNil))))
noncomputable def F_is_row : Fn := mkFn 2 B_is_row
noncomputable def B_is_sign : SSem := sRet (eAnd (eN oIsi (aCons (eVar 0) (aCons (eC (.ty "str")) (aNil)))) (eAnd (e2 oEq (eN oLen (aCons (eVar 0) (aNil))) (eC (.int 1))) (e2 oIn (eVar 0) (eC (.str "0123456789abcdefghijklmnopqrstuvwxyz")))))
noncomputable def F_is_sign : Fn := mkFn 1 B_is_sign
noncomputable def B_are_patterns : SSem := sSeq (sIf (bOr (bNot (bOf (eN oIsiN (aCons (eVar 0) (aCons (eC (.ty "dict")) (aNil)))))) (bNot (bOf (eChain oLe oLe (eC (.int 1)) (eN oNLen (aCons (eVar 0) (aNil))) (eC (.int 10)))))) (sRet (eC (.bl false))) (sNil)) (sSeq (sAsg (eN oCell (aNil)) (gNm 1)) (sSeq (sLockN 0 (sFor (iItemsN 0) (gTl 2 (gsCons (gNm 2) (gsCons (gNm 3) (gsNil)))) (sSeq (sIf (bOr (bNot (bOf (eCall F_is_sign (aCons (eVar 2) (aNil))))) (bOr (bNot (bOf (eCall F_is_row (aCons (eVar 3) (aNil))))) (bNot (bOf (eChain oLe oLe (eC (.int 1)) (eN oLen (aCons (eVar 3) (aNil))) (eC (.int 6))))))) (sRet (eC (.bl false))) (sNil)) (sExp (eM isLst mAppend (eVar 1) (aCons (eN oLen (aCons (eVar 3) (aNil))) (aNil))))))) (sRet (e2 oEq (eN (oBestX IsMin) (aCons (eVar 1) (aNil))) (eN (oBestX IsMax) (aCons (eVar 1) (aNil)))))))
noncomputable def F_are_patterns : Fn := mkFn 4 B_are_patterns
noncomputable def B_is_row_of : SSem := sRet (eAnd (eCall F_is_row (aCons (eVar 0) (aNil))) (e2 oEq (eN oLen (aCons (eVar 0) (aNil))) (eVar 1)))
noncomputable def F_is_row_of : Fn := mkFn 2 B_is_row_of
noncomputable def B_Book___init__ : SSem := sSeq (sIf (bNot (bOf (eCall F_are_patterns (aCons (eVar 1) (aNil))))) (sRaise "BadBook" ["part"] (aCons (eC (.str "patterns")) (aNil))) (sNil)) (sSeq (sFldS ["Book"] "signs" (eN oTuple (aCons (eN (oSortN HW.w) (aCons (eVar 1) (aNil))) (aNil))) (eVar 0)) (sSeq (sFldS ["Book"] "width" (eN oLen (aCons (e2 (oNGet HW.w) (eVar 1) (e2 oIx (eFld ["Book"] "signs" (eVar 0)) (eC (.int 0)))) (aNil))) (eVar 0)) (sSeq (sIf (bNot (bOf (eCall F_is_row_of (aCons (eVar 2) (aCons (eFld ["Book"] "width" (eVar 0)) (aNil)))))) (sRaise "BadBook" ["part"] (aCons (eC (.str "start")) (aNil))) (sNil)) (sSeq (sIf (bNot (bOf (eCall F_is_row_of (aCons (eVar 3) (aCons (eFld ["Book"] "width" (eVar 0)) (aNil)))))) (sRaise "BadBook" ["part"] (aCons (eC (.str "stop")) (aNil))) (sNil)) (sSeq (sFldS ["Book"] "start" (eVar 2) (eVar 0)) (sSeq (sFldS ["Book"] "stop" (eVar 3) (eVar 0)) (sSeq (sFldS ["Book"] "_rows" (eDct0) (eVar 0)) (sSeq (sFor (iSeq (eFld ["Book"] "signs" (eVar 0))) (gNm 4) (sSub uDct (e2 (oNGet HW.w) (eVar 1) (eVar 4)) (eFld ["Book"] "_rows" (eVar 0)) (eVar 4))) (sSeq (sAsg (e2 oAdd (eListV (eFld ["Book"] "_rows" (eVar 0))) (eN oLst (aCons (eVar 2) (aCons (eVar 3) (aNil))))) (gNm 5)) (sIf (bOf (e2 oLt (eLenSet (eVar 5)) (eN oLen (aCons (eVar 5) (aNil))))) (sRaise "BadBook" ["part"] (aCons (eC (.str "same")) (aNil))) (sNil)))))))))))
noncomputable def F_Book___init__ : Fn := mkFnI 6 B_Book___init__
noncomputable def B_law_told : SSem := sSeq (sAsg (eC (.str "made")) (gNm 3)) (sSeq (sTry exT (sExp (eMake "Book" F_Book___init__ (aCons (eVar 0) (aCons (eVar 1) (aCons (eVar 2) (aNil)))))) [⟨"BadBook", some 4, fun x => sAsg (eXf x "BadBook" "part") (gNm 3)⟩, ⟨"LabelError", none, fun x => sAsg (eC (.str "other")) (gNm 3)⟩]) (sRet (eVar 3)))
noncomputable def F_law_told : Fn := mkFn 5 B_law_told
noncomputable def B_law_wrong_row : SSem := sSeq (sAsg (eN oLst (aCons (eC .non) (aCons (eC (.int 0)) (aCons (eC (.str "01")) (aCons (eN oList (aCons (eVar 1) (aNil))) (aCons (eN oTup (aNil)) (aCons (e2 oAdd (eVar 1) (eN oTup (aCons (eC (.int 0)) (aNil)))) (aCons (eSl (eVar 1) (pYes (eC (.int 1))) (pNo)) (aCons (e2 oAdd (e2 oAdd (eSl (eVar 1) (pNo) (pYes (eC (.int 1)))) (eN oTup (aCons (eC (.int 2)) (aNil)))) (eSl (eVar 1) (pYes (eC (.int 2))) (pNo))) (aCons (e2 oAdd (e2 oAdd (eSl (eVar 1) (pNo) (pYes (eC (.int 1)))) (eN oTup (aCons (eC (.bl true)) (aNil)))) (eSl (eVar 1) (pYes (eC (.int 2))) (pNo))) (aCons (eC (.dct [] [])) (aNil)))))))))))) (gNm 2)) (sSeq (sAsg (e2 oAdd (eVar 2) (eN oLst (aCons (eN oTup (aCons (eC (.int 0)) (aCons (eC (.int 0)) (aCons (eC (.int 0)) (aCons (eC (.int 0)) (aCons (eC (.int 0)) (aCons (eC (.int 0)) (aCons (eC (.int 0)) (aNil))))))))) (aCons (e2 oMulX (eN oTup (aCons (eN oTup (aCons (eC (.int 0)) (aNil))) (aNil))) (eN oLen (aCons (eVar 1) (aNil)))) (aCons (e2 oAdd (e2 oAdd (eSl (eVar 1) (pNo) (pYes (eC (.int 1)))) (eN oTup (aCons (eC .non) (aNil)))) (eSl (eVar 1) (pYes (eC (.int 2))) (pNo))) (aNil)))))) (gNm 2)) (sRet (e2 oIx (eVar 2) (eCall F_law_draw (aCons (eVar 0) (aCons (eN oLen (aCons (eVar 2) (aNil))) (aNil)))))))
noncomputable def F_law_wrong_row : Fn := mkFn 3 B_law_wrong_row
noncomputable def B_law : SSem := sSeq (sAsg (eCall F_law_pool (aCons (eVar 0) (aNil))) (gNm 1)) (sSeq (sAsg (eCall F_law_drawn_book (aCons (eVar 1) (aNil))) (gNm 2)) (sSeq (sAsg (eN oCell (aCons (eAsN HW.w (eN oDictC (aCons (e2 oIx (eVar 2) (eC (.int 0))) (aNil)))) (aCons (e2 oIx (eVar 2) (eC (.int 1))) (aCons (e2 oIx (eVar 2) (eC (.int 2))) (aNil))))) (gNm 3)) (sSeq (sIf (bOf (e2 oNe (eCall F_law_told (aCons (e2 oIx (eVar 3) (eC (.int 0))) (aCons (e2 oIx (eVar 3) (eC (.int 1))) (aCons (e2 oIx (eVar 3) (eC (.int 2))) (aNil))))) (eC (.str "made")))) (sRet (eC (.bl false))) (sNil)) (sSeq (sFor (iRng rg1 (aCons (e2 oAdd (eC (.int 1)) (eCall F_law_draw (aCons (eVar 1) (aCons (eC (.int 3)) (aNil))))) (aNil))) (gNm 4) (sSeq (sAsg (eCall F_law_draw (aCons (eVar 1) (aCons (eC (.int 9)) (aNil)))) (gNm 5)) (sSeq (sAsg (e2 oIx (eN oSortS (aCons (eN oListD (aCons (e2 oIx (eVar 2) (eC (.int 0))) (aNil))) (aNil))) (eCall F_law_draw (aCons (eVar 1) (aCons (eN oDLen (aCons (e2 oIx (eVar 2) (eC (.int 0))) (aNil))) (aNil))))) (gNm 6)) (sSeq (sIf (bOf (e2 oEq (eVar 5) (eC (.int 0)))) (sSub uLst (eCall F_law_wrong_row (aCons (eVar 1) (aCons (e2 oIx (eVar 2) (eC (.int 1))) (aNil)))) (eVar 3) (eC (.int 1))) (sIf (bOf (e2 oEq (eVar 5) (eC (.int 1)))) (sSub uLst (eCall F_law_wrong_row (aCons (eVar 1) (aCons (e2 oIx (eVar 2) (eC (.int 2))) (aNil)))) (eVar 3) (eC (.int 2))) (sIf (bOf (e2 oEq (eVar 5) (eC (.int 2)))) (sSub uLst (e2 oIx (eN oLst (aCons (e2 oIx (eVar 2) (eC (.int 1))) (aCons (e2 oIx (eVar 2) (eC (.int 2))) (aCons (e2 oDGet (e2 oIx (eVar 2) (eC (.int 0))) (eVar 6)) (aNil))))) (eCall F_law_draw (aCons (eVar 1) (aCons (eC (.int 3)) (aNil))))) (eVar 3) (e2 oSub (eC (.int 2)) (eCall F_law_draw (aCons (eVar 1) (aCons (eC (.int 2)) (aNil)))))) (sIf (bOf (e2 oEq (eVar 5) (eC (.int 3)))) (sSub uLst (e2 oIx (eN oLst (aCons (eC .non) (aCons (eN oLst (aNil)) (aCons (eNDct0 HW.w) (aCons (eC (.int 0)) (aCons (eC (.str "a")) (aCons (eN oLst (aCons (e2 oIx (eVar 2) (eC (.int 0))) (aNil))) (aCons (eN oTup (aCons (eC (.str "a")) (aNil))) (aNil))))))))) (eCall F_law_draw (aCons (eVar 1) (aCons (eC (.int 7)) (aNil))))) (eVar 3) (eC (.int 0))) (sIf (bOf (eN oIsiN (aCons (e2 oIx (eVar 3) (eC (.int 0))) (aCons (eC (.ty "dict")) (aNil))))) (sIf (bOf (e2 oEq (eVar 5) (eC (.int 4)))) (sSub (uNct HW.w) (e2 oDGet (e2 oIx (eVar 2) (eC (.int 0))) (eVar 6)) (e2 oIx (eVar 3) (eC (.int 0))) (e2 oIx (eN oLst (aCons (eC (.str "")) (aCons (eC (.str "A")) (aCons (eC (.str "ab")) (aCons (eC (.int 0)) (aCons (eC .non) (aCons (eN oTup (aNil)) (aCons (eC (.str "-")) (aCons (eC (.bl true)) (aNil)))))))))) (eCall F_law_draw (aCons (eVar 1) (aCons (eC (.int 8)) (aNil)))))) (sIf (bOf (e2 oEq (eVar 5) (eC (.int 5)))) (sSub (uNct HW.w) (eCall F_law_wrong_row (aCons (eVar 1) (aCons (e2 oDGet (e2 oIx (eVar 2) (eC (.int 0))) (eVar 6)) (aNil)))) (e2 oIx (eVar 3) (eC (.int 0))) (eVar 6)) (sIf (bOf (e2 oEq (eVar 5) (eC (.int 6)))) (sFor (iStrF (eC (.str "mnopqrstuvw"))) (gNm 7) (sSub (uNct HW.w) (e2 oDGet (e2 oIx (eVar 2) (eC (.int 0))) (eVar 6)) (e2 oIx (eVar 3) (eC (.int 0))) (eVar 7))) (sIf (bOf (e2 oEq (eVar 5) (eC (.int 7)))) (sSub (uNct HW.w) (e2 oDGet (e2 oIx (eVar 2) (eC (.int 0))) (eVar 6)) (e2 oIx (eVar 3) (eC (.int 0))) (eC (.str "z"))) (sSub (uNct HW.w) (e2 oIx (eN oLst (aCons (e2 oIx (eVar 2) (eC (.int 1))) (aCons (e2 oIx (eVar 2) (eC (.int 2))) (aNil)))) (eCall F_law_draw (aCons (eVar 1) (aCons (eC (.int 2)) (aNil))))) (e2 oIx (eVar 3) (eC (.int 0))) (eVar 6)))))) (sNil)))))) (sIf (bOf (e2 oNe (eCall F_law_told (aCons (e2 oIx (eVar 3) (eC (.int 0))) (aCons (e2 oIx (eVar 3) (eC (.int 1))) (aCons (e2 oIx (eVar 3) (eC (.int 2))) (aNil))))) (eCall F_law_due (aCons (e2 oIx (eVar 3) (eC (.int 0))) (aCons (e2 oIx (eVar 3) (eC (.int 1))) (aCons (e2 oIx (eVar 3) (eC (.int 2))) (aNil))))))) (sRet (eC (.bl false))) (sNil)))))) (sRet (eC (.bl true)))))))
noncomputable def F_law : Fn := mkFn 8 B_law
structure Txt (P : Program) (K : PySem.W.Frag) (mg : Str → Option Value) (base : Heap) (C_BadBook : Addr) (C_LabelError : Addr) (C_Book : Addr) : Prop where
  n_all : mg "all" = none
  n_bool : mg "bool" = none
  n_dict : mg "dict" = none
  n_int : mg "int" = none
  n_isinstance : mg "isinstance" = none
  n_len : mg "len" = none
  n_list : mg "list" = none
  n_max : mg "max" = none
  n_min : mg "min" = none
  n_range : mg "range" = none
  n_set : mg "set" = none
  n_sorted : mg "sorted" = none
  n_str : mg "str" = none
  n_tuple : mg "tuple" = none
  c_MOST_SIGNS : ∃ t, mg "MOST_SIGNS" = some (.int 10 t)
  c_SIGNS : ∃ t, mg "SIGNS" = some (.str "0123456789abcdefghijklmnopqrstuvwxyz" t)
  c_WIDEST_BLOCK : ∃ t, mg "WIDEST_BLOCK" = some (.int 6 t)
  g_BadBook : mg "BadBook" = some (.ref C_BadBook)
  g_LabelError : mg "LabelError" = some (.ref C_LabelError)
  g_Book : mg "Book" = some (.ref C_Book)
  k_Book : ClsC K C_Book
  nf_Book__rows : PySem.W.findIn K (.ref C_Book) "_rows" = some none
  nf_Book_signs : PySem.W.findIn K (.ref C_Book) "signs" = some none
  nf_Book_start : PySem.W.findIn K (.ref C_Book) "start" = some none
  nf_Book_stop : PySem.W.findIn K (.ref C_Book) "stop" = some none
  nf_Book_width : PySem.W.findIn K (.ref C_Book) "width" = some none
  E_BadBook : Exc1 P HW.w K mg base "BadBook" "part"
  xf_BadBook : XfC K C_BadBook
  xn_BadBook_part : PySem.W.findIn K (.ref C_BadBook) "part" = some none
  ext : ExTOk K mg exT
section
variable {P : Program} {K : PySem.W.Frag} {mg : Str → Option Value} {base : Heap} {C_BadBook C_LabelError C_Book : Addr}
theorem sc_law_draw : FnScope ["_law_pool_here", "_law_many", "_law_mixed", "_law_value", "_law_digit"] ["_law_pool_here", "_law_many"] (defScope s_law_draw) := ⟨rfl, rfl, rfl, by decide +kernel, rfl, by decide +kernel, by decide +kernel⟩
theorem hb_law_draw (T : Txt P K mg base C_BadBook C_LabelError C_Book) {qual : Str} {f : Addr} {cdv : Value} {A : Around} {outer : List Env} {s : Shared} {H : Hp} {E : XK} (C : Ctx (cxOf (L2.CX P HW.w) P HW.w K mg base ["_law_pool_here", "_law_many", "_law_mixed", "_law_value", "_law_digit"] qual (defScope s_law_draw) f cdv A outer s H E) (Wish.of fun c d _ H => E c d H) 0) :
    BV (cxOf (L2.CX P HW.w) P HW.w K mg base ["_law_pool_here", "_law_many", "_law_mixed", "_law_value", "_law_digit"] qual (defScope s_law_draw) f cdv A outer s H E) (Wish.of fun c d _ H => E c d H) (defBody s_law_draw) B_law_draw :=
  bv_cons (sv_sub set_list os_setL (ev_op or_add os_add (ev_ix ix_seq os_ix (ev_var (i := 0)) (ev_int) (fun _ _ => rfl)) (ev_int)) (ev_var (i := 0)) (ev_int)) (bv_cons (sv_if (tv_w (wv_and (tv_cmp (op_eqD C.room.units) os_eq (ev_ix ix_seq os_ix (ev_var (i := 0)) (ev_int) (fun _ _ => rfl)) (ev_int) (nomark _)) (wv_and1 (tv_cmp or_lt os_lt (ev_ix ix_seq os_ix (ev_var (i := 0)) (ev_int) (fun _ _ => rfl)) (ev_callB cr_len os_len T.n_len (av_cons (ev_ix ix_seq os_ix (ev_var (i := 0)) (ev_int) (fun _ _ => rfl)) (av_nil))) (nomark _))))) (bv_cons (sv_set (i := 3) C.nd (ev_ix ix_seq os_ix (ev_ix ix_seq os_ix (ev_var (i := 0)) (ev_int) (fun _ _ => rfl)) (ev_ix ix_seq os_ix (ev_var (i := 0)) (ev_int) (fun _ _ => rfl)) (fun _ _ => rfl))) (bv_cons (sv_sub set_list os_setL (ev_op or_add os_add (ev_ix ix_seq os_ix (ev_var (i := 0)) (ev_int) (fun _ _ => rfl)) (ev_int)) (ev_var (i := 0)) (ev_int)) (bv_one (sv_if (tv_cmp op_ge os_ge (ev_var (i := 3)) (ev_op op_pow os_pow (ev_int) (ev_int)) (nomark _)) (bv_one (sv_sub set_list os_setL (ev_var (i := 3)) (ev_var (i := 0)) (ev_int))) (bv_one (sv_sub set_list os_setL (ev_op op_mod os_mod (ev_callTy call_int1 os_int T.n_int (av_cons (ev_op or_add os_add (ev_op or_add os_add (ev_op or_mul os_mul (ev_ix ix_seq os_ix (ev_var (i := 0)) (ev_int) (fun _ _ => rfl)) (ev_int)) (ev_var (i := 3))) (ev_int)) (av_nil))) (ev_int)) (ev_var (i := 0)) (ev_int))))))) (bv_nil)) (bv_cons (sv_if (tv_cmp op_gt os_gt (ev_ix ix_seq os_ix (ev_var (i := 0)) (ev_int) (fun _ _ => rfl)) (ev_int) (nomark _)) (bv_cons (sv_set (i := 4) C.nd (ev_op op_mod os_mod (ev_callTy call_int1 os_int T.n_int (av_cons (ev_ix ix_seq os_ix (ev_var (i := 0)) (ev_int) (fun _ _ => rfl)) (av_nil))) (ev_var (i := 1)))) (bv_cons (sv_sub set_list os_setL (ev_op op_fdivW os_div (ev_ix ix_seq os_ix (ev_var (i := 0)) (ev_int) (fun _ _ => rfl)) (ev_var (i := 1))) (ev_var (i := 0)) (ev_int)) (bv_one (sv_ret (ev_var (i := 4)))))) (bv_nil)) (bv_cons (sv_set (i := 2) C.nd (ev_op op_mod os_mod (ev_callTy call_int1 os_int T.n_int (av_cons (ev_op or_add os_add (ev_op or_add os_add (ev_op or_mul os_mul (ev_ix ix_seq os_ix (ev_var (i := 0)) (ev_int) (fun _ _ => rfl)) (ev_int)) (ev_op or_mul os_mul (ev_ix ix_seq os_ix (ev_var (i := 0)) (ev_int) (fun _ _ => rfl)) (ev_int))) (ev_int)) (av_nil))) (ev_int))) (bv_cons (sv_set (i := 2) C.nd (ev_op op_mod os_mod (ev_callTy call_int1 os_int T.n_int (av_cons (ev_op or_mul os_mul (ev_var (i := 2)) (ev_op or_add os_add (ev_op op_fdivW os_div (ev_var (i := 2)) (ev_int)) (ev_int))) (av_nil))) (ev_int))) (bv_cons (sv_set (i := 2) C.nd (ev_op op_mod os_mod (ev_callTy call_int1 os_int T.n_int (av_cons (ev_op or_mul os_mul (ev_var (i := 2)) (ev_op or_add os_add (ev_op op_fdivW os_div (ev_var (i := 2)) (ev_int)) (ev_int))) (av_nil))) (ev_int))) (bv_one (sv_ret (ev_op op_mod os_mod (ev_callTy call_int1 os_int T.n_int (av_cons (ev_op op_fdivW os_div (ev_var (i := 2)) (ev_int)) (av_nil))) (ev_var (i := 1))))))))))
theorem I_law_draw (T : Txt P K mg base C_BadBook C_LabelError C_Book) {qual : Str} {f : Addr} {fd : FuncData} (F : Fun K "_law_draw" qual s_law_draw f fd) (hx : mg "_law_draw" = some (.ref f)) (hB : Binds K fd ["_law_pool_here", "_law_many"] []) : FnIs P HW.w K mg base "_law_draw" 1 2 F_law_draw := fn_is lv_leave F hx hB sc_law_draw fun _ _ _ _ _ _ C => hb_law_draw T C
theorem sc_law_power : FnScope ["_law_many", "_law_found", "_law_k"] ["_law_many"] (defScope s_law_power) := ⟨rfl, rfl, rfl, by decide +kernel, rfl, by decide +kernel, by decide +kernel⟩
theorem hb_law_power (T : Txt P K mg base C_BadBook C_LabelError C_Book) {qual : Str} {f : Addr} {cdv : Value} {A : Around} {outer : List Env} {s : Shared} {H : Hp} {E : XK} (C : Ctx (cxOf (L2.CX P HW.w) P HW.w K mg base ["_law_many", "_law_found", "_law_k"] qual (defScope s_law_power) f cdv A outer s H E) (Wish.of fun c d _ H => E c d H) 0) :
    BV (cxOf (L2.CX P HW.w) P HW.w K mg base ["_law_many", "_law_found", "_law_k"] qual (defScope s_law_power) f cdv A outer s H E) (Wish.of fun c d _ H => E c d H) (defBody s_law_power) B_law_power :=
  bv_cons (sv_set (i := 1) C.nd (ev_int)) (bv_cons (sv_for C (iv_rng1 T.n_range (av_cons (ev_var (i := 0)) (av_nil))) (gv_nm (i := 2) C.nd) (bv_one (sv_set (i := 1) C.nd (ev_op or_add os_add (ev_var (i := 1)) (ev_var (i := 1)))))) (bv_one (sv_ret (ev_var (i := 1)))))
theorem I_law_power (T : Txt P K mg base C_BadBook C_LabelError C_Book) {qual : Str} {f : Addr} {fd : FuncData} (F : Fun K "_law_power" qual s_law_power f fd) (hx : mg "_law_power" = some (.ref f)) (hB : Binds K fd ["_law_many"] []) : FnIs P HW.w K mg base "_law_power" 1 1 F_law_power := fn_is lv_leave F hx hB sc_law_power fun _ _ _ _ _ _ C => hb_law_power T C
theorem sc_law_row_of : FnScope ["_law_number", "_law_width", "_law_cells", "_law_k"] ["_law_number", "_law_width"] (defScope s_law_row_of) := ⟨rfl, rfl, rfl, by decide +kernel, rfl, by decide +kernel, by decide +kernel⟩
theorem hb_law_row_of (T : Txt P K mg base C_BadBook C_LabelError C_Book) {qual : Str} {f : Addr} {cdv : Value} {A : Around} {outer : List Env} {s : Shared} {H : Hp} {E : XK} (C : Ctx (cxOf (L2.CX P HW.w) P HW.w K mg base ["_law_number", "_law_width", "_law_cells", "_law_k"] qual (defScope s_law_row_of) f cdv A outer s H E) (Wish.of fun c d _ H => E c d H) 0) :
    BV (cxOf (L2.CX P HW.w) P HW.w K mg base ["_law_number", "_law_width", "_law_cells", "_law_k"] qual (defScope s_law_row_of) f cdv A outer s H E) (Wish.of fun c d _ H => E c d H) (defBody s_law_row_of) B_law_row_of :=
  bv_cons (sv_set (i := 2) C.nd (ev_lstC (av_nil))) (bv_cons (sv_for C (iv_rng1 T.n_range (av_cons (ev_var (i := 1)) (av_nil))) (gv_nm (i := 3) C.nd) (bv_cons (sv_expr (ev_m PySem.F.plainAttrs_list PySem.F.slot_list_insert PySem.F.type_list_insert ty_lst mt_insert os_insert (ev_var (i := 2)) (av_cons (ev_int) (av_cons (ev_op op_sub os_sub (ev_var (i := 0)) (ev_op or_mul os_mul (ev_op op_fdivW os_div (ev_var (i := 0)) (ev_int)) (ev_int))) (av_nil))))) (bv_one (sv_set (i := 0) C.nd (ev_op op_fdivW os_div (ev_var (i := 0)) (ev_int)))))) (bv_one (sv_ret (ev_callTy call_tuple_of os_tuple T.n_tuple (av_cons (ev_var (i := 2)) (av_nil))))))
theorem I_law_row_of (T : Txt P K mg base C_BadBook C_LabelError C_Book) {qual : Str} {f : Addr} {fd : FuncData} (F : Fun K "_law_row_of" qual s_law_row_of f fd) (hx : mg "_law_row_of" = some (.ref f)) (hB : Binds K fd ["_law_number", "_law_width"] []) : FnIs P HW.w K mg base "_law_row_of" 1 2 F_law_row_of := fn_is lv_leave F hx hB sc_law_row_of fun _ _ _ _ _ _ C => hb_law_row_of T C
theorem sc_law_signs : FnScope ["_law_pool_here", "_law_many", "_law_left", "_law_found", "_law_k"] ["_law_pool_here", "_law_many"] (defScope s_law_signs) := ⟨rfl, rfl, rfl, by decide +kernel, rfl, by decide +kernel, by decide +kernel⟩
theorem hb_law_signs (T : Txt P K mg base C_BadBook C_LabelError C_Book) (I_law_draw : FnIs P HW.w K mg base "_law_draw" 1 2 F_law_draw) {qual : Str} {f : Addr} {cdv : Value} {A : Around} {outer : List Env} {s : Shared} {H : Hp} {E : XK} (C : Ctx (cxOf (L2.CX P HW.w) P HW.w K mg base ["_law_pool_here", "_law_many", "_law_left", "_law_found", "_law_k"] qual (defScope s_law_signs) f cdv A outer s H E) (Wish.of fun c d _ H => E c d H) 1) :
    BV (cxOf (L2.CX P HW.w) P HW.w K mg base ["_law_pool_here", "_law_many", "_law_left", "_law_found", "_law_k"] qual (defScope s_law_signs) f cdv A outer s H E) (Wish.of fun c d _ H => E c d H) (defBody s_law_signs) B_law_signs :=
  bv_cons (sv_set (i := 2) C.nd (ev_callTy (call_listS C.calm) os_listSC T.n_list (av_cons (ev_str) (av_nil)))) (bv_cons (sv_if (tv_cmp op_gt os_gt (ev_callI I_law_draw C (by decide) (av_cons (ev_var (i := 0)) (av_cons (ev_int) (av_nil))) (arN_cons (arN_cons (arN_nil)))) (ev_int) (nomark _)) (bv_one (sv_set (i := 2) C.nd (ev_callTy (call_listS C.calm) os_listSC T.n_list (av_cons (ev_str) (av_nil))))) (bv_nil)) (bv_cons (sv_set (i := 3) C.nd (ev_lstC (av_nil))) (bv_cons (sv_for C (iv_rng1 T.n_range (av_cons (ev_var (i := 1)) (av_nil))) (gv_nm (i := 4) C.nd) (bv_one (sv_expr (ev_m PySem.F.plainAttrs_list PySem.F.slot_list_append PySem.F.type_list_append ty_lst mt_append os_append (ev_var (i := 3)) (av_cons (ev_m PySem.F.plainAttrs_list PySem.F.slot_list_pop PySem.F.type_list_pop ty_lst mt_popAt os_popAt (ev_var (i := 2)) (av_cons (ev_callI I_law_draw C (by decide) (av_cons (ev_var (i := 0)) (av_cons (ev_callB cr_len os_len T.n_len (av_cons (ev_var (i := 2)) (av_nil))) (av_nil))) (arN_cons (arN_cons (arN_nil)))) (av_nil))) (av_nil)))))) (bv_one (sv_ret (ev_callB cr_sortedS os_sortS T.n_sorted (av_cons (ev_var (i := 3)) (av_nil))))))))
theorem I_law_signs (T : Txt P K mg base C_BadBook C_LabelError C_Book) (I_law_draw : FnIs P HW.w K mg base "_law_draw" 1 2 F_law_draw) {qual : Str} {f : Addr} {fd : FuncData} (F : Fun K "_law_signs" qual s_law_signs f fd) (hx : mg "_law_signs" = some (.ref f)) (hB : Binds K fd ["_law_pool_here", "_law_many"] []) : FnIs P HW.w K mg base "_law_signs" 2 2 F_law_signs := fn_is lv_leave F hx hB sc_law_signs fun _ _ _ _ _ _ C => hb_law_signs T I_law_draw C
theorem sc_law_book_model : FnScope ["_law_pool_here", "_law_width", "_law_many", "_law_left", "_law_patterns", "_law_sign", "_law_start", "_law_number"] ["_law_pool_here", "_law_width", "_law_many"] (defScope s_law_book_model) := ⟨rfl, rfl, rfl, by decide +kernel, rfl, by decide +kernel, by decide +kernel⟩
theorem hb_law_book_model (T : Txt P K mg base C_BadBook C_LabelError C_Book) (I_law_draw : FnIs P HW.w K mg base "_law_draw" 1 2 F_law_draw) (I_law_power : FnIs P HW.w K mg base "_law_power" 1 1 F_law_power) (I_law_row_of : FnIs P HW.w K mg base "_law_row_of" 1 2 F_law_row_of) (I_law_signs : FnIs P HW.w K mg base "_law_signs" 2 2 F_law_signs) {qual : Str} {f : Addr} {cdv : Value} {A : Around} {outer : List Env} {s : Shared} {H : Hp} {E : XK} (C : Ctx (cxOf (L2.CX P HW.w) P HW.w K mg base ["_law_pool_here", "_law_width", "_law_many", "_law_left", "_law_patterns", "_law_sign", "_law_start", "_law_number"] qual (defScope s_law_book_model) f cdv A outer s H E) (Wish.of fun c d _ H => E c d H) 2) :
    BV (cxOf (L2.CX P HW.w) P HW.w K mg base ["_law_pool_here", "_law_width", "_law_many", "_law_left", "_law_patterns", "_law_sign", "_law_start", "_law_number"] qual (defScope s_law_book_model) f cdv A outer s H E) (Wish.of fun c d _ H => E c d H) (defBody s_law_book_model) B_law_book_model :=
  bv_cons (sv_setLcG fin_cel (own := [("_law_number", 7)]) C.calm C.nd (iv_rng1 T.n_range (av_cons (ev_callI I_law_power C (by decide) (av_cons (ev_var (i := 1)) (av_nil)) (arN_cons (arN_nil))) (av_nil))) (by show blkC ["_law_pool_here", "_law_width", "_law_many", "_law_left", "_law_patterns", "_law_sign", "_law_start", "_law_number"] (defScope s_law_book_model) _ _ = true; decide +kernel) (by decide) (fun _ h => nomatch h) (fun _ _ _ _ _ => gv_nm (i := 7) C.nd) (fun _ _ _ _ _ => tv_ifs0) (fun s H C1 cl fp => ev_blk C (fun C => ev_callI I_law_row_of C (by decide) (av_cons (ev_var (i := 7)) (av_cons (ev_var (i := 1)) (av_nil))) (arN_cons (arN_cons (arN_nil))))) (sw_true rfl rfl rfl (by decide +kernel))) (bv_cons (sv_set (i := 4) C.nd (ev_dct0)) (bv_cons (sv_for C (iv_seq (ev_callI I_law_signs C (by decide) (av_cons (ev_var (i := 0)) (av_cons (ev_callB (call_min2 C.calm) os_min2 T.n_min (av_cons (ev_var (i := 2)) (av_cons (ev_op op_sub os_sub (ev_callI I_law_power C (by decide) (av_cons (ev_var (i := 1)) (av_nil)) (arN_cons (arN_nil))) (ev_int)) (av_nil)))) (av_nil))) (arN_cons (arN_cons (arN_nil))))) (gv_nm (i := 5) C.nd) (bv_one (sv_subD C (ev_m PySem.F.plainAttrs_list PySem.F.slot_list_pop PySem.F.type_list_pop ty_lst mt_popAt os_popAt (ev_var (i := 3)) (av_cons (ev_callI I_law_draw C (by decide) (av_cons (ev_var (i := 0)) (av_cons (ev_callB cr_len os_len T.n_len (av_cons (ev_var (i := 3)) (av_nil))) (av_nil))) (arN_cons (arN_cons (arN_nil)))) (av_nil))) (ev_var (i := 4)) (ev_var (i := 5))))) (bv_cons (sv_set (i := 6) C.nd (ev_m PySem.F.plainAttrs_list PySem.F.slot_list_pop PySem.F.type_list_pop ty_lst mt_popAt os_popAt (ev_var (i := 3)) (av_cons (ev_callI I_law_draw C (by decide) (av_cons (ev_var (i := 0)) (av_cons (ev_callB cr_len os_len T.n_len (av_cons (ev_var (i := 3)) (av_nil))) (av_nil))) (arN_cons (arN_cons (arN_nil)))) (av_nil)))) (bv_one (sv_ret (ev_lst (av_cons (ev_var (i := 4)) (av_cons (ev_var (i := 6)) (av_cons (ev_m PySem.F.plainAttrs_list PySem.F.slot_list_pop PySem.F.type_list_pop ty_lst mt_popAt os_popAt (ev_var (i := 3)) (av_cons (ev_callI I_law_draw C (by decide) (av_cons (ev_var (i := 0)) (av_cons (ev_callB cr_len os_len T.n_len (av_cons (ev_var (i := 3)) (av_nil))) (av_nil))) (arN_cons (arN_cons (arN_nil)))) (av_nil))) (av_nil))))))))))
theorem I_law_book_model (T : Txt P K mg base C_BadBook C_LabelError C_Book) (I_law_draw : FnIs P HW.w K mg base "_law_draw" 1 2 F_law_draw) (I_law_power : FnIs P HW.w K mg base "_law_power" 1 1 F_law_power) (I_law_row_of : FnIs P HW.w K mg base "_law_row_of" 1 2 F_law_row_of) (I_law_signs : FnIs P HW.w K mg base "_law_signs" 2 2 F_law_signs) {qual : Str} {f : Addr} {fd : FuncData} (F : Fun K "_law_book_model" qual s_law_book_model f fd) (hx : mg "_law_book_model" = some (.ref f)) (hB : Binds K fd ["_law_pool_here", "_law_width", "_law_many"] []) : FnIs P HW.w K mg base "_law_book_model" 3 3 F_law_book_model := fn_is lv_leaveA F hx hB sc_law_book_model fun _ _ _ _ _ _ C => hb_law_book_model T I_law_draw I_law_power I_law_row_of I_law_signs C
theorem sc_law_drawn_book : FnScope ["_law_pool_here", "_law_width", "_law_many"] ["_law_pool_here"] (defScope s_law_drawn_book) := ⟨rfl, rfl, rfl, by decide +kernel, rfl, by decide +kernel, by decide +kernel⟩
theorem hb_law_drawn_book (T : Txt P K mg base C_BadBook C_LabelError C_Book) (I_law_book_model : FnIs P HW.w K mg base "_law_book_model" 3 3 F_law_book_model) (I_law_draw : FnIs P HW.w K mg base "_law_draw" 1 2 F_law_draw) {qual : Str} {f : Addr} {cdv : Value} {A : Around} {outer : List Env} {s : Shared} {H : Hp} {E : XK} (C : Ctx (cxOf (L2.CX P HW.w) P HW.w K mg base ["_law_pool_here", "_law_width", "_law_many"] qual (defScope s_law_drawn_book) f cdv A outer s H E) (Wish.of fun c d _ H => E c d H) 3) :
    BV (cxOf (L2.CX P HW.w) P HW.w K mg base ["_law_pool_here", "_law_width", "_law_many"] qual (defScope s_law_drawn_book) f cdv A outer s H E) (Wish.of fun c d _ H => E c d H) (defBody s_law_drawn_book) B_law_drawn_book :=
  bv_cons (sv_set (i := 1) C.nd (ev_ix ix_seq os_ix (ev_lst (av_cons (ev_int) (av_cons (ev_int) (av_cons (ev_int) (av_cons (ev_int) (av_cons (ev_int) (av_cons (ev_int) (av_nil)))))))) (ev_callI I_law_draw C (by decide) (av_cons (ev_var (i := 0)) (av_cons (ev_int) (av_nil))) (arN_cons (arN_cons (arN_nil)))) (fun _ _ => rfl))) (bv_cons (sv_set (i := 2) C.nd (ev_ix ix_seq os_ix (ev_lst (av_cons (ev_int) (av_cons (ev_int) (av_cons (ev_int) (av_cons (ev_int) (av_cons (ev_int) (av_cons (ev_int) (av_nil)))))))) (ev_callI I_law_draw C (by decide) (av_cons (ev_var (i := 0)) (av_cons (ev_int) (av_nil))) (arN_cons (arN_cons (arN_nil)))) (fun _ _ => rfl))) (bv_one (sv_ret (ev_callI I_law_book_model C (by decide) (av_cons (ev_var (i := 0)) (av_cons (ev_var (i := 1)) (av_cons (ev_var (i := 2)) (av_nil)))) (arN_cons (arN_cons (arN_cons (arN_nil))))))))
theorem I_law_drawn_book (T : Txt P K mg base C_BadBook C_LabelError C_Book) (I_law_book_model : FnIs P HW.w K mg base "_law_book_model" 3 3 F_law_book_model) (I_law_draw : FnIs P HW.w K mg base "_law_draw" 1 2 F_law_draw) {qual : Str} {f : Addr} {fd : FuncData} (F : Fun K "_law_drawn_book" qual s_law_drawn_book f fd) (hx : mg "_law_drawn_book" = some (.ref f)) (hB : Binds K fd ["_law_pool_here"] []) : FnIs P HW.w K mg base "_law_drawn_book" 4 1 F_law_drawn_book := fn_is lv_leaveA F hx hB sc_law_drawn_book fun _ _ _ _ _ _ C => hb_law_drawn_book T I_law_book_model I_law_draw C
theorem sc_law_is_row : FnScope ["_law_thing", "_law_width", "_law_cells", "_law_cell"] ["_law_thing", "_law_width"] (defScope s_law_is_row) := ⟨rfl, rfl, rfl, by decide +kernel, rfl, by decide +kernel, by decide +kernel⟩
theorem hb_law_is_row (T : Txt P K mg base C_BadBook C_LabelError C_Book) {qual : Str} {f : Addr} {cdv : Value} {A : Around} {outer : List Env} {s : Shared} {H : Hp} {E : XK} (C : Ctx (cxOf (L2.CX P HW.w) P HW.w K mg base ["_law_thing", "_law_width", "_law_cells", "_law_cell"] qual (defScope s_law_is_row) f cdv A outer s H E) (Wish.of fun c d _ H => E c d H) 0) :
    BV (cxOf (L2.CX P HW.w) P HW.w K mg base ["_law_thing", "_law_width", "_law_cells", "_law_cell"] qual (defScope s_law_is_row) f cdv A outer s H E) (Wish.of fun c d _ H => E c d H) (defBody s_law_is_row) B_law_is_row :=
  bv_cons (sv_if (tv_w (wv_or (tv_not (tv_val (ev_callB cr_isi os_isi T.n_isinstance (av_cons (ev_var (i := 0)) (av_cons (ev_ty T.n_tuple) (av_nil)))))) (wv_or1 (tv_cmp (op_neD C.room.units) os_ne (ev_callB cr_len os_len T.n_len (av_cons (ev_var (i := 0)) (av_nil))) (ev_var (i := 1)) (nomark _))))) (bv_one (sv_ret (ev_bl))) (bv_nil)) (bv_cons (sv_setLcG fin_lst (own := [("_law_cell", 3)]) C.calm C.nd (iv_seq (ev_var (i := 0))) (by show blkC ["_law_thing", "_law_width", "_law_cells", "_law_cell"] (defScope s_law_is_row) _ _ = true; decide +kernel) (by decide) (fun _ h => nomatch h) (fun _ _ _ _ _ => gv_nm (i := 3) C.nd) (fun _ _ _ _ _ => pt_blk C (fun C => tv_ifs1 (tv_w (wv_and (tv_val (ev_callB cr_isi os_isi T.n_isinstance (av_cons (ev_var (i := 3)) (av_cons (ev_ty T.n_int) (av_nil))))) (wv_and (tv_not (tv_val (ev_callB cr_isi os_isi T.n_isinstance (av_cons (ev_var (i := 3)) (av_cons (ev_ty T.n_bool) (av_nil)))))) (wv_and (tv_cmp op_le os_le (ev_int) (ev_var (i := 3)) (nomark _)) (wv_and1 (tv_cmp op_le os_le (ev_var (i := 3)) (ev_int) (nomark _))))))))) (fun s H C1 cl fp => ev_blk C (fun C => ev_var (i := 3))) (sw_true rfl rfl rfl (by decide +kernel))) (bv_one (sv_ret (ev_cmp (op_eqD C.room.units) os_eq (ev_callB cr_len os_len T.n_len (av_cons (ev_var (i := 2)) (av_nil))) (ev_var (i := 1)) (nomark _)))))
theorem I_law_is_row (T : Txt P K mg base C_BadBook C_LabelError C_Book) {qual : Str} {f : Addr} {fd : FuncData} (F : Fun K "_law_is_row" qual s_law_is_row f fd) (hx : mg "_law_is_row" = some (.ref f)) (hB : Binds K fd ["_law_thing", "_law_width"] []) : FnIs P HW.w K mg base "_law_is_row" 1 2 F_law_is_row := fn_is lv_leave F hx hB sc_law_is_row fun _ _ _ _ _ _ C => hb_law_is_row T C
theorem sc_law_is_sign : FnScope ["_law_thing"] ["_law_thing"] (defScope s_law_is_sign) := ⟨rfl, rfl, rfl, by decide +kernel, rfl, by decide +kernel, by decide +kernel⟩
theorem hb_law_is_sign (T : Txt P K mg base C_BadBook C_LabelError C_Book) {qual : Str} {f : Addr} {cdv : Value} {A : Around} {outer : List Env} {s : Shared} {H : Hp} {E : XK} (C : Ctx (cxOf (L2.CX P HW.w) P HW.w K mg base ["_law_thing"] qual (defScope s_law_is_sign) f cdv A outer s H E) (Wish.of fun c d _ H => E c d H) 0) :
    BV (cxOf (L2.CX P HW.w) P HW.w K mg base ["_law_thing"] qual (defScope s_law_is_sign) f cdv A outer s H E) (Wish.of fun c d _ H => E c d H) (defBody s_law_is_sign) B_law_is_sign :=
  bv_one (sv_ret (ev_and (ev_callB cr_isi os_isi T.n_isinstance (av_cons (ev_var (i := 0)) (av_cons (ev_ty T.n_str) (av_nil)))) (ev_and (ev_cmp (op_eqD C.room.units) os_eq (ev_callB cr_len os_len T.n_len (av_cons (ev_var (i := 0)) (av_nil))) (ev_int) (nomark _)) (ev_one (ev_cmp (or_in (rm65 C.room)) os_in (ev_var (i := 0)) (ev_str) (by rfl))))))
theorem I_law_is_sign (T : Txt P K mg base C_BadBook C_LabelError C_Book) {qual : Str} {f : Addr} {fd : FuncData} (F : Fun K "_law_is_sign" qual s_law_is_sign f fd) (hx : mg "_law_is_sign" = some (.ref f)) (hB : Binds K fd ["_law_thing"] []) : FnIs P HW.w K mg base "_law_is_sign" 1 1 F_law_is_sign := fn_is lv_leave F hx hB sc_law_is_sign fun _ _ _ _ _ _ C => hb_law_is_sign T C
theorem sc_law_due : FnScope ["_law_patterns", "_law_start", "_law_stop", "_law_rows", "_law_width", "_law_sign", "_law_at"] ["_law_patterns", "_law_start", "_law_stop"] (defScope s_law_due) := ⟨rfl, rfl, rfl, by decide +kernel, rfl, by decide +kernel, by decide +kernel⟩
theorem hb_law_due (T : Txt P K mg base C_BadBook C_LabelError C_Book) (I_law_is_row : FnIs P HW.w K mg base "_law_is_row" 1 2 F_law_is_row) (I_law_is_sign : FnIs P HW.w K mg base "_law_is_sign" 1 1 F_law_is_sign) {qual : Str} {f : Addr} {cdv : Value} {A : Around} {outer : List Env} {s : Shared} {H : Hp} {E : XK} (C : Ctx (cxOf (L2.CX P HW.w) P HW.w K mg base ["_law_patterns", "_law_start", "_law_stop", "_law_rows", "_law_width", "_law_sign", "_law_at"] qual (defScope s_law_due) f cdv A outer s H E) (Wish.of fun c d _ H => E c d H) 1) :
    BV (cxOf (L2.CX P HW.w) P HW.w K mg base ["_law_patterns", "_law_start", "_law_stop", "_law_rows", "_law_width", "_law_sign", "_law_at"] qual (defScope s_law_due) f cdv A outer s H E) (Wish.of fun c d _ H => E c d H) (defBody s_law_due) B_law_due :=
  bv_cons (sv_if (tv_w (wv_or (tv_not (tv_val (ev_callB cr_isiN os_isiN T.n_isinstance (av_cons (ev_var (i := 0)) (av_cons (ev_ty T.n_dict) (av_nil)))))) (wv_or (tv_cmp or_lt os_lt (ev_callB cr_nlen os_nlen T.n_len (av_cons (ev_var (i := 0)) (av_nil))) (ev_int) (nomark _)) (wv_or1 (tv_cmp op_gt os_gt (ev_callB cr_nlen os_nlen T.n_len (av_cons (ev_var (i := 0)) (av_nil))) (ev_int) (nomark _)))))) (bv_one (sv_ret (ev_str))) (bv_nil)) (bv_cons (sv_set (i := 3) C.nd (ev_listVN C.calm T.n_list (ev_var (i := 0)))) (bv_cons (sv_if (tv_w (wv_or (tv_not (tv_val (ev_callB cr_isiN os_isiN T.n_isinstance (av_cons (ev_ix ix_seq os_ix (ev_var (i := 3)) (ev_int) (fun _ _ => rfl)) (av_cons (ev_ty T.n_tuple) (av_nil)))))) (wv_or (tv_cmp or_lt os_lt (ev_callB cr_len os_len T.n_len (av_cons (ev_ix ix_seq os_ix (ev_var (i := 3)) (ev_int) (fun _ _ => rfl)) (av_nil))) (ev_int) (nomark _)) (wv_or1 (tv_cmp op_gt os_gt (ev_callB cr_len os_len T.n_len (av_cons (ev_ix ix_seq os_ix (ev_var (i := 3)) (ev_int) (fun _ _ => rfl)) (av_nil))) (ev_int) (nomark _)))))) (bv_one (sv_ret (ev_str))) (bv_nil)) (bv_cons (sv_set (i := 4) C.nd (ev_callB cr_len os_len T.n_len (av_cons (ev_ix ix_seq os_ix (ev_var (i := 3)) (ev_int) (fun _ _ => rfl)) (av_nil)))) (bv_cons (sv_lockN (sv_for C (iv_keysN (ev_var (i := 0))) (gv_nm (i := 5) C.nd) (bv_one (sv_if (tv_w (wv_or (tv_not (tv_val (ev_callI I_law_is_sign C (by decide) (av_cons (ev_var (i := 5)) (av_nil)) (arN_cons (arN_nil))))) (wv_or1 (tv_not (tv_val (ev_callI I_law_is_row C (by decide) (av_cons (ev_nget rfl C (ev_var (i := 0)) (ev_var (i := 5))) (av_cons (ev_var (i := 4)) (av_nil))) (arN_cons (arN_cons (arN_nil))))))))) (bv_one (sv_ret (ev_str))) (bv_nil))))) (bv_cons (sv_if (tv_not (tv_val (ev_callI I_law_is_row C (by decide) (av_cons (ev_var (i := 1)) (av_cons (ev_var (i := 4)) (av_nil))) (arN_cons (arN_cons (arN_nil)))))) (bv_one (sv_ret (ev_str))) (bv_nil)) (bv_cons (sv_if (tv_not (tv_val (ev_callI I_law_is_row C (by decide) (av_cons (ev_var (i := 2)) (av_cons (ev_var (i := 4)) (av_nil))) (arN_cons (arN_cons (arN_nil)))))) (bv_one (sv_ret (ev_str))) (bv_nil)) (bv_cons (sv_set (i := 3) C.nd (ev_op or_add os_add (ev_var (i := 3)) (ev_lst (av_cons (ev_var (i := 1)) (av_cons (ev_var (i := 2)) (av_nil)))))) (bv_cons (sv_for C (iv_rng1 T.n_range (av_cons (ev_callB cr_len os_len T.n_len (av_cons (ev_var (i := 3)) (av_nil))) (av_nil))) (gv_nm (i := 6) C.nd) (bv_one (sv_if (tv_cmp (or_in (rm65 C.room)) os_in (ev_ix ix_seq os_ix (ev_var (i := 3)) (ev_var (i := 6)) (fun _ _ => rfl)) (ev_sl (ev_var (i := 3)) (ov_no) (ov_yes (ev_var (i := 6)))) (by rfl)) (bv_one (sv_ret (ev_str))) (bv_nil)))) (bv_one (sv_ret (ev_str)))))))))))
theorem I_law_due (T : Txt P K mg base C_BadBook C_LabelError C_Book) (I_law_is_row : FnIs P HW.w K mg base "_law_is_row" 1 2 F_law_is_row) (I_law_is_sign : FnIs P HW.w K mg base "_law_is_sign" 1 1 F_law_is_sign) {qual : Str} {f : Addr} {fd : FuncData} (F : Fun K "_law_due" qual s_law_due f fd) (hx : mg "_law_due" = some (.ref f)) (hB : Binds K fd ["_law_patterns", "_law_start", "_law_stop"] []) : FnIs P HW.w K mg base "_law_due" 2 3 F_law_due := fn_is lv_leave F hx hB sc_law_due fun _ _ _ _ _ _ C => hb_law_due T I_law_is_row I_law_is_sign C
theorem sc_law_pool : FnScope ["_law_script", "_law_seed", "_law_value"] ["_law_script"] (defScope s_law_pool) := ⟨rfl, rfl, rfl, by decide +kernel, rfl, by decide +kernel, by decide +kernel⟩
theorem hb_law_pool (T : Txt P K mg base C_BadBook C_LabelError C_Book) {qual : Str} {f : Addr} {cdv : Value} {A : Around} {outer : List Env} {s : Shared} {H : Hp} {E : XK} (C : Ctx (cxOf (L2.CX P HW.w) P HW.w K mg base ["_law_script", "_law_seed", "_law_value"] qual (defScope s_law_pool) f cdv A outer s H E) (Wish.of fun c d _ H => E c d H) 0) :
    BV (cxOf (L2.CX P HW.w) P HW.w K mg base ["_law_script", "_law_seed", "_law_value"] qual (defScope s_law_pool) f cdv A outer s H E) (Wish.of fun c d _ H => E c d H) (defBody s_law_pool) B_law_pool :=
  bv_cons (sv_set (i := 1) C.nd (ev_int)) (bv_cons (sv_for C (iv_seq (ev_sl (ev_var (i := 0)) (ov_no) (ov_yes (ev_int)))) (gv_nm (i := 2) C.nd) (bv_one (sv_set (i := 1) C.nd (ev_op op_mod os_mod (ev_callTy call_int1 os_int T.n_int (av_cons (ev_op or_add os_add (ev_op or_add os_add (ev_op or_mul os_mul (ev_var (i := 1)) (ev_int)) (ev_var (i := 2))) (ev_int)) (av_nil))) (ev_int))))) (bv_one (sv_ret (ev_lstC (av_cons (ev_callTy call_list_of os_list T.n_list (av_cons (ev_sl (ev_var (i := 0)) (ov_no) (ov_yes (ev_int))) (av_nil))) (av_cons (ev_int) (av_cons (ev_int) (av_cons (ev_int) (av_cons (ev_var (i := 1)) (av_nil))))))))))
theorem I_law_pool (T : Txt P K mg base C_BadBook C_LabelError C_Book) {qual : Str} {f : Addr} {fd : FuncData} (F : Fun K "_law_pool" qual s_law_pool f fd) (hx : mg "_law_pool" = some (.ref f)) (hB : Binds K fd ["_law_script"] []) : FnIs P HW.w K mg base "_law_pool" 1 1 F_law_pool := fn_is lv_leaveC F hx hB sc_law_pool fun _ _ _ _ _ _ C => hb_law_pool T C
theorem sc_is_integer : FnScope ["value"] ["value"] (defScope s_is_integer) := ⟨rfl, rfl, rfl, by decide +kernel, rfl, by decide +kernel, by decide +kernel⟩
theorem hb_is_integer (T : Txt P K mg base C_BadBook C_LabelError C_Book) {qual : Str} {f : Addr} {cdv : Value} {A : Around} {outer : List Env} {s : Shared} {H : Hp} {E : XK} (C : Ctx (cxOf (L2.CX P HW.w) P HW.w K mg base ["value"] qual (defScope s_is_integer) f cdv A outer s H E) (Wish.of fun c d _ H => E c d H) 0) :
    BV (cxOf (L2.CX P HW.w) P HW.w K mg base ["value"] qual (defScope s_is_integer) f cdv A outer s H E) (Wish.of fun c d _ H => E c d H) (defBody s_is_integer) B_is_integer :=
  bv_one (sv_ret (ev_and (ev_callB cr_isi os_isi T.n_isinstance (av_cons (ev_var (i := 0)) (av_cons (ev_ty T.n_int) (av_nil)))) (ev_one (ev_not (ev_callB cr_isi os_isi T.n_isinstance (av_cons (ev_var (i := 0)) (av_cons (ev_ty T.n_bool) (av_nil))))))))
theorem I_is_integer (T : Txt P K mg base C_BadBook C_LabelError C_Book) {qual : Str} {f : Addr} {fd : FuncData} (F : Fun K "is_integer" qual s_is_integer f fd) (hx : mg "is_integer" = some (.ref f)) (hB : Binds K fd ["value"] []) : FnIs P HW.w K mg base "is_integer" 1 1 F_is_integer := fn_is lv_leave F hx hB sc_is_integer fun _ _ _ _ _ _ C => hb_is_integer T C
theorem sc_is_between : FnScope ["value", "low", "high"] ["value", "low", "high"] (defScope s_is_between) := ⟨rfl, rfl, rfl, by decide +kernel, rfl, by decide +kernel, by decide +kernel⟩
theorem hb_is_between (T : Txt P K mg base C_BadBook C_LabelError C_Book) (I_is_integer : FnIs P HW.w K mg base "is_integer" 1 1 F_is_integer) {qual : Str} {f : Addr} {cdv : Value} {A : Around} {outer : List Env} {s : Shared} {H : Hp} {E : XK} (C : Ctx (cxOf (L2.CX P HW.w) P HW.w K mg base ["value", "low", "high"] qual (defScope s_is_between) f cdv A outer s H E) (Wish.of fun c d _ H => E c d H) 1) :
    BV (cxOf (L2.CX P HW.w) P HW.w K mg base ["value", "low", "high"] qual (defScope s_is_between) f cdv A outer s H E) (Wish.of fun c d _ H => E c d H) (defBody s_is_between) B_is_between :=
  bv_one (sv_ret (ev_and (ev_callI I_is_integer C (by decide) (av_cons (ev_var (i := 0)) (av_nil)) (arN_cons (arN_nil))) (ev_one (ev_chain op_le op_le os_le os_le (ev_var (i := 1)) (ev_var (i := 0)) (ev_var (i := 2))))))
theorem I_is_between (T : Txt P K mg base C_BadBook C_LabelError C_Book) (I_is_integer : FnIs P HW.w K mg base "is_integer" 1 1 F_is_integer) {qual : Str} {f : Addr} {fd : FuncData} (F : Fun K "is_between" qual s_is_between f fd) (hx : mg "is_between" = some (.ref f)) (hB : Binds K fd ["value", "low", "high"] []) : FnIs P HW.w K mg base "is_between" 2 3 F_is_between := fn_is lv_leave F hx hB sc_is_between fun _ _ _ _ _ _ C => hb_is_between T I_is_integer C
theorem sc_is_row : FnScope ["thing", "cell"] ["thing"] (defScope s_is_row) := ⟨rfl, rfl, rfl, by decide +kernel, rfl, by decide +kernel, by decide +kernel⟩
theorem hb_is_row (T : Txt P K mg base C_BadBook C_LabelError C_Book) (I_is_between : FnIs P HW.w K mg base "is_between" 2 3 F_is_between) {qual : Str} {f : Addr} {cdv : Value} {A : Around} {outer : List Env} {s : Shared} {H : Hp} {E : XK} (C : Ctx (cxOf (L2.CX P HW.w) P HW.w K mg base ["thing", "cell"] qual (defScope s_is_row) f cdv A outer s H E) (Wish.of fun c d _ H => E c d H) 2) :
    BV (cxOf (L2.CX P HW.w) P HW.w K mg base ["thing", "cell"] qual (defScope s_is_row) f cdv A outer s H E) (Wish.of fun c d _ H => E c d H) (defBody s_is_row) B_is_row :=
  bv_one (sv_ret (ev_and (ev_callB cr_isi os_isi T.n_isinstance (av_cons (ev_var (i := 0)) (av_cons (ev_ty T.n_tuple) (av_nil)))) (ev_one (ev_callB (cr_all C.calm) os_all T.n_all (av_cons (ev_lcG fin_lst (own := [("cell", 1)]) C.calm C.nd (iv_seq (ev_var (i := 0))) (by show blkC ["thing", "cell"] (defScope s_is_row) _ _ = true; decide +kernel) (by decide) (fun _ h => nomatch h) (fun _ _ _ _ _ => gv_nm (i := 1) C.nd) (fun _ _ _ _ _ => tv_ifs0) (fun s H C1 cl fp => ev_blk C (fun C => ev_callI I_is_between C (by decide) (av_cons (ev_var (i := 1)) (av_cons (ev_int) (av_cons (ev_int) (av_nil)))) (arN_cons (arN_cons (arN_cons (arN_nil))))))) (av_nil))))))
theorem I_is_row (T : Txt P K mg base C_BadBook C_LabelError C_Book) (I_is_between : FnIs P HW.w K mg base "is_between" 2 3 F_is_between) {qual : Str} {f : Addr} {fd : FuncData} (F : Fun K "is_row" qual s_is_row f fd) (hx : mg "is_row" = some (.ref f)) (hB : Binds K fd ["thing"] []) : FnIs P HW.w K mg base "is_row" 3 1 F_is_row := fn_is lv_leave F hx hB sc_is_row fun _ _ _ _ _ _ C => hb_is_row T I_is_between C
theorem sc_is_sign : FnScope ["value"] ["value"] (defScope s_is_sign) := ⟨rfl, rfl, rfl, by decide +kernel, rfl, by decide +kernel, by decide +kernel⟩
theorem hb_is_sign (T : Txt P K mg base C_BadBook C_LabelError C_Book) {qual : Str} {f : Addr} {cdv : Value} {A : Around} {outer : List Env} {s : Shared} {H : Hp} {E : XK} (C : Ctx (cxOf (L2.CX P HW.w) P HW.w K mg base ["value"] qual (defScope s_is_sign) f cdv A outer s H E) (Wish.of fun c d _ H => E c d H) 0) :
    BV (cxOf (L2.CX P HW.w) P HW.w K mg base ["value"] qual (defScope s_is_sign) f cdv A outer s H E) (Wish.of fun c d _ H => E c d H) (defBody s_is_sign) B_is_sign :=
  bv_one (sv_ret (ev_and (ev_callB cr_isi os_isi T.n_isinstance (av_cons (ev_var (i := 0)) (av_cons (ev_ty T.n_str) (av_nil)))) (ev_and (ev_cmp (op_eqD C.room.units) os_eq (ev_callB cr_len os_len T.n_len (av_cons (ev_var (i := 0)) (av_nil))) (ev_int) (nomark _)) (ev_one (ev_cmp (or_in (rm65 C.room)) os_in (ev_var (i := 0)) (ev_gS T.c_SIGNS) (by rfl))))))
theorem I_is_sign (T : Txt P K mg base C_BadBook C_LabelError C_Book) {qual : Str} {f : Addr} {fd : FuncData} (F : Fun K "is_sign" qual s_is_sign f fd) (hx : mg "is_sign" = some (.ref f)) (hB : Binds K fd ["value"] []) : FnIs P HW.w K mg base "is_sign" 1 1 F_is_sign := fn_is lv_leave F hx hB sc_is_sign fun _ _ _ _ _ _ C => hb_is_sign T C
theorem sc_are_patterns : FnScope ["value", "widths", "sign", "row"] ["value"] (defScope s_are_patterns) := ⟨rfl, rfl, rfl, by decide +kernel, rfl, by decide +kernel, by decide +kernel⟩
theorem hb_are_patterns (T : Txt P K mg base C_BadBook C_LabelError C_Book) (I_is_row : FnIs P HW.w K mg base "is_row" 3 1 F_is_row) (I_is_sign : FnIs P HW.w K mg base "is_sign" 1 1 F_is_sign) {qual : Str} {f : Addr} {cdv : Value} {A : Around} {outer : List Env} {s : Shared} {H : Hp} {E : XK} (C : Ctx (cxOf (L2.CX P HW.w) P HW.w K mg base ["value", "widths", "sign", "row"] qual (defScope s_are_patterns) f cdv A outer s H E) (Wish.of fun c d _ H => E c d H) 3) :
    BV (cxOf (L2.CX P HW.w) P HW.w K mg base ["value", "widths", "sign", "row"] qual (defScope s_are_patterns) f cdv A outer s H E) (Wish.of fun c d _ H => E c d H) (defBody s_are_patterns) B_are_patterns :=
  bv_cons (sv_if (tv_w (wv_or (tv_not (tv_val (ev_callB cr_isiN os_isiN T.n_isinstance (av_cons (ev_var (i := 0)) (av_cons (ev_ty T.n_dict) (av_nil)))))) (wv_or1 (tv_not (tv_chain op_le op_le os_le os_le (ev_int) (ev_callB cr_nlen os_nlen T.n_len (av_cons (ev_var (i := 0)) (av_nil))) (ev_gI T.c_MOST_SIGNS)))))) (bv_one (sv_ret (ev_bl))) (bv_nil)) (bv_cons (sv_set (i := 1) C.nd (ev_lstC (av_nil))) (bv_cons (sv_lockN (sv_for C (iv_itemsN (ev_var (i := 0))) (gv_tl C.calm (gvs_cons (gv_nm (i := 2) C.nd) (gvs_cons (gv_nm (i := 3) C.nd) (gvs_nil)))) (bv_cons (sv_if (tv_w (wv_or (tv_not (tv_val (ev_callI I_is_sign C (by decide) (av_cons (ev_var (i := 2)) (av_nil)) (arN_cons (arN_nil))))) (wv_or (tv_not (tv_val (ev_callI I_is_row C (by decide) (av_cons (ev_var (i := 3)) (av_nil)) (arN_cons (arN_nil))))) (wv_or1 (tv_not (tv_chain op_le op_le os_le os_le (ev_int) (ev_callB cr_len os_len T.n_len (av_cons (ev_var (i := 3)) (av_nil))) (ev_gI T.c_WIDEST_BLOCK))))))) (bv_one (sv_ret (ev_bl))) (bv_nil)) (bv_one (sv_expr (ev_m PySem.F.plainAttrs_list PySem.F.slot_list_append PySem.F.type_list_append ty_lst mt_append os_append (ev_var (i := 1)) (av_cons (ev_callB cr_len os_len T.n_len (av_cons (ev_var (i := 3)) (av_nil))) (av_nil)))))))) (bv_one (sv_ret (ev_cmp (op_eqD C.room.units) os_eq (ev_callB (cr_minX C.calm) os_minX T.n_min (av_cons (ev_var (i := 1)) (av_nil))) (ev_callB (cr_maxX C.calm) os_maxX T.n_max (av_cons (ev_var (i := 1)) (av_nil))) (nomark _))))))
theorem I_are_patterns (T : Txt P K mg base C_BadBook C_LabelError C_Book) (I_is_row : FnIs P HW.w K mg base "is_row" 3 1 F_is_row) (I_is_sign : FnIs P HW.w K mg base "is_sign" 1 1 F_is_sign) {qual : Str} {f : Addr} {fd : FuncData} (F : Fun K "are_patterns" qual s_are_patterns f fd) (hx : mg "are_patterns" = some (.ref f)) (hB : Binds K fd ["value"] []) : FnIs P HW.w K mg base "are_patterns" 4 1 F_are_patterns := fn_is lv_leave F hx hB sc_are_patterns fun _ _ _ _ _ _ C => hb_are_patterns T I_is_row I_is_sign C
theorem sc_is_row_of : FnScope ["thing", "width"] ["thing", "width"] (defScope s_is_row_of) := ⟨rfl, rfl, rfl, by decide +kernel, rfl, by decide +kernel, by decide +kernel⟩
theorem hb_is_row_of (T : Txt P K mg base C_BadBook C_LabelError C_Book) (I_is_row : FnIs P HW.w K mg base "is_row" 3 1 F_is_row) {qual : Str} {f : Addr} {cdv : Value} {A : Around} {outer : List Env} {s : Shared} {H : Hp} {E : XK} (C : Ctx (cxOf (L2.CX P HW.w) P HW.w K mg base ["thing", "width"] qual (defScope s_is_row_of) f cdv A outer s H E) (Wish.of fun c d _ H => E c d H) 3) :
    BV (cxOf (L2.CX P HW.w) P HW.w K mg base ["thing", "width"] qual (defScope s_is_row_of) f cdv A outer s H E) (Wish.of fun c d _ H => E c d H) (defBody s_is_row_of) B_is_row_of :=
  bv_one (sv_ret (ev_and (ev_callI I_is_row C (by decide) (av_cons (ev_var (i := 0)) (av_nil)) (arN_cons (arN_nil))) (ev_one (ev_cmp (op_eqD C.room.units) os_eq (ev_callB cr_len os_len T.n_len (av_cons (ev_var (i := 0)) (av_nil))) (ev_var (i := 1)) (nomark _)))))
theorem I_is_row_of (T : Txt P K mg base C_BadBook C_LabelError C_Book) (I_is_row : FnIs P HW.w K mg base "is_row" 3 1 F_is_row) {qual : Str} {f : Addr} {fd : FuncData} (F : Fun K "is_row_of" qual s_is_row_of f fd) (hx : mg "is_row_of" = some (.ref f)) (hB : Binds K fd ["thing", "width"] []) : FnIs P HW.w K mg base "is_row_of" 4 2 F_is_row_of := fn_is lv_leave F hx hB sc_is_row_of fun _ _ _ _ _ _ C => hb_is_row_of T I_is_row C
theorem sc_Book___init__ : FnScope ["self", "patterns", "start", "stop", "sign", "rows"] ["self", "patterns", "start", "stop"] (defScope s_Book___init__) := ⟨rfl, rfl, rfl, by decide +kernel, rfl, by decide +kernel, by decide +kernel⟩
theorem hb_Book___init__ (T : Txt P K mg base C_BadBook C_LabelError C_Book) (I_are_patterns : FnIs P HW.w K mg base "are_patterns" 4 1 F_are_patterns) (I_is_row_of : FnIs P HW.w K mg base "is_row_of" 4 2 F_is_row_of) {qual : Str} {f : Addr} {cdv : Value} {A : Around} {outer : List Env} {s : Shared} {H : Hp} {E : XK} (C : Ctx (cxOf (L2.CX P HW.w) P HW.w K mg base ["self", "patterns", "start", "stop", "sign", "rows"] qual (defScope s_Book___init__) f cdv A outer s H E) (Wish.of fun c d _ H => E c d H) 4) :
    BV (cxOf (L2.CX P HW.w) P HW.w K mg base ["self", "patterns", "start", "stop", "sign", "rows"] qual (defScope s_Book___init__) f cdv A outer s H E) (Wish.of fun c d _ H => E c d H) (defBody s_Book___init__) B_Book___init__ :=
  bv_cons (sv_if (tv_not (tv_val (ev_callI I_are_patterns C (by decide) (av_cons (ev_var (i := 1)) (av_nil)) (arN_cons (arN_nil))))) (bv_one (sv_raise1 C (by decide) T.E_BadBook (av_cons (ev_str) (av_nil)))) (bv_nil)) (bv_cons (sv_fld (fldCons T.g_Book T.k_Book.cl T.nf_Book_signs fldNil) (ev_callTy call_tuple_of os_tuple T.n_tuple (av_cons (ev_callB (cr_sortN C.calm) (os_sortN rfl) T.n_sorted (av_cons (ev_var (i := 1)) (av_nil))) (av_nil))) (ev_var (i := 0))) (bv_cons (sv_fld (fldCons T.g_Book T.k_Book.cl T.nf_Book_width fldNil) (ev_callB cr_len os_len T.n_len (av_cons (ev_nget rfl C (ev_var (i := 1)) (ev_ix ix_seq os_ix (ev_fld (fldCons T.g_Book T.k_Book.cl T.nf_Book_signs fldNil) (ev_var (i := 0))) (ev_int) (fun _ _ => rfl))) (av_nil))) (ev_var (i := 0))) (bv_cons (sv_if (tv_not (tv_val (ev_callI I_is_row_of C (by decide) (av_cons (ev_var (i := 2)) (av_cons (ev_fld (fldCons T.g_Book T.k_Book.cl T.nf_Book_width fldNil) (ev_var (i := 0))) (av_nil))) (arN_cons (arN_cons (arN_nil)))))) (bv_one (sv_raise1 C (by decide) T.E_BadBook (av_cons (ev_str) (av_nil)))) (bv_nil)) (bv_cons (sv_if (tv_not (tv_val (ev_callI I_is_row_of C (by decide) (av_cons (ev_var (i := 3)) (av_cons (ev_fld (fldCons T.g_Book T.k_Book.cl T.nf_Book_width fldNil) (ev_var (i := 0))) (av_nil))) (arN_cons (arN_cons (arN_nil)))))) (bv_one (sv_raise1 C (by decide) T.E_BadBook (av_cons (ev_str) (av_nil)))) (bv_nil)) (bv_cons (sv_fld (fldCons T.g_Book T.k_Book.cl T.nf_Book_start fldNil) (ev_var (i := 2)) (ev_var (i := 0))) (bv_cons (sv_fld (fldCons T.g_Book T.k_Book.cl T.nf_Book_stop fldNil) (ev_var (i := 3)) (ev_var (i := 0))) (bv_cons (sv_fld (fldCons T.g_Book T.k_Book.cl T.nf_Book__rows fldNil) (ev_dct0) (ev_var (i := 0))) (bv_cons (sv_for C (iv_seq (ev_fld (fldCons T.g_Book T.k_Book.cl T.nf_Book_signs fldNil) (ev_var (i := 0)))) (gv_nm (i := 4) C.nd) (bv_one (sv_subD C (ev_nget rfl C (ev_var (i := 1)) (ev_var (i := 4))) (ev_fld (fldCons T.g_Book T.k_Book.cl T.nf_Book__rows fldNil) (ev_var (i := 0))) (ev_var (i := 4))))) (bv_cons (sv_set (i := 5) C.nd (ev_op or_add os_add (ev_listV C.calm T.n_list (ev_fld (fldCons T.g_Book T.k_Book.cl T.nf_Book__rows fldNil) (ev_var (i := 0)))) (ev_lst (av_cons (ev_var (i := 2)) (av_cons (ev_var (i := 3)) (av_nil)))))) (bv_one (sv_if (tv_cmp or_lt os_lt (ev_lenSet C T.n_len T.n_set (ev_var (i := 5))) (ev_callB cr_len os_len T.n_len (av_cons (ev_var (i := 5)) (av_nil))) (nomark _)) (bv_one (sv_raise1 C (by decide) T.E_BadBook (av_cons (ev_str) (av_nil)))) (bv_nil))))))))))))
theorem MK_Book (T : Txt P K mg base C_BadBook C_LabelError C_Book) (I_are_patterns : FnIs P HW.w K mg base "are_patterns" 4 1 F_are_patterns) (I_is_row_of : FnIs P HW.w K mg base "is_row_of" 4 2 F_is_row_of) {f : Addr} {fd : FuncData} (F : Fun K "__init__" "Book.__init__" s_Book___init__ f fd) (M : Mk K C_Book f) (hB : Binds K fd ["self", "patterns", "start", "stop"] []) : MkIs P HW.w K mg base "Book" 5 3 F_Book___init__ := ⟨C_Book, f, fd, _, M, fn_okI F sc_Book___init__ rfl rfl fun _ _ _ _ _ _ C => hb_Book___init__ T I_are_patterns I_is_row_of C, T.g_Book, hB⟩
theorem sc_law_told : FnScope ["_law_patterns", "_law_start", "_law_stop", "_law_told_here", "e"] ["_law_patterns", "_law_start", "_law_stop"] (defScope s_law_told) := ⟨rfl, rfl, rfl, by decide +kernel, rfl, by decide +kernel, by decide +kernel⟩
theorem hb_law_told (T : Txt P K mg base C_BadBook C_LabelError C_Book) (MK_Book : MkIs P HW.w K mg base "Book" 5 3 F_Book___init__) {qual : Str} {f : Addr} {cdv : Value} {A : Around} {outer : List Env} {s : Shared} {H : Hp} {E : XK} (C : Ctx (cxOf (L2.CX P HW.w) P HW.w K mg base ["_law_patterns", "_law_start", "_law_stop", "_law_told_here", "e"] qual (defScope s_law_told) f cdv A outer s H E) (Wish.of fun c d _ H => E c d H) 6) :
    BV (cxOf (L2.CX P HW.w) P HW.w K mg base ["_law_patterns", "_law_start", "_law_stop", "_law_told_here", "e"] qual (defScope s_law_told) f cdv A outer s H E) (Wish.of fun c d _ H => E c d H) (defBody s_law_told) B_law_told :=
  bv_cons (sv_set (i := 3) C.nd (ev_str)) (bv_cons (sv_try C T.ext rfl rfl (fun W pl xe C => bv_one (sv_expr (ev_makeG lv_leave MK_Book C (by decide) (av_cons (ev_var (i := 0)) (av_cons (ev_var (i := 1)) (av_cons (ev_var (i := 2)) (av_nil)))) (arN_cons (arN_cons (arN_cons (arN_nil))))))) (.as (i := 4) rfl (by decide) T.g_BadBook rfl rfl List.not_mem_nil (fun a ob cls d pl x hz hf => bv_one (sv_set (i := 3) C.nd (ev_xf (i := 4) T.xf_BadBook T.g_BadBook T.xn_BadBook_part hz hf rfl (Or.inl rfl)) (hk := lkS (by decide) List.not_mem_nil))) (.one rfl (by decide) T.g_LabelError (fun a ob cls d pl x hz hf => bv_one (sv_set (i := 3) C.nd (ev_str) (hk := lkN List.not_mem_nil))) (.nil)))) (bv_one (sv_ret (ev_var (i := 3)))))
theorem I_law_told (T : Txt P K mg base C_BadBook C_LabelError C_Book) (MK_Book : MkIs P HW.w K mg base "Book" 5 3 F_Book___init__) {qual : Str} {f : Addr} {fd : FuncData} (F : Fun K "_law_told" qual s_law_told f fd) (hx : mg "_law_told" = some (.ref f)) (hB : Binds K fd ["_law_patterns", "_law_start", "_law_stop"] []) : FnIs P HW.w K mg base "_law_told" 7 3 F_law_told := fn_is lv_leave F hx hB sc_law_told fun _ _ _ _ _ _ C => hb_law_told T MK_Book C
theorem sc_law_wrong_row : FnScope ["_law_pool_here", "_law_row", "_law_odd"] ["_law_pool_here", "_law_row"] (defScope s_law_wrong_row) := ⟨rfl, rfl, rfl, by decide +kernel, rfl, by decide +kernel, by decide +kernel⟩
theorem hb_law_wrong_row (T : Txt P K mg base C_BadBook C_LabelError C_Book) (I_law_draw : FnIs P HW.w K mg base "_law_draw" 1 2 F_law_draw) {qual : Str} {f : Addr} {cdv : Value} {A : Around} {outer : List Env} {s : Shared} {H : Hp} {E : XK} (C : Ctx (cxOf (L2.CX P HW.w) P HW.w K mg base ["_law_pool_here", "_law_row", "_law_odd"] qual (defScope s_law_wrong_row) f cdv A outer s H E) (Wish.of fun c d _ H => E c d H) 1) :
    BV (cxOf (L2.CX P HW.w) P HW.w K mg base ["_law_pool_here", "_law_row", "_law_odd"] qual (defScope s_law_wrong_row) f cdv A outer s H E) (Wish.of fun c d _ H => E c d H) (defBody s_law_wrong_row) B_law_wrong_row :=
  bv_cons (sv_set (i := 2) C.nd (ev_lst (av_cons (ev_non) (av_cons (ev_int) (av_cons (ev_str) (av_cons (ev_callTy call_list_of os_list T.n_list (av_cons (ev_var (i := 1)) (av_nil))) (av_cons (ev_tup (av_nil)) (av_cons (ev_op or_add os_add (ev_var (i := 1)) (ev_tup (av_cons (ev_int) (av_nil)))) (av_cons (ev_sl (ev_var (i := 1)) (ov_yes (ev_int)) (ov_no)) (av_cons (ev_op or_add os_add (ev_op or_add os_add (ev_sl (ev_var (i := 1)) (ov_no) (ov_yes (ev_int))) (ev_tup (av_cons (ev_int) (av_nil)))) (ev_sl (ev_var (i := 1)) (ov_yes (ev_int)) (ov_no))) (av_cons (ev_op or_add os_add (ev_op or_add os_add (ev_sl (ev_var (i := 1)) (ov_no) (ov_yes (ev_int))) (ev_tup (av_cons (ev_bl) (av_nil)))) (ev_sl (ev_var (i := 1)) (ov_yes (ev_int)) (ov_no))) (av_cons (ev_dict0) (av_nil))))))))))))) (bv_cons (sv_set (i := 2) C.nd (ev_op or_add os_add (ev_var (i := 2)) (ev_lst (av_cons (ev_tup (av_cons (ev_int) (av_cons (ev_int) (av_cons (ev_int) (av_cons (ev_int) (av_cons (ev_int) (av_cons (ev_int) (av_cons (ev_int) (av_nil))))))))) (av_cons (ev_op or_mulX os_mulX (ev_tup (av_cons (ev_tup (av_cons (ev_int) (av_nil))) (av_nil))) (ev_callB cr_len os_len T.n_len (av_cons (ev_var (i := 1)) (av_nil)))) (av_cons (ev_op or_add os_add (ev_op or_add os_add (ev_sl (ev_var (i := 1)) (ov_no) (ov_yes (ev_int))) (ev_tup (av_cons (ev_non) (av_nil)))) (ev_sl (ev_var (i := 1)) (ov_yes (ev_int)) (ov_no))) (av_nil))))))) (bv_one (sv_ret (ev_ix ix_seq os_ix (ev_var (i := 2)) (ev_callI I_law_draw C (by decide) (av_cons (ev_var (i := 0)) (av_cons (ev_callB cr_len os_len T.n_len (av_cons (ev_var (i := 2)) (av_nil))) (av_nil))) (arN_cons (arN_cons (arN_nil)))) (fun _ _ => rfl)))))
theorem I_law_wrong_row (T : Txt P K mg base C_BadBook C_LabelError C_Book) (I_law_draw : FnIs P HW.w K mg base "_law_draw" 1 2 F_law_draw) {qual : Str} {f : Addr} {fd : FuncData} (F : Fun K "_law_wrong_row" qual s_law_wrong_row f fd) (hx : mg "_law_wrong_row" = some (.ref f)) (hB : Binds K fd ["_law_pool_here", "_law_row"] []) : FnIs P HW.w K mg base "_law_wrong_row" 2 2 F_law_wrong_row := fn_is lv_leave F hx hB sc_law_wrong_row fun _ _ _ _ _ _ C => hb_law_wrong_row T I_law_draw C
theorem sc_law : FnScope ["_law_script", "_law_pool_here", "_law_model", "_law_things", "_law_turn", "_law_pick", "_law_sign", "_law_more"] ["_law_script"] (defScope s_law) := ⟨rfl, rfl, rfl, by decide +kernel, rfl, by decide +kernel, by decide +kernel⟩
theorem hb_law (T : Txt P K mg base C_BadBook C_LabelError C_Book) (I_law_draw : FnIs P HW.w K mg base "_law_draw" 1 2 F_law_draw) (I_law_drawn_book : FnIs P HW.w K mg base "_law_drawn_book" 4 1 F_law_drawn_book) (I_law_due : FnIs P HW.w K mg base "_law_due" 2 3 F_law_due) (I_law_pool : FnIs P HW.w K mg base "_law_pool" 1 1 F_law_pool) (I_law_told : FnIs P HW.w K mg base "_law_told" 7 3 F_law_told) (I_law_wrong_row : FnIs P HW.w K mg base "_law_wrong_row" 2 2 F_law_wrong_row) {qual : Str} {f : Addr} {cdv : Value} {A : Around} {outer : List Env} {s : Shared} {H : Hp} {E : XK} (C : Ctx (cxOf (L2.CX P HW.w) P HW.w K mg base ["_law_script", "_law_pool_here", "_law_model", "_law_things", "_law_turn", "_law_pick", "_law_sign", "_law_more"] qual (defScope s_law) f cdv A outer s H E) (Wish.of fun c d _ H => E c d H) 7) :
    BV (cxOf (L2.CX P HW.w) P HW.w K mg base ["_law_script", "_law_pool_here", "_law_model", "_law_things", "_law_turn", "_law_pick", "_law_sign", "_law_more"] qual (defScope s_law) f cdv A outer s H E) (Wish.of fun c d _ H => E c d H) (defBody s_law) B_law :=
  bv_cons (sv_set (i := 1) C.nd (ev_callI I_law_pool C (by decide) (av_cons (ev_var (i := 0)) (av_nil)) (arN_cons (arN_nil)))) (bv_cons (sv_set (i := 2) C.nd (ev_callI I_law_drawn_book C (by decide) (av_cons (ev_var (i := 1)) (av_nil)) (arN_cons (arN_nil)))) (bv_cons (sv_set (i := 3) C.nd (ev_lstC (av_cons (ev_asN rfl (ev_callTy call_dictD os_dictC T.n_dict (av_cons (ev_ix ix_seq os_ix (ev_var (i := 2)) (ev_int) (fun _ _ => rfl)) (av_nil)))) (av_cons (ev_ix ix_seq os_ix (ev_var (i := 2)) (ev_int) (fun _ _ => rfl)) (av_cons (ev_ix ix_seq os_ix (ev_var (i := 2)) (ev_int) (fun _ _ => rfl)) (av_nil)))))) (bv_cons (sv_if (tv_cmp (op_neD C.room.units) os_ne (ev_callI I_law_told C (by decide) (av_cons (ev_ix ix_seq os_ix (ev_var (i := 3)) (ev_int) (fun _ _ => rfl)) (av_cons (ev_ix ix_seq os_ix (ev_var (i := 3)) (ev_int) (fun _ _ => rfl)) (av_cons (ev_ix ix_seq os_ix (ev_var (i := 3)) (ev_int) (fun _ _ => rfl)) (av_nil)))) (arN_cons (arN_cons (arN_cons (arN_nil))))) (ev_str) (nomark _)) (bv_one (sv_ret (ev_bl))) (bv_nil)) (bv_cons (sv_for C (iv_rng1 T.n_range (av_cons (ev_op or_add os_add (ev_int) (ev_callI I_law_draw C (by decide) (av_cons (ev_var (i := 1)) (av_cons (ev_int) (av_nil))) (arN_cons (arN_cons (arN_nil))))) (av_nil))) (gv_nm (i := 4) C.nd) (bv_cons (sv_set (i := 5) C.nd (ev_callI I_law_draw C (by decide) (av_cons (ev_var (i := 1)) (av_cons (ev_int) (av_nil))) (arN_cons (arN_cons (arN_nil))))) (bv_cons (sv_set (i := 6) C.nd (ev_ix ix_seq os_ix (ev_callB cr_sortedS os_sortS T.n_sorted (av_cons (ev_callTy (SLd.call_list_dR C.calm) os_listD T.n_list (av_cons (ev_ix ix_seq os_ix (ev_var (i := 2)) (ev_int) (fun _ _ => rfl)) (av_nil))) (av_nil))) (ev_callI I_law_draw C (by decide) (av_cons (ev_var (i := 1)) (av_cons (ev_callB cr_dlen os_dlen T.n_len (av_cons (ev_ix ix_seq os_ix (ev_var (i := 2)) (ev_int) (fun _ _ => rfl)) (av_nil))) (av_nil))) (arN_cons (arN_cons (arN_nil)))) (fun _ _ => rfl))) (bv_cons (sv_if (tv_cmp (op_eqD C.room.units) os_eq (ev_var (i := 5)) (ev_int) (nomark _)) (bv_one (sv_sub set_list os_setL (ev_callI I_law_wrong_row C (by decide) (av_cons (ev_var (i := 1)) (av_cons (ev_ix ix_seq os_ix (ev_var (i := 2)) (ev_int) (fun _ _ => rfl)) (av_nil))) (arN_cons (arN_cons (arN_nil)))) (ev_var (i := 3)) (ev_int))) (bv_one (sv_if (tv_cmp (op_eqD C.room.units) os_eq (ev_var (i := 5)) (ev_int) (nomark _)) (bv_one (sv_sub set_list os_setL (ev_callI I_law_wrong_row C (by decide) (av_cons (ev_var (i := 1)) (av_cons (ev_ix ix_seq os_ix (ev_var (i := 2)) (ev_int) (fun _ _ => rfl)) (av_nil))) (arN_cons (arN_cons (arN_nil)))) (ev_var (i := 3)) (ev_int))) (bv_one (sv_if (tv_cmp (op_eqD C.room.units) os_eq (ev_var (i := 5)) (ev_int) (nomark _)) (bv_one (sv_sub set_list os_setL (ev_ix ix_seq os_ix (ev_lst (av_cons (ev_ix ix_seq os_ix (ev_var (i := 2)) (ev_int) (fun _ _ => rfl)) (av_cons (ev_ix ix_seq os_ix (ev_var (i := 2)) (ev_int) (fun _ _ => rfl)) (av_cons (ev_dget C (ev_ix ix_seq os_ix (ev_var (i := 2)) (ev_int) (fun _ _ => rfl)) (ev_var (i := 6))) (av_nil))))) (ev_callI I_law_draw C (by decide) (av_cons (ev_var (i := 1)) (av_cons (ev_int) (av_nil))) (arN_cons (arN_cons (arN_nil)))) (fun _ _ => rfl)) (ev_var (i := 3)) (ev_op op_sub os_sub (ev_int) (ev_callI I_law_draw C (by decide) (av_cons (ev_var (i := 1)) (av_cons (ev_int) (av_nil))) (arN_cons (arN_cons (arN_nil))))))) (bv_one (sv_if (tv_cmp (op_eqD C.room.units) os_eq (ev_var (i := 5)) (ev_int) (nomark _)) (bv_one (sv_sub set_list os_setL (ev_ix ix_seq os_ix (ev_lst (av_cons (ev_non) (av_cons (ev_lst (av_nil)) (av_cons (ev_ndct0 rfl) (av_cons (ev_int) (av_cons (ev_str) (av_cons (ev_lst (av_cons (ev_ix ix_seq os_ix (ev_var (i := 2)) (ev_int) (fun _ _ => rfl)) (av_nil))) (av_cons (ev_tup (av_cons (ev_str) (av_nil))) (av_nil))))))))) (ev_callI I_law_draw C (by decide) (av_cons (ev_var (i := 1)) (av_cons (ev_int) (av_nil))) (arN_cons (arN_cons (arN_nil)))) (fun _ _ => rfl)) (ev_var (i := 3)) (ev_int))) (bv_one (sv_if (tv_val (ev_callB cr_isiN os_isiN T.n_isinstance (av_cons (ev_ix ix_seq os_ix (ev_var (i := 3)) (ev_int) (fun _ _ => rfl)) (av_cons (ev_ty T.n_dict) (av_nil))))) (bv_one (sv_if (tv_cmp (op_eqD C.room.units) os_eq (ev_var (i := 5)) (ev_int) (nomark _)) (bv_one (sv_sub (set_nest (by have := C.room.un; omega)) (os_setN rfl) (ev_dget C (ev_ix ix_seq os_ix (ev_var (i := 2)) (ev_int) (fun _ _ => rfl)) (ev_var (i := 6))) (ev_ix ix_seq os_ix (ev_var (i := 3)) (ev_int) (fun _ _ => rfl)) (ev_ix ix_seq os_ix (ev_lst (av_cons (ev_str) (av_cons (ev_str) (av_cons (ev_str) (av_cons (ev_int) (av_cons (ev_non) (av_cons (ev_tup (av_nil)) (av_cons (ev_str) (av_cons (ev_bl) (av_nil)))))))))) (ev_callI I_law_draw C (by decide) (av_cons (ev_var (i := 1)) (av_cons (ev_int) (av_nil))) (arN_cons (arN_cons (arN_nil)))) (fun _ _ => rfl)))) (bv_one (sv_if (tv_cmp (op_eqD C.room.units) os_eq (ev_var (i := 5)) (ev_int) (nomark _)) (bv_one (sv_sub (set_nest (by have := C.room.un; omega)) (os_setN rfl) (ev_callI I_law_wrong_row C (by decide) (av_cons (ev_var (i := 1)) (av_cons (ev_dget C (ev_ix ix_seq os_ix (ev_var (i := 2)) (ev_int) (fun _ _ => rfl)) (ev_var (i := 6))) (av_nil))) (arN_cons (arN_cons (arN_nil)))) (ev_ix ix_seq os_ix (ev_var (i := 3)) (ev_int) (fun _ _ => rfl)) (ev_var (i := 6)))) (bv_one (sv_if (tv_cmp (op_eqD C.room.units) os_eq (ev_var (i := 5)) (ev_int) (nomark _)) (bv_one (sv_for C (iv_str (ev_str)) (gv_nm (i := 7) C.nd) (bv_one (sv_sub (set_nest (by have := C.room.un; omega)) (os_setN rfl) (ev_dget C (ev_ix ix_seq os_ix (ev_var (i := 2)) (ev_int) (fun _ _ => rfl)) (ev_var (i := 6))) (ev_ix ix_seq os_ix (ev_var (i := 3)) (ev_int) (fun _ _ => rfl)) (ev_var (i := 7)))))) (bv_one (sv_if (tv_cmp (op_eqD C.room.units) os_eq (ev_var (i := 5)) (ev_int) (nomark _)) (bv_one (sv_sub (set_nest (by have := C.room.un; omega)) (os_setN rfl) (ev_dget C (ev_ix ix_seq os_ix (ev_var (i := 2)) (ev_int) (fun _ _ => rfl)) (ev_var (i := 6))) (ev_ix ix_seq os_ix (ev_var (i := 3)) (ev_int) (fun _ _ => rfl)) (ev_str))) (bv_one (sv_sub (set_nest (by have := C.room.un; omega)) (os_setN rfl) (ev_ix ix_seq os_ix (ev_lst (av_cons (ev_ix ix_seq os_ix (ev_var (i := 2)) (ev_int) (fun _ _ => rfl)) (av_cons (ev_ix ix_seq os_ix (ev_var (i := 2)) (ev_int) (fun _ _ => rfl)) (av_nil)))) (ev_callI I_law_draw C (by decide) (av_cons (ev_var (i := 1)) (av_cons (ev_int) (av_nil))) (arN_cons (arN_cons (arN_nil)))) (fun _ _ => rfl)) (ev_ix ix_seq os_ix (ev_var (i := 3)) (ev_int) (fun _ _ => rfl)) (ev_var (i := 6)))))))))))) (bv_nil)))))))))) (bv_one (sv_if (tv_cmp (op_neD C.room.units) os_ne (ev_callI I_law_told C (by decide) (av_cons (ev_ix ix_seq os_ix (ev_var (i := 3)) (ev_int) (fun _ _ => rfl)) (av_cons (ev_ix ix_seq os_ix (ev_var (i := 3)) (ev_int) (fun _ _ => rfl)) (av_cons (ev_ix ix_seq os_ix (ev_var (i := 3)) (ev_int) (fun _ _ => rfl)) (av_nil)))) (arN_cons (arN_cons (arN_cons (arN_nil))))) (ev_callI I_law_due C (by decide) (av_cons (ev_ix ix_seq os_ix (ev_var (i := 3)) (ev_int) (fun _ _ => rfl)) (av_cons (ev_ix ix_seq os_ix (ev_var (i := 3)) (ev_int) (fun _ _ => rfl)) (av_cons (ev_ix ix_seq os_ix (ev_var (i := 3)) (ev_int) (fun _ _ => rfl)) (av_nil)))) (arN_cons (arN_cons (arN_cons (arN_nil))))) (nomark _)) (bv_one (sv_ret (ev_bl))) (bv_nil))))))) (bv_one (sv_ret (ev_bl)))))))
theorem ok_law (T : Txt P K mg base C_BadBook C_LabelError C_Book) (I_law_draw : FnIs P HW.w K mg base "_law_draw" 1 2 F_law_draw) (I_law_drawn_book : FnIs P HW.w K mg base "_law_drawn_book" 4 1 F_law_drawn_book) (I_law_due : FnIs P HW.w K mg base "_law_due" 2 3 F_law_due) (I_law_pool : FnIs P HW.w K mg base "_law_pool" 1 1 F_law_pool) (I_law_told : FnIs P HW.w K mg base "_law_told" 7 3 F_law_told) (I_law_wrong_row : FnIs P HW.w K mg base "_law_wrong_row" 2 2 F_law_wrong_row) {f : Addr} {fd : FuncData} (F : Fun K "law" "law" s_law f fd) : FnOk P HW.w K mg base (L2.CX P HW.w) 8 f fd ["_law_script"] (spF K mg 1 F_law) := fn_okG lv_leave F sc_law rfl rfl fun _ _ _ _ _ _ C => hb_law T I_law_draw I_law_drawn_book I_law_due I_law_pool I_law_told I_law_wrong_row C
end
end SL

namespace SL
open PySem PySem.Spec PyProof.Rows L2
section
variable {n : String} {st : Sto}
end
/-! ## the drawn numbers -/
def plW (ns : List Int) (p b n s : Int) : Cel := .lst [.lst (ns.map W.int), .int p, .int b, .int n, .int s]
section
variable {ns : List Int} {p b n s v : Int} {r : Sto}
@[simp] theorem pl0 : oIx (.cell 0) (.int 0) (plW ns p b n s :: r) = .ok (.lst (ns.map W.int)) (plW ns p b n s :: r) := rfl
@[simp] theorem pl1 : oIx (.cell 0) (.int 1) (plW ns p b n s :: r) = .ok (.int p) (plW ns p b n s :: r) := rfl
@[simp] theorem pl2 : oIx (.cell 0) (.int 2) (plW ns p b n s :: r) = .ok (.int b) (plW ns p b n s :: r) := rfl
@[simp] theorem pl3 : oIx (.cell 0) (.int 3) (plW ns p b n s :: r) = .ok (.int n) (plW ns p b n s :: r) := rfl
@[simp] theorem pl4 : oIx (.cell 0) (.int 4) (plW ns p b n s :: r) = .ok (.int s) (plW ns p b n s :: r) := rfl
@[simp] theorem ps1 : uLst (.cell 0) (.int 1) (.int v) (plW ns p b n s :: r) = some (plW ns v b n s :: r) := rfl
@[simp] theorem ps2 : uLst (.cell 0) (.int 2) (.int v) (plW ns p b n s :: r) = some (plW ns p v n s :: r) := rfl
@[simp] theorem ps3 : uLst (.cell 0) (.int 3) (.int v) (plW ns p b n s :: r) = some (plW ns p b v s :: r) := rfl
@[simp] theorem ps4 : uLst (.cell 0) (.int 4) (.int v) (plW ns p b n s :: r) = some (plW ns p b n v :: r) := rfl
end
def Pool (c : Cel) : Prop := ∃ ns p b n s, c = plW ns p b n s ∧ 0 ≤ p
/-- what is left of it once the number is ready -/
theorem sub_to {e o i : Sem} {t : SSem} {fr : Fr} {st st1 st2 st3 st4 : Sto} {w ov iv : W} {z : SOut} (h : e fr st = .ok w st1) (h1 : o fr st1 = .ok ov st2) (h2 : i fr st2 = .ok iv st3) (h3 : uLst ov iv w st3 = some st4) (hz : t fr st4 = z) : sSeq (sSub uLst e o i) t fr st = z := by
  unfold sSeq sSub; rw [h]; simp only [Out.stm_ok, h1, h2, h3]; exact hz
theorem draw_ok {c : Cel} {m : Int} (hp : Pool c) (h : 0 < m) (h2 : m.natAbs.log2 < 9000) : ∃ r c', Pool c' ∧ 0 ≤ r ∧ r < m ∧ ∀ rest, F_law_draw [.cell 0, .int m] (c :: rest) = .ok (.int r) (c' :: rest) := by
  obtain ⟨ns, p, b, n, s, rfl, hp⟩ := hp
  have e1 := fun i (h : 0 < i) => Int.emod_nonneg i (Int.ne_of_gt h)
  -- the last part, from a pool on
  have last : ∀ (p b n s : Int) (fr3 : Option W), 0 ≤ p → ∃ q c', Pool c' ∧ 0 ≤ q ∧ q < m ∧ ∀ rest, (sSeq (sIf (bOf (e2 oGt (e2 oIx (eVar 0) (eC (.int 2))) (eC (.int 0)))) (sSeq (sAsg (e2 oMod (eN oInt (aCons (e2 oIx (eVar 0) (eC (.int 2))) (aNil))) (eVar 1)) (gNm 4)) (sSeq (sSub uLst (e2 oDiv (e2 oIx (eVar 0) (eC (.int 2))) (eVar 1)) (eVar 0) (eC (.int 2))) (sRet (eVar 4)))) (sNil)) (sSeq (sAsg (e2 oMod (eN oInt (aCons (e2 oAdd (e2 oAdd (e2 oMul (e2 oIx (eVar 0) (eC (.int 4))) (eC (.int 48271))) (e2 oMul (e2 oIx (eVar 0) (eC (.int 3))) (eC (.int 110503)))) (eC (.int 6133))) (aNil))) (eC (.int 2147483647))) (gNm 2)) (sSeq (sAsg (e2 oMod (eN oInt (aCons (e2 oMul (eVar 2) (e2 oAdd (e2 oDiv (eVar 2) (eC (.int 1031))) (eC (.int 40014)))) (aNil))) (eC (.int 2147483647))) (gNm 2)) (sSeq (sAsg (e2 oMod (eN oInt (aCons (e2 oMul (eVar 2) (e2 oAdd (e2 oDiv (eVar 2) (eC (.int 2039))) (eC (.int 69621)))) (aNil))) (eC (.int 2147483399))) (gNm 2)) (sRet (e2 oMod (eN oInt (aCons (e2 oDiv (eVar 2) (eC (.int 32))) (aNil))) (eVar 1))))))) [some (.cell 0), some (.int m), none, fr3, none] (plW ns p b n s :: rest) = .rt (.int q) (c' :: rest) := by
    intro p b n s fr3 hp
    by_cases hb : 0 < b
    · refine ⟨b % m, plW ns p (b / m) n s, ⟨_, _, _, _, _, rfl, hp⟩, Int.emod_nonneg _ (by omega), Int.emod_lt_of_pos _ h, fun rest => ?_⟩
      simp [hb, x_mod h, x_div h h2, ps2]
    · generalize hx : (s * 48271 + n * 110503 + 6133) % 2147483647 = x
      generalize hy : (x * (x / 1031 + 40014)) % 2147483647 = y
      generalize hw : (y * (y / 2039 + 69621)) % 2147483399 = z
      have x1 : -(2 ^ 64) < x ∧ x < 2 ^ 64 := by omega
      have y1 : -(2 ^ 64) < y ∧ y < 2 ^ 64 := by
        have := Int.emod_nonneg (x * (x / 1031 + 40014)) (b := 2147483647) (by omega)
        have := Int.emod_lt_of_pos (x * (x / 1031 + 40014)) (b := 2147483647) (by omega)
        omega
      refine ⟨(z / 32) % m, plW ns p b n s, ⟨_, _, _, _, _, rfl, hp⟩, Int.emod_nonneg _ (by omega), Int.emod_lt_of_pos _ h, fun rest => ?_⟩
      simp [hb, x_mod h, hx, x_mulL x1, hy, x_mulL y1, hw]
  by_cases hc : b = 0 ∧ p < ns.length
  · obtain ⟨hb, hpl⟩ := hc
    obtain ⟨v, hv⟩ : ∃ v, ns[p.toNat]? = some v := ⟨ns[p.toNat]'(by omega), by simp⟩
    have hv' : (ns.map W.int)[p.toNat]? = some (.int v) := by rw [List.getElem?_map, hv]; rfl
    by_cases hg : 1000000000000000000 ≤ v
    · obtain ⟨q, c', k1, k2, k3, k4⟩ := last (p + 1) v (n + 1) s (some (.int v)) (by omega)
      refine ⟨q, c', k1, k2, k3, fun rest => mk_rt (st1 := c' :: rest) ?_ (by simp)⟩
      rw [← k4]
      unfold B_law_draw
      refine sub_to (st4 := plW ns p b (n + 1) s :: rest) rfl rfl rfl ps3 ?_
      refine seq_to (fr1 := [some (.cell 0), some (.int m), none, some (.int v), none]) (st1 := plW ns (p + 1) v (n + 1) s :: rest) ?_ rfl
      simp [hb, hpl, x_ixL hp hv', ps1, ps2, x_pow, hg]
    · obtain ⟨q, c', k1, k2, k3, k4⟩ := last (p + 1) b (n + 1) ((s * 37 + v + 4217) % 2147483629) (some (.int v)) (by omega)
      refine ⟨q, c', k1, k2, k3, fun rest => mk_rt (st1 := c' :: rest) ?_ (by simp)⟩
      rw [← k4]
      unfold B_law_draw
      refine sub_to (st4 := plW ns p b (n + 1) s :: rest) rfl rfl rfl ps3 ?_
      refine seq_to (fr1 := [some (.cell 0), some (.int m), none, some (.int v), none]) (st1 := plW ns (p + 1) b (n + 1) ((s * 37 + v + 4217) % 2147483629) :: rest) ?_ rfl
      simp [hb, hpl, x_ixL hp hv', hg]
  · obtain ⟨q, c', k1, k2, k3, k4⟩ := last p b (n + 1) s none hp
    refine ⟨q, c', k1, k2, k3, fun rest => mk_rt (st1 := c' :: rest) ?_ (by simp)⟩
    rw [← k4]
    unfold B_law_draw
    refine sub_to (st4 := plW ns p b (n + 1) s :: rest) rfl rfl rfl ps3 ?_
    refine seq_to (fr1 := [some (.cell 0), some (.int m), none, none, none]) (st1 := plW ns p b (n + 1) s :: rest) ?_ rfl
    by_cases hb : b = 0
    · have : ¬ p < (ns.length : Int) := fun z => hc ⟨hb, z⟩
      simp [hb, this]
    · simp [hb]
theorem pool_ok (ns : List Int) : ∃ c, Pool c ∧ F_law_pool [.ro (ns.map W.int)] [] = .ok (.cell 0) [c] := by
  have hc : ∃ ms : List Int, cutW (ns.map W.int) none (some 63) = ms.map W.int := ⟨(ns.drop (HT.sIx (ns.map W.int).length 0 none)).take (HT.sIx (ns.map W.int).length (ns.map W.int).length (some 63) - HT.sIx (ns.map W.int).length 0 none), by
    unfold cutW; rw [List.map_take, List.map_drop]⟩
  obtain ⟨ms, hm⟩ := hc
  have hs : ∀ fr st, fr[0]? = some (some (.ro (ns.map W.int))) → eSl (eVar 0) pNo (pYes (eC (.int 63))) fr st = .ok (.lst (ms.map W.int)) st := fun fr st h => by
    simp [h]
    simp [oSl, hm]
  obtain ⟨fr', st', e1, w, s, rfl, rfl⟩ := x_for (f := iSeq (eSl (eVar 0) (pNo) (pYes (eC (.int 63))))) (g := gNm 2) (b := sAsg (e2 oMod (eN oInt (aCons (e2 oAdd (e2 oAdd (e2 oMul (eVar 1) (eC (.int 53))) (eVar 2)) (eC (.int 17))) (aNil))) (eC (.int 2147483629))) (gNm 1)) (fr := [some (.ro (ns.map W.int)), some (.int 31), none]) (st := []) (st1 := []) (x := .lst (ms.map W.int)) (all := ms.map W.int)
    (by unfold iSeq; rw [hs _ _ rfl]; rfl) (fun _ fr st => ∃ (w : Option W) (s : Int), fr = [some (.ro (ns.map W.int)), some (.int s), w] ∧ st = []) ⟨none, 31, rfl, rfl⟩ (fun _ _ _ _ => trivial) (by
      rintro k fr st w ⟨u, s, rfl, rfl⟩ hw
      rw [List.getElem?_map] at hw
      obtain ⟨z, _, rfl⟩ := Option.map_eq_some_iff.mp hw
      refine ⟨_, _, _, rfl, .inl ?_, some (.int z), (s * 53 + z + 17) % 2147483629, rfl, rfl⟩
      simp)
  refine ⟨plW ms 0 0 0 s, ⟨_, _, _, _, _, rfl, Int.le_refl _⟩, ?_⟩
  have hb : B_law_pool [some (.ro (ns.map W.int)), none, none] [] = .rt (.cell 0) [plW ms 0 0 0 s] := by
    unfold B_law_pool
    refine asg_to (w := .int 31) rfl (seq_to e1 ?_)
    have z := hs [some (.ro (ns.map W.int)), some (.int s), w] [] rfl
    simp only [x_ret, x_N, x_aCons, z, x_aNil, Out.bind_ok, x_list_lst, x_c, x_var]
    rfl
  unfold F_law_pool mkFnC mkFnG
  show (match B_law_pool [some (.ro (ns.map W.int)), none, none] [] with
    | .nx _ st1 => leave 0 .non st1 | .rt w st1 => leaveC 0 w st1 | .er x _ st1 => leaveX 0 x st1 | _ => .bad) = _
  rw [hb]
  show leaveC 0 (.cell 0) [plW ms 0 0 0 s] = _
  have ho : oldW 0 (plW ms 0 0 0 s) = true := by
    have z : ∀ l : List Int, fz0s 0 (fun _ => none) (l.map W.int) = some (l.map W.int) := fun l => by
      induction l with
      | nil => rfl
      | cons a l ih => rw [List.map_cons, fz0s, ih]; rfl
    unfold plW oldW
    simp only [fz0s, fz0, z]; rfl
  unfold leaveC
  simp [ho]
  rfl
/-! ## _law_same of what is the same -/
/-! ## _law_same by what stands behind -/
theorem Both.len {α β : Type} {R : α → β → Prop} {l : List α} {m : List β} (h : Both R l m) : l.length = m.length := by
  induction h with
  | nil => rfl
  | cons _ _ ih => simp [ih]
theorem Both.get {α β : Type} {R : α → β → Prop} {l : List α} {m : List β} (h : Both R l m) : ∀ {k : Nat} {a : α} {b : β}, l[k]? = some a → m[k]? = some b → R a b := by
  induction h with
  | nil => intro k a b e; simp at e
  | cons h _ ih =>
    intro k a b e1 e2
    cases k with
    | zero => simp at e1 e2; rw [← e1, ← e2]; exact h
    | succ k => simp at e1 e2; exact ih e1 e2
theorem Both.map {α β γ : Type} {R : β → γ → Prop} (f : α → β) (g : α → γ) : ∀ l : List α, (∀ a ∈ l, R (f a) (g a)) → Both R (l.map f) (l.map g)
  | [], _ => .nil
  | a :: l, h => .cons (h a List.mem_cons_self) (Both.map f g l fun b hb => h b (List.mem_cons_of_mem _ hb))
theorem Both.refl {α : Type} {R : α → α → Prop} : ∀ l : List α, (∀ a ∈ l, R a a) → Both R l l
  | [], _ => .nil
  | a :: l, h => .cons (h a List.mem_cons_self) (Both.refl l fun b hb => h b (List.mem_cons_of_mem _ hb))
/-! ## rows -/
def plainW : W → Bool
  | .non | .bl _ | .int _ | .str _ | .tup _ | .lst _ => true
  | .dct [] _ => true
  | .dct (.str _ :: _) _ => true
  | _ => false
@[simp] theorem plain_int {i : Int} : plainW (.int i) = true := by simp only [plainW]
@[simp] theorem plain_non : plainW .non = true := by simp only [plainW]
@[simp] theorem plain_bl {i : Bool} : plainW (.bl i) = true := by simp only [plainW]
@[simp] theorem plain_str {i : Str} : plainW (.str i) = true := by simp only [plainW]
@[simp] theorem plain_tup {i : List W} : plainW (.tup i) = true := by simp only [plainW]
@[simp] theorem plain_lst {i : List W} : plainW (.lst i) = true := by simp only [plainW]
def isI : W → Bool
  | .int _ => true
  | _ => false
def betw (lo hi : Int) : W → Bool
  | .int i => decide (lo ≤ i) && decide (i ≤ hi)
  | _ => false
@[simp] theorem betw_int {lo hi i : Int} : betw lo hi (.int i) = (decide (lo ≤ i) && decide (i ≤ hi)) := rfl
def itemsW : W → List W
  | .tup ws => ws
  | _ => []
def rowW : W → Bool
  | .tup ws => ws.all (betw 0 1)
  | _ => false
@[simp] theorem isint_ok {w : W} {st : Sto} (h : plainW w = true) : F_is_integer [w] st = .ok (.bl (isI w)) st := by
  cases w with
  | dct ks ws =>
    cases ks with
    | nil => exact mk_rt (st1 := st) (by simp [B_is_integer, isI]) rfl
    | cons k ks =>
      cases k with
      | str x => exact mk_rt (st1 := st) (by simp [B_is_integer, isI]) rfl
      | _ => cases h
  | _ => first | (cases h; done) | exact mk_rt (st1 := st) (by simp [B_is_integer, isI]) rfl
@[simp] theorem betw_ok {w : W} {lo hi : Int} {st : Sto} (h : plainW w = true) : F_is_between [w, .int lo, .int hi] st = .ok (.bl (betw lo hi w)) st := by
  refine mk_rt (st1 := st) ?_ rfl
  unfold B_is_between
  cases w with
  | int i =>
    simp [h, isI, betw]
    by_cases z : lo ≤ i <;> simp [z]
  | _ => first | (cases h; done) | simp [h, isI, betw]
theorem bls_map : ∀ (ws : List W) (p : W → Bool), blsW (ws.map fun w => .bl (p w)) = some (ws.map p)
  | [], p => rfl
  | w :: ws, p => by rw [List.map_cons, blsW, bls_map ws p]; rfl
theorem all_id (ws : List W) (p : W → Bool) : (ws.map p).all id = ws.all p := by
  induction ws with
  | nil => rfl
  | cons a l ih => simp [ih]
def okRow (w : W) : Bool := plainW w && (itemsW w).all plainW
@[simp] theorem is_row_ok {w : W} {st : Sto} (h : okRow w = true) : F_is_row [w] st = .ok (.bl (rowW w)) st := by
  unfold okRow at h
  rw [Bool.and_eq_true] at h
  refine mk_rt (st1 := st) ?_ rfl
  unfold B_is_row
  cases w with
  | tup ws =>
    have hz := h.2
    have z : eLc (iSeq (eVar 0)) (gNm 1) [1] (tTrue) (eCall F_is_between (aCons (eVar 1) (aCons (eC (.int 0)) (aCons (eC (.int 1)) (aNil))))) [some (.tup ws), none] st = .ok (.lst (ws.map fun w => .bl (betw 0 1 w))) st := by
      refine x_lc (st1 := st) (x := .tup ws) (all := ws) (by simp) ?_
      refine lc_map (x := .tup ws) trivial ws fun w hw => ⟨_, rfl, rfl, ?_⟩
      have hp := List.all_eq_true.mp hz w hw
      simp [wipeF, hp]
    simp [z]
    simp [oAll, oBls, bls_map, all_id, rowW]
  | dct ks ws =>
    cases ks with
    | nil => simp [rowW]
    | cons k ks =>
      cases k with
      | str x => simp [rowW]
      | _ => exact Bool.noConfusion h.1
  | _ => first | (cases h.1; done) | simp [rowW]
def bits (ns : List Int) : W := .tup (ns.map W.int)
def Bits (ns : List Int) : Prop := ∀ n ∈ ns, n = 0 ∨ n = 1
theorem bits_ok (ns : List Int) : okRow (bits ns) = true := by
  simp [okRow, bits, plainW, itemsW]
theorem bits_row {ns : List Int} (h : Bits ns) : rowW (bits ns) = true := by
  show (ns.map W.int).all (betw 0 1) = true
  rw [List.all_map, List.all_eq_true]
  intro n hn
  rcases h n hn with rfl | rfl <;> rfl
@[simp] theorem get_new {st : Sto} {c : Cel} : (st ++ [c])[st.length]? = some c := by simp
@[simp] theorem set_new {st : Sto} {c d : Cel} : (st ++ [c]).set st.length d = st ++ [d] := by simp
def num (ns : List Int) : Int := ns.foldl (fun a c => 2 * a + c) 0
theorem take_next {α : Type} {l : List α} {k : Nat} {w : α} (h : l[k]? = some w) : l.take (k + 1) = l.take k ++ [w] := by
  have hk : k < l.length := by
    rcases Nat.lt_or_ge k l.length with q | q
    · exact q
    · rw [List.getElem?_eq_none q] at h; cases h
  rw [List.take_succ, h]; rfl
@[simp] theorem rngW_len {lo c : Int} {n : Nat} : (rngW lo c n).length = n := by simp [rngW]
theorem fz_ints (n : Nat) (f : Nat → Option W) : ∀ ns : List Int, fz0s n f (ns.map W.int) = some (ns.map W.int)
  | [] => rfl
  | a :: l => by rw [List.map_cons, fz0s, fz_ints n f l]; rfl
theorem fz_bits (n : Nat) (f : Nat → Option W) (ns : List Int) : fz0 n f (bits ns) = some (bits ns) := by
  unfold bits fz0; rw [fz_ints]; rfl
theorem ix_mem {ws : List W} {i : Int} (h : 0 ≤ i) (h2 : i < ws.length) : ∃ w, w ∈ ws ∧ ∀ st, oIx (.lst ws) (.int i) st = .ok w st := by
  have hk : i.toNat < ws.length := by omega
  exact ⟨ws[i.toNat], List.getElem_mem hk, fun st => x_ixL h (by simp)⟩
/-! ## lists and tuples, read -/
structure SqW (st : Sto) (w : W) (us : List W) : Prop where
  sq : seqW st w = some us
  it : itW st w = some us
  src : srcOk w us st
  ns : ∀ x, w ≠ .str x
  ty : ∃ t : String, (t = "list" ∨ t = "tuple") ∧ tyW st w = some t
  tup : oTupleP [w] st = .ok (.tpn us) st
theorem SqW.lst {st : Sto} {us : List W} : SqW st (.lst us) us := ⟨rfl, rfl, trivial, fun _ h => (nomatch h), ⟨_, .inl rfl, rfl⟩, rfl⟩
theorem SqW.tpn {st : Sto} {us : List W} : SqW st (.tpn us) us := ⟨rfl, rfl, trivial, fun _ h => (nomatch h), ⟨_, .inr rfl, rfl⟩, rfl⟩
theorem SqW.cell {st : Sto} {k : Nat} {us : List W} (h : st[k]? = some (.lst us)) : SqW st (.cell k) us := by
  have e : lstW st (.cell k) = some us := by simp [lstW, h]
  refine ⟨by simp [seqW, e], e, e, fun _ h => (nomatch h), ⟨"list", .inl rfl, by simp [tyW, h]⟩, ?_⟩
  show (match lstW st (.cell k) with
    | some us => Out.ok (W.tpn us) st
    | none => match tupW st (.cell k) with
      | some _ => .ok (.cell k) st
      | none => .bad) = _
  rw [e]
theorem SqW.len {st : Sto} {w : W} {us : List W} (h : SqW st w us) : oLen [w] st = .ok (.int us.length) st := x_len h.sq h.ns
theorem SqW.iter {st : Sto} {w : W} {us : List W} (h : SqW st w us) {f : Sem} {fr : Fr} (hf : f fr st = .ok w st) : iSeq f fr st = .ok (w, us) st := by
  unfold iSeq; rw [hf, Out.bind_ok]; simp only [h.it]
theorem SqW.ix {st : Sto} {w u : W} {us : List W} (h : SqW st w us) {i : Int} (h0 : 0 ≤ i) (hu : us[i.toNat]? = some u) : oIx w (.int i) st = .ok u st := by
  have hl : i.toNat < us.length := by
    rcases Nat.lt_or_ge i.toNat us.length with q | q
    · exact q
    · rw [List.getElem?_eq_none q] at hu; cases hu
  exact x_ix h.sq h.ns (ixN_ok h0 (by omega)) hu
/-! ## signs -/
abbrev sg (c : Nat) : Str := ⟨#[c]⟩
def sgW (cs : List Nat) : List W := cs.map fun c => .str (sg c)
def SGN : Str := "0123456789abcdefghijklmnopqrstuvwxyz"
def okC (c : Nat) : Prop := c ∈ SGN.cps.toList
def Asc (cs : List Nat) : Prop := cs.Pairwise (· < ·)
theorem strOk_sg {c : Nat} (h : c < 128) : PyData.strOk (sg c) = true := by
  unfold PyData.strOk
  simp
  omega
@[simp] theorem len_sg {c : Nat} {st : Sto} : oLen [.str (sg c)] st = .ok (.int 1) st := by
  show (if (sg c).length ≤ LINE then Out.ok (W.int ((sg c).length : Nat)) st else .bad) = _
  have e : (sg c).length = 1 := rfl
  rw [e, if_pos (by decide)]; rfl
@[simp] theorem is_sign_ok {c : Nat} {st : Sto} (h : okC c) : F_is_sign [.str (sg c)] st = .ok (.bl true) st := by
  refine mk_rt (st1 := st) ?_ rfl
  show B_is_sign [some (.str (sg c))] st = _
  have e : oIn (.str (sg c)) (.str "0123456789abcdefghijklmnopqrstuvwxyz") st = .ok (.bl true) st := by
    show Out.ok (W.bl (decide (c ∈ SGN.cps.toList))) st = _
    rw [decide_eq_true (show c ∈ SGN.cps.toList from h)]
  unfold B_is_sign
  simp [e]
theorem sgW_len {cs : List Nat} : (sgW cs).length = cs.length := by unfold sgW; simp
theorem sgW_at {cs : List Nat} {k c : Nat} (h : cs[k]? = some c) : (sgW cs)[k]? = some (.str (sg c)) := by unfold sgW; rw [List.getElem?_map, h]; rfl
/-! ## numbers within bounds -/
def inW' (n : Int) (i : Int) : Prop := 0 ≤ i ∧ i < n
/-- the rows of moves, as they stand -/
structure RowsW (st : Sto) (rows : List W) (mv : List (List Int)) (m : Nat) : Prop where
  len : rows.length = mv.length
  row : ∀ (k : Nat) (r : W) (is : List Int), rows[k]? = some r → mv[k]? = some is → SqW st r (is.map W.int) ∧ is.length = m ∧ ∀ i ∈ is, inW' mv.length i
theorem fz_sgs {n : Nat} {f : Nat → Option W} : ∀ l : List Nat, fz0s n f (sgW l) = some (sgW l)
  | [] => rfl
  | a :: l => by
    have ih := fz_sgs (n := n) (f := f) l
    unfold sgW at ih ⊢
    rw [List.map_cons, fz0s, ih]; rfl
/-! ## texts looked at; the last state -/
theorem sgnW_at {z : Str} {k : Nat} {w : W} (h : (sgnW z)[k]? = some w) : ∃ c, z.cps[k]? = some c ∧ w = .str (sg c) := by
  unfold sgnW at h
  rw [List.getElem?_map, Array.getElem?_toList] at h
  obtain ⟨c, h1, h2⟩ := Option.map_eq_some_iff.mp h
  exact ⟨c, h1, h2.symm⟩
/-! ## drawn signs, drawn texts -/
theorem pool_old {c : Cel} (n : Nat) (h : Pool c) : oldW n c = true := by
  obtain ⟨ns, p, b, k, s, rfl, _⟩ := h
  unfold plW oldW
  simp only [fz0s, fz0, fz_ints]; rfl
theorem mk_rt3 {m : Nat} {b : SSem} {ws : List W} {st st1 ex : Sto} {w : W} (h : b (ws.map some ++ List.replicate (m - ws.length) none) st = .rt w (st1 ++ ex)) (hl : st1.length = st.length) (hw : ∀ n f, fz0 n f w = some w) (ho : st1.all (oldW st1.length) = true) : mkFn m b ws st = .ok w st1 := by
  unfold mkFn mkFnG; rw [h]
  show leave st.length w (st1 ++ ex) = _
  unfold leave
  rw [← hl]
  split
  · rename_i e
    have : ex = [] := by
      rw [List.length_append] at e
      exact List.eq_nil_of_length_eq_zero (by omega)
    rw [this, List.append_nil]
  · rw [hw]
    simp only [List.take_left, ho, if_true]
/-- signs in order -/
theorem sorted_sgs {found : List Nat} (hn : found.Nodup) : ∃ cs, sortS (found.map sg) = cs.map sg ∧ cs.Perm found ∧ Asc cs := by
  refine ⟨found.mergeSort fun a b => decide (a ≤ b), ?_, List.mergeSort_perm _ _, ?_⟩
  · have pw : (found.mergeSort fun a b => decide (a ≤ b)).Pairwise (fun a b => decide (a ≤ b) = true) := List.pairwise_mergeSort (fun a b c h1 h2 => by simp at h1 h2 ⊢; omega) (fun a b => by simp; omega) found
    refine one_order ((sortS_perm _).trans ((List.mergeSort_perm found _).map sg).symm) (sortS_pw _) ?_ fun a _ b _ h1 h2 => leS_anti h1 h2
    refine List.pairwise_map.mpr (pw.imp fun {a b} h => ?_)
    have h := of_decide_eq_true h
    show (!ltCps [b] [a]) = true
    unfold ltCps
    rw [decide_eq_false (by omega)]
    by_cases e : b = a
    · subst e; simp [ltCps]
    · have q : (b == a) = false := by simpa using e
      simp [q]
  · have pw : (found.mergeSort fun a b => decide (a ≤ b)).Pairwise (fun a b => decide (a ≤ b) = true) := List.pairwise_mergeSort (fun a b c h1 h2 => by simp at h1 h2 ⊢; omega) (fun a b => by simp; omega) found
    have nd : (found.mergeSort fun a b => decide (a ≤ b)).Nodup := (List.mergeSort_perm found _).nodup_iff.mpr hn
    exact (pw.and nd).imp fun {a b} h => by
      have := of_decide_eq_true h.1
      have := h.2
      omega
theorem strsW_sg (cs : List Nat) : strsW (sgW cs) = some (cs.map sg) := by
  have : sgW cs = (cs.map sg).map W.str := by unfold sgW; rw [List.map_map]; rfl
  rw [this]; exact strsW_map _
theorem sgW_erase (cs : List Nat) (j : Nat) : (sgW cs).eraseIdx j = sgW (cs.eraseIdx j) := by
  unfold sgW
  induction cs generalizing j with
  | nil => simp
  | cons a cs ih =>
    cases j with
    | zero => simp
    | succ j => simp only [List.map_cons, List.eraseIdx_cons_succ]; rw [ih]
theorem sgW_app (a b : List Nat) : sgW a ++ sgW b = sgW (a ++ b) := by unfold sgW; rw [List.map_append]
theorem seqIx {r : Int} {n : Nat} (h0 : 0 ≤ r) (h1 : r < n) : seqIndex? r n = some r.toNat := by
  unfold seqIndex?
  have e : ¬ r < 0 := by omega
  simp [e, h0, h1]
theorem perm_erase : ∀ {l : List Nat} {i : Nat} (h : i < l.length), ([l[i]] ++ l.eraseIdx i).Perm l
  | [], i, h => by simp at h
  | a :: l, 0, h => by simp
  | a :: l, i + 1, h => by
    have ih := perm_erase (l := l) (i := i) (by simpa using h)
    simp only [List.getElem_cons_succ, List.eraseIdx_cons_succ, List.singleton_append] at ih ⊢
    exact (List.Perm.swap ..).trans (ih.cons a)
def digs : List Nat := ("0123456789abcdefghijklmnopqrstuvwxyz" : Str).cps.toList
def lets12 : List Nat := ("abcdefghijkl" : Str).cps.toList
/-! ## drawn texts -/
/-! ## books: what is in them -/
def kkS (cs : List Nat) : List Key := cs.map fun c => .inr (sg c)
theorem keys_sg : ∀ cs : List Nat, mapO keyW (sgW cs) = some (kkS cs)
  | [] => rfl
  | c :: cs => by
    have ih := keys_sg cs
    unfold sgW kkS at ih ⊢
    rw [List.map_cons, mapO, ih]; rfl
def bitsL (P : List (List Int)) : List W := P.map bits
theorem fz_bitsL (n : Nat) (f : Nat → Option W) : ∀ P : List (List Int), fz0s n f (bitsL P) = some (bitsL P)
  | [] => rfl
  | r :: P => by
    have ih := fz_bitsL n f P
    unfold bitsL at ih ⊢
    rw [List.map_cons, fz0s, fz_bits, ih]
theorem old_dct {n : Nat} {ks : List W} {P : List (List Int)} : oldW n (.dct ks (bitsL P)) = true := by
  show (fz0s n (fun _ => none) (bitsL P)).isSome = true
  rw [fz_bitsL]; rfl
theorem kind_sg (cs : List Nat) : kindW (sgW cs) = some (false, .inl (kkS cs)) := kind_plain (keys_sg cs)
theorem dctW_cell {st : Sto} {k : Nat} {cs : List Nat} {ws : List W} (h : st[k]? = some (.dct (sgW cs) ws)) : dctW st (.cell k) = some (kkS cs, ws) := by
  unfold dctW; simp only [h, kind_sg]
theorem dctKs_cell {st : Sto} {k : Nat} {ks ws : List W} (h : st[k]? = some (.dct ks ws)) : dctKs st (.cell k) = some (ks, ws) := by
  unfold dctKs; simp only [h]
theorem kkS_len (cs : List Nat) : (kkS cs).length = cs.length := by unfold kkS; simp
theorem bitsL_len (P : List (List Int)) : (bitsL P).length = P.length := by unfold bitsL; simp
/-- the row that stands at a sign -/
def lookR (cs : List Nat) (P : List (List Int)) (c : Nat) : Option (List Int) := ((cs.zip P).find? fun p => decide (p.1 = c)).map (·.2)
theorem sg_eq {a b : Nat} : (sg a = sg b) ↔ a = b := ⟨fun z => by injection z with z; injection z with z; injection z, fun h => by rw [h]⟩
theorem val_look (c : Nat) : ∀ (cs : List Nat) (P : List (List Int)), valW ((kkS cs).zip (bitsL P)) (.inr (sg c)) = (lookR cs P c).map bits
  | [], P => rfl
  | a :: cs, [] => rfl
  | a :: cs, r :: P => by
    have ih := val_look c cs P
    unfold valW lookR kkS bitsL at ih ⊢
    rw [List.map_cons, List.map_cons, List.zip_cons_cons, List.zip_cons_cons, List.find?_cons, List.find?_cons]
    by_cases h : a = c
    · subst h; simp
    · have h1 : ¬ (Sum.inr (sg a) : Key) = Sum.inr (sg c) := fun z => h (sg_eq.mp (Sum.inr.inj z))
      simp only [decide_eq_false h, decide_eq_false h1]
      exact ih
theorem look_at {c : Nat} {r : List Int} : ∀ {cs : List Nat} {P : List (List Int)} {k : Nat}, cs.Nodup → cs[k]? = some c → P[k]? = some r → lookR cs P c = some r
  | [], _, _, _, h, _ => by simp at h
  | a :: cs, [], k, _, _, h => by simp at h
  | a :: cs, x :: P, 0, _, h1, h2 => by
    simp at h1 h2; subst h1; subst h2; unfold lookR; simp
  | a :: cs, x :: P, k + 1, hn, h1, h2 => by
    obtain ⟨n1, n2⟩ := List.nodup_cons.mp hn
    have ih := look_at (c := c) (r := r) (cs := cs) (P := P) (k := k) n2 (by simpa using h1) (by simpa using h2)
    have hne : ¬ a = c := fun z => n1 (by rw [z]; exact List.mem_of_getElem? (by simpa using h1))
    unfold lookR at ih ⊢
    rw [List.zip_cons_cons, List.find?_cons]
    simp only [decide_eq_false hne]
    exact ih
theorem asc_nodup {cs : List Nat} (h : Asc cs) : cs.Nodup := h.imp fun {a b} h => by omega
theorem look_mem {c : Nat} {cs : List Nat} {P : List (List Int)} (hn : cs.Nodup) (hl : P.length = cs.length) (h : c ∈ cs) : ∃ r, lookR cs P c = some r ∧ r ∈ P := by
  obtain ⟨k, hk, rfl⟩ := List.getElem_of_mem h
  have hk2 : k < P.length := by omega
  exact ⟨P[k], look_at hn (List.getElem?_eq_getElem hk) (List.getElem?_eq_getElem hk2), List.getElem_mem hk2⟩
structure BkOk (cs : List Nat) (n : Nat) (P : List (List Int)) (s t : List Int) : Prop where
  c1 : 1 ≤ cs.length
  c10 : cs.length ≤ 10
  ok : ∀ c ∈ cs, okC c
  asc : Asc cs
  len : P.length = cs.length
  n1 : 1 ≤ n
  n6 : n ≤ 6
  row : ∀ r ∈ P, r.length = n ∧ Bits r
  rs : s.length = n ∧ Bits s
  rt : t.length = n ∧ Bits t
  nd : (P ++ [s, t]).Nodup
theorem oDLen_ok {st : Sto} {k : Nat} {cs : List Nat} {P : List (List Int)} (h : st[k]? = some (.dct (sgW cs) (bitsL P))) (hl : P.length = cs.length) : oDLen [.cell k] st = .ok (.int cs.length) st := by
  unfold oDLen; simp only [dctW_cell h, kkS_len]
theorem ints_map : ∀ is : List Int, intsW (is.map W.int) = some is
  | [] => rfl
  | i :: is => by rw [List.map_cons, intsW, ints_map is]; rfl
/-! ## a book made -/
def bkNs : List Str := ["signs", "width", "start", "stop", "_rows"]
def bkV (cs : List Nat) (n : Nat) (P : List (List Int)) (s t : List Int) : List W := [.tup (sgW cs), .int n, bits s, bits t, .dct (sgW cs) (bitsL P)]
def bk (cs : List Nat) (n : Nat) (P : List (List Int)) (s t : List Int) : W := .ins "Book" bkNs (bkV cs n P s t)
theorem fldC {S : Sto} {m : Nat} {ns : List Str} {ws : List W} {x : Str} {u : W} {f : Sem} {fr : Fr} (hf : f fr S = .ok (.cell m) S) (hm : S[m]? = some (.ins "Book" ns ws)) (hl : lkp ns ws x = some u) : eFld ["Book"] x f fr S = .ok u S := by
  unfold eFld; rw [hf]
  simp only [Out.bind_ok, insW, hm, hl]
  rfl
theorem stF {S S1 : Sto} {m : Nat} {ns : List Str} {ws : List W} {x : Str} {w : W} {e o : Sem} {fr : Fr} (he : e fr S = .ok w S1) (ho : o fr S1 = .ok (.cell m) S1) (hm : S1[m]? = some (.ins "Book" ns ws)) (hl : ns.length < 1000) : sFldS ["Book"] x e o fr S = .nx fr (S1.set m (.ins "Book" (putNs x ns) (putL x w ns ws))) := by
  unfold sFldS; rw [he]
  simp only [Out.stm_ok, ho, hm]
  rw [if_pos ⟨rfl, hl⟩]
@[simp] theorem at_end {st : Sto} {c : Cel} {r : Sto} : (st ++ c :: r)[st.length]? = some c := by simp
@[simp] theorem at_end1 {st : Sto} {c d : Cel} {r : Sto} : (st ++ c :: d :: r)[st.length + 1]? = some d := by
  rw [List.getElem?_append_right (by omega), show st.length + 1 - st.length = 1 by omega]; rfl
@[simp] theorem set_end {st : Sto} {c d : Cel} {r : Sto} : (st ++ c :: r).set st.length d = st ++ d :: r := by simp
@[simp] theorem set_end1 {st : Sto} {c d e : Cel} {r : Sto} : (st ++ c :: d :: r).set (st.length + 1) e = st ++ c :: e :: r := by
  rw [List.set_append_right _ _ (by omega), show st.length + 1 - st.length = 1 by omega]; rfl
theorem txt_sg : ∀ cs : List Nat, txtKs (kkS cs) = some (cs.map sg)
  | [] => rfl
  | c :: cs => by
    have ih := txt_sg cs
    unfold kkS at ih ⊢
    rw [List.map_cons, txtKs, ih]; rfl
theorem asc_one : ∀ {l m : List Nat}, l.Perm m → Asc l → Asc m → l = m
  | l, m, h, a, b => one_order h (a.imp fun {x y} h => (by omega : x ≤ y)) (b.imp fun {x y} h => (by omega : x ≤ y)) fun a _ b _ h1 h2 => Nat.le_antisymm h1 h2
theorem sort_asc {cs : List Nat} (h : Asc cs) : sortS (cs.map sg) = cs.map sg := by
  obtain ⟨ds, h1, h2, h3⟩ := sorted_sgs (asc_nodup h)
  rw [h1, asc_one h2 h3 h]
theorem dget_cell {st : Sto} {k c : Nat} {cs : List Nat} {P : List (List Int)} {r : List Int} (hk : st[k]? = some (.dct (sgW cs) (bitsL P))) (h : lookR cs P c = some r) : oDGet (.cell k) (.str (sg c)) st = .ok (bits r) st := by
  unfold oDGet
  simp only [dctW_cell hk, keyW, val_look, h, Option.map_some]
theorem tups_bits : ∀ {P : List (List Int)}, tupsI (bitsL P) = some P
  | [] => rfl
  | r :: P => by
    have ih := tups_bits (P := P)
    unfold bitsL at ih ⊢
    rw [List.map_cons]
    show tupsI (.tup (r.map W.int) :: P.map bits) = _
    unfold tupsI
    simp only [ints_map, ih]
theorem once_nodup : ∀ {l : List (List Int)}, l.Nodup → onceL l = l
  | [], _ => rfl
  | a :: l, h => by
    obtain ⟨h1, h2⟩ := List.nodup_cons.mp h
    unfold onceL
    rw [once_nodup h2, if_neg h1]
theorem kk_any {cs : List Nat} {c : Nat} (h : c ∉ cs) : (kkS cs).any (fun i => decide (i = .inr (sg c))) = false := by
  unfold kkS
  rw [List.any_map, List.any_eq_false]
  intro a ha
  show ¬ decide (Sum.inr (sg a) = Sum.inr (sg c)) = true
  rw [decide_eq_true_eq]
  exact fun z => h (by rw [← sg_eq.mp (Sum.inr.inj z)]; exact ha)
theorem take_not {cs : List Nat} {i c : Nat} (hn : cs.Nodup) (h : cs[i]? = some c) : c ∉ cs.take i := by
  intro z
  obtain ⟨j, hj, e⟩ := List.getElem_of_mem z
  rw [List.length_take] at hj
  rw [List.getElem_take] at e
  obtain ⟨hi, h2⟩ := List.getElem?_eq_some_iff.mp h
  exact List.pairwise_iff_getElem.mp hn j i (by omega) hi (by omega) (by rw [e, h2])
theorem put_new {S : Sto} {m : Nat} {cs : List Nat} {P : List (List Int)} {c : Nat} {r : List Int} (hm : S[m]? = some (.dct (sgW cs) (bitsL P))) (h : c ∉ cs) (hl : cs.length < LINE) : uDct (.cell m) (.str (sg c)) (bits r) S = some (S.set m (.dct (sgW (cs ++ [c])) (bitsL (P ++ [r])))) := by
  unfold uDct
  simp only [hm, keys_sg, keyW, sgW_len, if_pos hl, kk_any h]
  rw [← sgW_app]
  unfold bitsL; rw [List.map_append]; rfl
/-- the dict that was passed has the same keys, in some order, and their rows -/
structure DcOk (cs : List Nat) (P : List (List Int)) (ds : List Nat) (Q : List (List Int)) : Prop where
  perm : ds.Perm cs
  len : Q.length = ds.length
  look : ∀ c ∈ cs, lookR ds Q c = lookR cs P c
theorem DcOk.rows {cs ds : List Nat} {P Q : List (List Int)} {n : Nat} {s t : List Int} (D : DcOk cs P ds Q) (B : BkOk cs n P s t) : ∀ r ∈ Q, r ∈ P := fun r hr => by
  obtain ⟨j, hj, rfl⟩ := List.getElem_of_mem hr
  have hj2 : j < ds.length := by rw [← D.len]; exact hj
  have nd : ds.Nodup := D.perm.nodup_iff.mpr (asc_nodup B.asc)
  have e := look_at nd (List.getElem?_eq_getElem hj2) (List.getElem?_eq_getElem hj)
  have hm : ds[j] ∈ cs := D.perm.mem_iff.mp (List.getElem_mem hj2)
  rw [D.look _ hm] at e
  obtain ⟨r', e2', m⟩ := look_mem (asc_nodup B.asc) B.len hm
  rw [e] at e2'
  injection e2' with e2'
  rw [e2']; exact m
theorem DcOk.self {cs : List Nat} {P : List (List Int)} (h : P.length = cs.length) : DcOk cs P cs P := ⟨.refl _, h, fun _ _ => rfl⟩
theorem fz_sgW (n : Nat) (f : Nat → Option W) (cs : List Nat) : fz0s n f (sgW cs) = some (sgW cs) := fz_sgs cs
/-! ## the first that stops a loop -/
theorem cut_to {T : List W} {a : Nat} (h : a ≤ T.length) : cutW T none (some (a : Int)) = T.take a := by
  unfold cutW
  rw [HT.sIx_nat, HT.sIx_none, Nat.min_eq_left h]; simp
theorem cut_from {T : List W} {a : Nat} (h : a ≤ T.length) : cutW T (some (a : Int)) none = T.drop a := by
  unfold cutW
  rw [HT.sIx_nat, HT.sIx_none, Nat.min_eq_left h, List.take_of_length_le (by simp)]
/-! ## a book asked -/
/-! ## texts looked at -/
theorem eqv_ints : ∀ a b : List Int, PyData.eqvAll (a.map .int) (b.map .int) = decide (a = b)
  | [], [] => rfl
  | [], _ :: _ => rfl
  | _ :: _, [] => rfl
  | x :: a, y :: b => by
    show ((x == y) && PyData.eqvAll (a.map .int) (b.map .int)) = _
    rw [eqv_ints a b]
    by_cases h : x = y <;> by_cases h2 : a = b <;> simp [h, h2]
theorem pd_ints : ∀ a : List Int, pdWs (a.map W.int) = some (a.map .int)
  | [] => rfl
  | x :: a => by rw [List.map_cons, pdWs, pd_ints a]; rfl
theorem lay_ints : ∀ a : List Int, PyData.canLayAll0 (a.map .int) = true
  | [] => rfl
  | x :: a => by
    show (PyData.canLay0 (.int x) && PyData.canLayAll0 (a.map .int)) = true
    rw [lay_ints a]; rfl
theorem depth_ints : ∀ a : List Int, PyData.depthAll (a.map .int) = 0
  | [] => rfl
  | x :: a => by
    show max (PyData.depth (.int x)) (PyData.depthAll (a.map .int)) = 0
    rw [depth_ints a]; rfl
theorem fits {x : Int} (h : -1000000000 ≤ x) (h2 : x ≤ 1000000000) : Builtin.Range.rangeFitsLong x = true := by
  unfold Builtin.Range.rangeFitsLong
  simp
  omega
/-! ## loops that find -/
/-! ## what the law finds itself -/
def mdl (m : Nat) (s t : List Int) : W := .lst [.cell m, bits s, bits t]
theorem ix_m0 {m : Nat} {s t : List Int} {st : Sto} : oIx (mdl m s t) (.int 0) st = .ok (.cell m) st := x_ixL (by decide) rfl
theorem ix_m1 {m : Nat} {s t : List Int} {st : Sto} : oIx (mdl m s t) (.int 1) st = .ok (bits s) st := x_ixL (by decide) rfl
theorem ix_m2 {m : Nat} {s t : List Int} {st : Sto} : oIx (mdl m s t) (.int 2) st = .ok (bits t) st := x_ixL (by decide) rfl
theorem pd_sgs : ∀ cs : List Nat, pdWs (sgW cs) = some (cs.map fun c => .str (sg c))
  | [] => rfl
  | c :: cs => by
    have ih := pd_sgs cs
    unfold sgW at ih ⊢
    rw [List.map_cons, pdWs, ih]; rfl
theorem lay_sgs : ∀ cs : List Nat, (∀ c ∈ cs, c < 128) → PyData.canLayAll0 (cs.map fun c => .str (sg c)) = true
  | [], _ => rfl
  | c :: cs, h => by
    show (PyData.strOk (sg c) && PyData.canLayAll0 _) = true
    rw [strOk_sg (h c List.mem_cons_self), lay_sgs cs fun x hx => h x (List.mem_cons_of_mem _ hx)]; rfl
theorem depth_sgs : ∀ cs : List Nat, PyData.depthAll (cs.map fun c => .str (sg c)) = 0
  | [] => rfl
  | x :: a => by
    show max (PyData.depth (.str (sg x))) (PyData.depthAll (a.map _)) = 0
    rw [depth_sgs a]; rfl
theorem eq_nil {cs : List Nat} {st : Sto} (h : ∀ c ∈ cs, c < 128) : oEq (.lst (sgW cs)) (.lst []) st = .ok (.bl cs.isEmpty) st := by
  have p : pdT st (.lst (sgW cs)) = some (.list (cs.map fun c => .str (sg c))) := by
    show (pdWs (sgW cs)).map PyData.list = _
    rw [pd_sgs]; rfl
  have p0 : pdT st (.lst []) = some (.list []) := rfl
  have s : SeqAt.shaped (.list (cs.map fun c => .str (sg c))) = true := by
    unfold SeqAt.shaped
    have e1 : PyData.canLay0 (.list (cs.map fun c => .str (sg c))) = true := by
      simp only [PyData.canLay0]; exact lay_sgs cs h
    have e2 : PyData.depth (.list (cs.map fun c => .str (sg c))) = 1 := by
      simp only [PyData.depth, depth_sgs]
    rw [e1, e2]; rfl
  have s0 : SeqAt.shaped (.list []) = true := by rfl
  have q : PyData.eqv (.list (cs.map fun c => .str (sg c))) (.list []) = cs.isEmpty := by cases cs <;> rfl
  unfold oEq eqW
  rw [p, p0]
  simp only [s, s0, q]
  rfl
theorem signs_tailR {c : Cel} {pre : Sto} {left0 : List Nat} {many : Int} (hp : Pool c) (h0 : 0 ≤ many) (hm : many ≤ left0.length) (hl : left0.length ≤ 40) (hnd : left0.Nodup) (hpre : pre.length = pre.length) :
    ∃ cs c' ex, Pool c' ∧ (cs.length : Int) = many ∧ Asc cs ∧ (∀ x ∈ cs, x ∈ left0) ∧
      (sSeq (sAsg (eN oCell (aNil)) (gNm 3)) (sSeq (sFor (iRng rg1 (aCons (eVar 1) (aNil))) (gNm 4) (sExp (eM isLst mAppend (eVar 3) (aCons (eM isLst mPopAt (eVar 2) (aCons (eCall F_law_draw (aCons (eVar 0) (aCons (eN oLen (aCons (eVar 2) (aNil))) (aNil)))) (aNil))) (aNil))))) (sRet (eN oSortS (aCons (eVar 3) (aNil)))))) [some (.cell 0), some (.int many), some (.cell (1 + pre.length)), none, none] (c :: (pre ++ [.lst (sgW left0)])) = .rt (.lst (sgW cs)) (c' :: (pre ++ ex)) := by
  have g1 : ∀ (c : Cel) (l f : List W), (c :: (pre ++ [Cel.lst l, Cel.lst f]))[1 + pre.length]? = some (.lst l) := fun c l f => by
    rw [Nat.add_comm, List.getElem?_cons_succ, List.getElem?_append_right (Nat.le_refl _), Nat.sub_self]; rfl
  have g2 : ∀ (c : Cel) (l f : List W), (c :: (pre ++ [Cel.lst l, Cel.lst f]))[2 + pre.length]? = some (.lst f) := fun c l f => by
    rw [show 2 + pre.length = (pre.length + 1) + 1 by omega, List.getElem?_cons_succ, List.getElem?_append_right (by omega), show pre.length + 1 - pre.length = 1 by omega]; rfl
  have s1 : ∀ (c : Cel) (l f l' : List W), (c :: (pre ++ [Cel.lst l, Cel.lst f])).set (1 + pre.length) (.lst l') = c :: (pre ++ [Cel.lst l', Cel.lst f]) := fun c l f l' => by
    rw [Nat.add_comm, List.set_cons_succ, List.set_append_right _ _ (Nat.le_refl _), Nat.sub_self]; rfl
  have s2 : ∀ (c : Cel) (l f f' : List W), (c :: (pre ++ [Cel.lst l, Cel.lst f])).set (2 + pre.length) (.lst f') = c :: (pre ++ [Cel.lst l, Cel.lst f']) := fun c l f f' => by
    rw [show 2 + pre.length = (pre.length + 1) + 1 by omega, List.set_cons_succ, List.set_append_right _ _ (by omega), show pre.length + 1 - pre.length = 1 by omega]; rfl
  obtain ⟨fr', st', e1, c', left, found, v, p', efr, est, hf, hpm⟩ := x_for (f := iRng rg1 (aCons (eVar 1) (aNil))) (g := gNm 4) (b := (sExp (eM isLst mAppend (eVar 3) (aCons (eM isLst mPopAt (eVar 2) (aCons (eCall F_law_draw (aCons (eVar 0) (aCons (eN oLen (aCons (eVar 2) (aNil))) (aNil)))) (aNil))) (aNil)))))
    (fr := [some (.cell 0), some (.int many), some (.cell (1 + pre.length)), some (.cell (2 + pre.length)), none]) (st := c :: (pre ++ [.lst (sgW left0), .lst []])) (st1 := c :: (pre ++ [.lst (sgW left0), .lst []])) (x := .non) (all := rngW 0 1 many.toNat)
    (x_rng1 (by simp) (by omega) (by omega))
    (fun k fr s => ∃ (c : Cel) (left found : List Nat) (v : Option W), Pool c ∧ fr = [some (.cell 0), some (.int many), some (.cell (1 + pre.length)), some (.cell (2 + pre.length)), v] ∧ s = c :: (pre ++ [.lst (sgW left), .lst (sgW found)]) ∧ found.length = k ∧ (found ++ left).Perm left0)
    ⟨c, left0, [], none, hp, rfl, rfl, rfl, .refl _⟩ (fun _ _ _ _ => trivial) (by
      rintro k fr s w ⟨c, left, found, v, hp, rfl, rfl, rfl, hpm⟩ hk
      obtain ⟨hk1, rfl⟩ := rngW_at hk
      have hlen := hpm.length_eq
      rw [List.length_append] at hlen
      have hpos : 0 < left.length := by omega
      obtain ⟨r, c1, p1, r0, r1, dr⟩ := draw_ok (m := (left.length : Int)) hp (by omega) (log_small (by omega) (by omega))
      have hr : r.toNat < left.length := by omega
      refine ⟨[some (.cell 0), some (.int many), some (.cell (1 + pre.length)), some (.cell (2 + pre.length)), some (.int (0 + (found.length : Int) * 1))], [some (.cell 0), some (.int many), some (.cell (1 + pre.length)), some (.cell (2 + pre.length)), some (.int (0 + (found.length : Int) * 1))], c1 :: (pre ++ [.lst (sgW (left.eraseIdx r.toNat)), .lst (sgW (found ++ [left[r.toNat]]))]), rfl, .inl ?_, c1, left.eraseIdx r.toNat, found ++ [left[r.toNat]], _, p1, rfl, rfl, by simp, ?_⟩
      · have q1 : isLst (c :: (pre ++ [Cel.lst (sgW left), Cel.lst (sgW found)])) (.cell (2 + pre.length)) = true := by unfold isLst lstW; simp only [g2]; rfl
        have q2 : isLst (c :: (pre ++ [Cel.lst (sgW left), Cel.lst (sgW found)])) (.cell (1 + pre.length)) = true := by unfold isLst lstW; simp only [g1]; rfl
        have q3 : oLen [.cell (1 + pre.length)] (c :: (pre ++ [Cel.lst (sgW left), Cel.lst (sgW found)])) = .ok (.int left.length) (c :: (pre ++ [Cel.lst (sgW left), Cel.lst (sgW found)])) := by
          have := (SqW.cell (g1 c (sgW left) (sgW found))).len
          rw [sgW_len] at this
          exact this
        have q4 : mPopAt (.cell (1 + pre.length)) [.int r] (c1 :: (pre ++ [Cel.lst (sgW left), Cel.lst (sgW found)])) = .ok (.str (sg left[r.toNat])) (c1 :: (pre ++ [Cel.lst (sgW (left.eraseIdx r.toNat)), Cel.lst (sgW found)])) := by
          unfold mPopAt
          simp only [g1, show dec (-(2 ^ 63) ≤ r ∧ r < 2 ^ 63) = true from dec_mk ⟨by omega, by omega⟩, if_true, sgW_len, seqIx r0 r1, sgW_at (List.getElem?_eq_getElem hr), s1, sgW_erase]
        have q5 : mAppend (.cell (2 + pre.length)) [.str (sg left[r.toNat])] (c1 :: (pre ++ [Cel.lst (sgW (left.eraseIdx r.toNat)), Cel.lst (sgW found)])) = .ok .non (c1 :: (pre ++ [Cel.lst (sgW (left.eraseIdx r.toNat)), Cel.lst (sgW (found ++ [left[r.toNat]]))])) := by
          unfold mAppend
          have hlt : (sgW found).length < LINE := by rw [sgW_len]; unfold LINE; omega
          simp only [g2, if_pos hlt, s2]
          rw [← sgW_app]; rfl
        simp only [x_exp, x_eM, x_var, fg3, fg2, fg0, Out.bind_ok, q1, q2, if_true, x_aCons, x_aNil, x_call, x_N, q3, dr, q4, q5, Out.stm_ok]
      · refine List.Perm.trans ?_ hpm
        rw [List.append_assoc]
        refine List.Perm.append_left _ ?_
        exact perm_erase hr)
  have hnn : (rngW 0 1 many.toNat).length = many.toNat := rngW_length 0 1 _
  rw [hnn] at hf
  have hfn : found.Nodup := by
    have : (found ++ left).Nodup := hpm.nodup_iff.mpr hnd
    exact (List.nodup_append.mp this).1
  obtain ⟨cs, k1, k2, k3⟩ := sorted_sgs hfn
  refine ⟨cs, c', [.lst (sgW left), .lst (sgW found)], p', by have := k2.length_eq; omega, k3, fun x hx => hpm.mem_iff.mp (List.mem_append_left _ (k2.mem_iff.mp hx)), ?_⟩
  rw [efr, est] at e1
  refine asg_to (w := .cell (2 + pre.length)) (st1 := c :: (pre ++ [.lst (sgW left0), .lst []])) ?_ ?_
  · simp only [x_N, x_aNil, Out.bind_ok, x_cell (ws := []) (by decide)]
    congr 1
    · rw [List.length_cons, List.length_append]; simp; omega
    · simp
  simp only [fs3]
  refine seq_to e1 ?_
  have q : oSortS [.cell (2 + pre.length)] (c' :: (pre ++ [Cel.lst (sgW left), Cel.lst (sgW found)])) = .ok (.lst (sgW cs)) (c' :: (pre ++ [Cel.lst (sgW left), Cel.lst (sgW found)])) := by
    unfold oSortS
    have e : lstW (c' :: (pre ++ [Cel.lst (sgW left), Cel.lst (sgW found)])) (.cell (2 + pre.length)) = some (sgW found) := by unfold lstW; simp only [g2]
    have hlt : (found.map sg).length < 64 := by rw [List.length_map]; omega
    simp only [e, Option.bind_some, strsW_sg, if_pos hlt, k1]
    congr 2
    unfold sgW; rw [List.map_map]; rfl
  simp only [x_ret, x_N, x_aCons, x_var, fg3, x_aNil, Out.bind_ok, q, Out.stm_ok]
theorem signs_okR {c : Cel} {rest : Sto} {many : Int} (hp : Pool c) (h0 : 0 ≤ many) (hm : many ≤ 12) (ho : rest.all (oldW (rest.length + 1)) = true) : ∃ cs c', Pool c' ∧ (cs.length : Int) = many ∧ Asc cs ∧ (∀ x ∈ cs, okC x) ∧ F_law_signs [.cell 0, .int many] (c :: rest) = .ok (.lst (sgW cs)) (c' :: rest) := by
  obtain ⟨r, c1, p1, r0, r1, dr⟩ := draw_ok (m := 3) hp (by decide) (log_small (by decide) (by decide))
  have hw : ∀ (cs : List Nat) n f, fz0 n f (.lst (sgW cs)) = some (.lst (sgW cs)) := fun cs n f => by unfold fz0; rw [fz_sgs]; rfl
  have d1 : ∀ st, oListSC [.str "0123456789abcdefghijklmnopqrstuvwxyz"] st = .ok (.cell st.length) (st ++ [.lst (sgW digs)]) := fun st => rfl
  have d2 : ∀ st, oListSC [.str "abcdefghijkl"] st = .ok (.cell st.length) (st ++ [.lst (sgW lets12)]) := fun st => rfl
  have hold : ∀ {c' : Cel}, Pool c' → (c' :: rest).all (oldW (c' :: rest).length) = true := fun {c'} p' => by
    rw [List.all_cons, pool_old _ p', List.length_cons, ho]; rfl
  by_cases hr : 0 < r
  · obtain ⟨cs, c', ex, p', k1, k2, k3, e⟩ := signs_tailR (pre := rest ++ [.lst (sgW digs)]) (left0 := lets12) (many := many) p1 h0 (by
      have : lets12.length = 12 := by decide +kernel
      omega) (by decide +kernel) (by decide +kernel) rfl
    refine ⟨cs, c', p', k1, k2, fun x hx => ?_, mk_rt3 (st1 := c' :: rest) (ex := [.lst (sgW digs)] ++ ex) ?_ rfl (hw cs) (hold p')⟩
    · have z : lets12.all (fun x => decide (x ∈ SGN.cps.toList)) = true := by decide +kernel
      show x ∈ SGN.cps.toList
      exact of_decide_eq_true (List.all_eq_true.mp z x (k3 x hx))
    · show B_law_signs [some (.cell 0), some (.int many), none, none, none] (c :: rest) = _
      unfold B_law_signs
      refine asg_to (w := .cell (1 + rest.length)) (st1 := c :: (rest ++ [.lst (sgW digs)])) (by simp [d1, Nat.add_comm]) ?_
      refine seq_to (fr1 := [some (.cell 0), some (.int many), some (.cell (1 + (rest ++ [Cel.lst (sgW digs)]).length)), none, none]) (st1 := c1 :: ((rest ++ [.lst (sgW digs)]) ++ [.lst (sgW lets12)])) ?_ ?_
      · simp [dr, hr, d2, Nat.add_comm]
      · rw [e]; simp
  · obtain ⟨cs, c', ex, p', k1, k2, k3, e⟩ := signs_tailR (pre := rest) (left0 := digs) (many := many) p1 h0 (by
      have : digs.length = 36 := by decide +kernel
      omega) (by decide +kernel) (by decide +kernel) rfl
    refine ⟨cs, c', p', k1, k2, fun x hx => ?_, mk_rt3 (st1 := c' :: rest) (ex := ex) ?_ rfl (hw cs) (hold p')⟩
    · exact k3 x hx
    · show B_law_signs [some (.cell 0), some (.int many), none, none, none] (c :: rest) = _
      unfold B_law_signs
      refine asg_to (w := .cell (1 + rest.length)) (st1 := c :: (rest ++ [.lst (sgW digs)])) (by simp [d1, Nat.add_comm]) ?_
      refine seq_to (fr1 := [some (.cell 0), some (.int many), some (.cell (1 + rest.length)), none, none]) (st1 := c1 :: (rest ++ [.lst (sgW digs)])) ?_ e
      simp [dr, hr]
/-! ## powers, rows of numbers -/
theorem power_ok {k : Nat} {st : Sto} (h : k ≤ 100) : F_law_power [.int k] st = .ok (.int ((2 ^ k : Nat) : Int)) st := by
  refine mk_rt (st1 := st) ?_ rfl
  show B_law_power [some (.int k), none, none] st = _
  unfold B_law_power
  refine asg_to (w := .int 1) (st1 := st) rfl ?_
  simp only [fs1]
  obtain ⟨fr', st', e1, u, efr, est⟩ := x_for (f := (iRng rg1 (aCons (eVar 0) (aNil)))) (g := (gNm 2)) (b := (sAsg (e2 oAdd (eVar 1) (eVar 1)) (gNm 1))) (fr := [some (.int k), some (.int 1), none]) (st := st) (st1 := st) (x := .non) (all := rngW 0 1 k) (x_rng1 (j := (k : Int)) (by simp) (by omega) (by omega))
    (fun i fr S => ∃ u, fr = [some (.int k), some (.int ((2 ^ i : Nat) : Int)), u] ∧ S = st) ⟨none, rfl, rfl⟩ (fun _ _ _ _ => trivial) (by
      rintro i fr S w ⟨u, rfl, rfl⟩ hi
      obtain ⟨hk, rfl⟩ := rngW_at hi
      refine ⟨_, [some (.int k), some (.int ((2 ^ (i + 1) : Nat) : Int)), some (.int (0 + (i : Int) * 1))], S, rfl, .inl ?_, some (.int (0 + (i : Int) * 1)), rfl, rfl⟩
      show sAsg _ _ [some (.int k), some (.int ((2 ^ i : Nat) : Int)), some (.int (0 + (i : Int) * 1))] S = _
      simp only [x_asgN, x_2, x_var, fg1, Out.bind_ok, x_add, Out.stm_ok]
      rw [show ((2 ^ i : Nat) : Int) + ((2 ^ i : Nat) : Int) = ((2 ^ (i + 1) : Nat) : Int) by rw [Nat.pow_succ]; omega]
      rfl)
  rw [efr, est, rngW_length] at e1
  refine seq_to e1 ?_
  rfl
def rowN : Nat → Nat → List Int
  | 0, _ => []
  | w + 1, x => rowN w (x / 2) ++ [((x % 2 : Nat) : Int)]
theorem rowN_len : ∀ w x, (rowN w x).length = w
  | 0, _ => rfl
  | w + 1, x => by unfold rowN; rw [List.length_append, rowN_len w]; rfl
theorem rowN_bits : ∀ w x, Bits (rowN w x)
  | 0, _ => fun n h => (by cases h)
  | w + 1, x => by
    unfold rowN
    intro n hn
    rcases List.mem_append.mp hn with q | q
    · exact rowN_bits w _ n q
    · rw [List.mem_singleton] at q; subst q; omega
theorem rowN_inj : ∀ w x y, x < 2 ^ w → y < 2 ^ w → rowN w x = rowN w y → x = y
  | 0, x, y, h1, h2, _ => by simp at h1 h2; omega
  | w + 1, x, y, h1, h2, e => by
    unfold rowN at e
    have q := List.append_inj e (by rw [rowN_len, rowN_len])
    rw [Nat.pow_succ] at h1 h2
    have := rowN_inj w (x / 2) (y / 2) (by omega) (by omega) q.1
    have q2 := q.2
    simp at q2
    omega
theorem row_of_ok {w x : Nat} {st : Sto} (hw : w ≤ 100) (ho : st.all (oldW st.length) = true) : F_law_row_of [.int x, .int w] st = .ok (bits (rowN w x)) st := by
  have hz : ∀ (r : List Int) n f, fz0 n f (bits r) = some (bits r) := fun r n f => fz_bits n f r
  obtain ⟨fr', st', e1, y, D, u, efr, est, hD, hDl⟩ := x_for (f := (iRng rg1 (aCons (eVar 1) (aNil)))) (g := (gNm 3)) (b := (sSeq (sExp (eM isLst mInsert (eVar 2) (aCons (eC (.int 0)) (aCons (e2 oSub (eVar 0) (e2 oMul (e2 oDiv (eVar 0) (eC (.int 2))) (eC (.int 2)))) (aNil))))) (sAsg (e2 oDiv (eVar 0) (eC (.int 2))) (gNm 0)))) (fr := [some (.int x), some (.int w), some (.cell st.length), none]) (st := st ++ [.lst []]) (st1 := st ++ [.lst []]) (x := .non) (all := rngW 0 1 w) (x_rng1 (j := (w : Int)) (by simp) (by omega) (by omega))
    (fun i fr S => ∃ (y : Nat) (D : List Int) (u : Option W), fr = [some (.int y), some (.int w), some (.cell st.length), u] ∧ S = st ++ [.lst (D.map W.int)] ∧ rowN (w - i) y ++ D = rowN w x ∧ D.length = i) ⟨x, [], none, rfl, rfl, by simp, rfl⟩ (fun _ _ _ _ => trivial) (by
      rintro i fr S u ⟨y, D, u0, rfl, rfl, h1, h2⟩ hi
      obtain ⟨hk, rfl⟩ := rngW_at hi
      have q1 : isLst (st ++ [Cel.lst (D.map W.int)]) (.cell st.length) = true := by unfold isLst lstW; simp only [get_new]; rfl
      have hd : oDiv (.int y) (.int 2) (st ++ [Cel.lst (D.map W.int)]) = .ok (.int ((y / 2 : Nat) : Int)) (st ++ [Cel.lst (D.map W.int)]) := by rw [x_divS (by decide) (by decide)]; simp
      have hd' : ∀ S, oDiv (.int y) (.int 2) S = .ok (.int ((y / 2 : Nat) : Int)) S := fun S => by rw [x_divS (by decide) (by decide)]; simp
      have hm : ∀ S, oMul (.int ((y / 2 : Nat) : Int)) (.int 2) S = .ok (.int (((y / 2 : Nat) : Int) * 2)) S := fun S => x_mulR (by decide)
      have he : (y : Int) - ((y / 2 : Nat) : Int) * 2 = ((y % 2 : Nat) : Int) := by omega
      have q2 : mInsert (.cell st.length) [.int 0, .int ((y % 2 : Nat) : Int)] (st ++ [Cel.lst (D.map W.int)]) = .ok .non (st ++ [Cel.lst ((((y % 2 : Nat) : Int) :: D).map W.int)]) := by
        have hlt : D.length < LINE := by unfold LINE; omega
        unfold mInsert
        simp [hlt]
      refine ⟨[some (.int y), some (.int w), some (.cell st.length), some (.int (0 + (i : Int) * 1))], [some (.int ((y / 2 : Nat) : Int)), some (.int w), some (.cell st.length), some (.int (0 + (i : Int) * 1))], _, rfl, .inl ?_, y / 2, ((y % 2 : Nat) : Int) :: D, some (.int (0 + (i : Int) * 1)), rfl, rfl, ?_, by simp [h2]⟩
      · simp only [x_seq, x_exp, x_eM, x_var, fg2, Out.bind_ok, q1, if_true, x_aCons, x_c, x_2, fg0, hd', hm, x_sub, he, x_aNil, q2, Out.stm_ok, x_asgN]
        rfl
      · rw [← h1, show w - i = (w - (i + 1)) + 1 by omega]
        rw [rowN]; simp)
  rw [efr, est] at e1
  rw [rngW_length] at hD hDl
  rw [Nat.sub_self] at hD
  have hD' : D = rowN w x := by rw [← hD]; rfl
  refine mk_rt2 (ex := [.lst (D.map W.int)]) ?_ (hz (rowN w x)) ho
  show B_law_row_of [some (.int x), some (.int w), none, none] st = _
  unfold B_law_row_of
  refine asg_to (w := .cell st.length) (st1 := st ++ [.lst []]) (by simp [x_cell (ws := []) (by decide)]) ?_
  simp only [fs2]
  refine seq_to e1 ?_
  have q3 : oTuple [.cell st.length] (st ++ [Cel.lst (D.map W.int)]) = .ok (bits (rowN w x)) (st ++ [Cel.lst (D.map W.int)]) := by
    unfold oTuple lstW
    simp only [get_new]
    rw [hD']; rfl
  simp only [x_ret, x_N, x_aCons, x_var, fg2, x_aNil, Out.bind_ok, q3, Out.stm_ok]
/-! ## a drawn book -/
theorem bitsL_erase (l : List (List Int)) (j : Nat) : (bitsL l).eraseIdx j = bitsL (l.eraseIdx j) := by
  unfold bitsL
  induction l generalizing j with
  | nil => simp
  | cons a l ih =>
    cases j with
    | zero => simp
    | succ j => simp only [List.map_cons, List.eraseIdx_cons_succ]; rw [ih]
theorem perm_eraseG {α : Type} : ∀ {l : List α} {i : Nat} (h : i < l.length), ([l[i]] ++ l.eraseIdx i).Perm l
  | [], i, h => by simp at h
  | a :: l, 0, h => by simp
  | a :: l, i + 1, h => by
    have ih := perm_eraseG (l := l) (i := i) (by simpa using h)
    simp only [List.getElem_cons_succ, List.eraseIdx_cons_succ, List.singleton_append] at ih ⊢
    exact (List.Perm.swap ..).trans (ih.cons a)
/-- one row popped off those that are left -/
theorem pop_row {c : Cel} {left : List (List Int)} {d : Cel} {fr : Fr} (hp : Pool c) (h0 : 0 < left.length) (h1 : left.length ≤ 1000) (f0 : fr[0]? = some (some (.cell 0))) (f3 : fr[3]? = some (some (.cell 1))) :
    ∃ (j : Nat) (hj : j < left.length) (c' : Cel), Pool c' ∧ eM isLst mPopAt (eVar 3) (aCons (eCall F_law_draw (aCons (eVar 0) (aCons (eN oLen (aCons (eVar 3) (aNil))) (aNil)))) (aNil)) fr [c, .lst (bitsL left), d] = .ok (bits left[j]) [c', .lst (bitsL (left.eraseIdx j)), d] := by
  obtain ⟨r, c1, p1, r0, r1, dr⟩ := draw_ok (m := (left.length : Int)) hp (by omega) (log_small (by omega) (by omega))
  have hr : r.toNat < left.length := by omega
  refine ⟨r.toNat, hr, c1, p1, ?_⟩
  have q2 : isLst [c, Cel.lst (bitsL left), d] (.cell 1) = true := rfl
  have q3 : oLen [.cell 1] [c, Cel.lst (bitsL left), d] = .ok (.int left.length) [c, Cel.lst (bitsL left), d] := by
    have := (SqW.cell (st := [c, Cel.lst (bitsL left), d]) (k := 1) (us := bitsL left) rfl).len
    rw [bitsL_len] at this
    exact this
  have q4 : mPopAt (.cell 1) [.int r] [c1, Cel.lst (bitsL left), d] = .ok (bits left[r.toNat]) [c1, Cel.lst (bitsL (left.eraseIdx r.toNat)), d] := by
    unfold mPopAt
    have g : (bitsL left)[r.toNat]? = some (bits left[r.toNat]) := by unfold bitsL; rw [List.getElem?_map, List.getElem?_eq_getElem hr]; rfl
    show (if dec (-(2 ^ 63) ≤ r ∧ r < 2 ^ 63) = true then _ else _) = _
    rw [if_pos (dec_mk ⟨by omega, by omega⟩)]
    simp only [bitsL_len, seqIx r0 r1, g, bitsL_erase]
    rfl
  simp only [x_eM, x_var, f3, f0, Out.bind_ok, q2, if_true, x_aCons, x_aNil, x_call, x_N, q3, dr, q4]
theorem model_ok {c : Cel} {w : Nat} {many : Int} (hp : Pool c) (w2 : 2 ≤ w) (w6 : w ≤ 6) (m1 : 1 ≤ many) (m10 : many ≤ 10) :
    ∃ cs P s t c' left, Pool c' ∧ BkOk cs w P s t ∧ F_law_book_model [.cell 0, .int w, .int many] [c] = .ok (mdl 2 s t) [c', .lst (bitsL left), .dct (sgW cs) (bitsL P)] := by
  have hpw : 2 ^ 2 ≤ 2 ^ w := Nat.pow_le_pow_right (by decide) w2
  have hpw6 : 2 ^ w ≤ 2 ^ 6 := Nat.pow_le_pow_right (by decide) w6
  obtain ⟨N, hN⟩ : ∃ N, N = 2 ^ w := ⟨_, rfl⟩
  rw [← hN] at hpw hpw6
  have hN4 : 4 ≤ N := hpw
  have hN64 : N ≤ 64 := hpw6
  obtain ⟨R0, hR⟩ : ∃ R0, R0 = (List.range N).map (rowN w) := ⟨_, rfl⟩
  have hR0 : R0.length = N := by rw [hR]; simp
  have hnd : R0.Nodup := by
    rw [hR]
    refine List.pairwise_map.mpr ((List.nodup_range (n := N)).imp_of_mem fun {a b} ha hb h e => h ?_)
    exact rowN_inj w a b (by rw [← hN]; exact List.mem_range.mp ha) (by rw [← hN]; exact List.mem_range.mp hb) e
  have hrow : ∀ r ∈ R0, r.length = w ∧ Bits r := fun r hr => by
    rw [hR] at hr
    obtain ⟨k, _, rfl⟩ := List.mem_map.mp hr
    exact ⟨rowN_len w k, rowN_bits w k⟩
  obtain ⟨q, hq⟩ : ∃ q : Int, q = if ((N : Int) - 2) < many then (N : Int) - 2 else many := ⟨_, rfl⟩
  have hq1 : 1 ≤ q ∧ q ≤ 10 ∧ q ≤ (N : Int) - 2 := by rw [hq]; split <;> omega
  have pw : ∀ st, F_law_power [.int w] st = .ok (.int (N : Int)) st := fun st => by rw [power_ok (by omega), hN]
  -- all rows
  have z : eLcC (iRng rg1 (aCons (eCall F_law_power (aCons (eVar 1) (aNil))) (aNil))) (gNm 7) [7] (tTrue) (eCall F_law_row_of (aCons (eVar 7) (aCons (eVar 1) (aNil)))) [some (.cell 0), some (.int w), some (.int many), none, none, none, none, none] [c] = .ok (.cell 1) [c, .lst (bitsL R0)] := by
    refine x_lcC (st := [c]) (st1 := [c]) (st2 := [c]) (x := .non) (all := rngW 0 1 N) (x_rng1 (j := (N : Int)) (by simp only [x_aCons, x_call, x_var, fg1, x_aNil, Out.bind_ok, pw]) (by omega) (by omega)) ?_
    have e : bitsL R0 = (rngW 0 1 N).map fun u => match u with
        | .int a => bits (rowN w a.toNat)
        | u => u := by
      rw [hR]
      unfold rngW bitsL
      rw [List.map_map, List.map_map]
      refine List.map_congr_left fun k _ => ?_
      show bits (rowN w k) = bits (rowN w ((0 : Int) + (k : Int) * 1).toNat)
      rw [show ((0 : Int) + (k : Int) * 1).toNat = k by omega]
    rw [e]
    refine lc_map (x := .non) trivial _ fun u hu => ?_
    obtain ⟨k, hk, rfl⟩ := rng_mem hu
    refine ⟨_, rfl, rfl, ?_⟩
    have ha : (0 : Int) + (k : Int) * 1 = (k : Int) := by omega
    rw [ha]
    show eCall F_law_row_of _ [some (.cell 0), some (.int w), some (.int many), none, none, none, none, some (.int (k : Int))] [c] = _
    simp only [x_call, x_aCons, x_var, fg1, fg7, x_aNil, Out.bind_ok, row_of_ok (w := w) (x := k) (st := [c]) (by omega) (by rw [List.all_cons, pool_old _ hp]; rfl), Int.toNat_natCast]
  obtain ⟨cs, c1, p1, k1, k2, k3, sg1⟩ := signs_okR (c := c) (rest := [.lst (bitsL R0), .dct [] []]) (many := q) hp (by omega) (by omega) (by
    rw [List.all_cons, List.all_cons]
    have : ∀ n, oldW n (.lst (bitsL R0)) = true := fun n => by
      show (fz0s n (fun _ => none) (bitsL R0)).isSome = true
      rw [fz_bitsL]; rfl
    rw [this]; rfl)
  have hcl : cs.length ≤ 10 := by omega
  obtain ⟨fr', st', e1, c2, left, P, u, p2, efr, est, hP, hpm⟩ := x_for (f := (iSeq (eCall F_law_signs (aCons (eVar 0) (aCons (eN oMin2 (aCons (eVar 2) (aCons (e2 oSub (eCall F_law_power (aCons (eVar 1) (aNil))) (eC (.int 2))) (aNil)))) (aNil)))))) (g := (gNm 5)) (b := (sSub uDct (eM isLst mPopAt (eVar 3) (aCons (eCall F_law_draw (aCons (eVar 0) (aCons (eN oLen (aCons (eVar 3) (aNil))) (aNil)))) (aNil))) (eVar 4) (eVar 5)))
    (fr := [some (.cell 0), some (.int w), some (.int many), some (.cell 1), some (.cell 2), none, none, none]) (st := [c, .lst (bitsL R0), .dct [] []]) (st1 := [c1, .lst (bitsL R0), .dct [] []]) (x := .lst (sgW cs)) (all := sgW cs)
    (by
      have hmin : oMin2 [.int many, .int ((N : Int) - 2)] [c, .lst (bitsL R0), .dct [] []] = .ok (.int q) [c, .lst (bitsL R0), .dct [] []] := by rw [hq]; rfl
      simp only [x_iSeq, x_call, x_aCons, x_N, x_2, x_var, fg0, fg1, fg2, x_c, x_aNil, Out.bind_ok, pw, x_sub, hmin, sg1]
      rfl)
    (fun i fr S => ∃ (c : Cel) (left P : List (List Int)) (u : Option W), Pool c ∧ fr = [some (.cell 0), some (.int w), some (.int many), some (.cell 1), some (.cell 2), u, none, none] ∧ S = [c, .lst (bitsL left), .dct (sgW (cs.take i)) (bitsL P)] ∧ P.length = i ∧ (P ++ left).Perm R0)
    ⟨c1, R0, [], none, p1, rfl, rfl, rfl, .refl _⟩ (fun _ _ _ _ => trivial) (by
      rintro i fr S v ⟨c, left, P, u, hp, rfl, rfl, hP, hpm⟩ hi
      unfold sgW at hi
      rw [List.getElem?_map] at hi
      obtain ⟨x, hx, rfl⟩ := Option.map_eq_some_iff.mp hi
      have hil : i < cs.length := (List.getElem?_eq_some_iff.mp hx).1
      have hlen := hpm.length_eq
      rw [List.length_append, hR0] at hlen
      obtain ⟨j, hj, c', p', pe⟩ := pop_row (c := c) (left := left) (d := .dct (sgW (cs.take i)) (bitsL P)) (fr := [some (.cell 0), some (.int w), some (.int many), some (.cell 1), some (.cell 2), some (.str (sg x)), none, none]) hp (by omega) (by omega) rfl rfl
      refine ⟨[some (.cell 0), some (.int w), some (.int many), some (.cell 1), some (.cell 2), some (.str (sg x)), none, none], [some (.cell 0), some (.int w), some (.int many), some (.cell 1), some (.cell 2), some (.str (sg x)), none, none], [c', .lst (bitsL (left.eraseIdx j)), .dct (sgW (cs.take (i + 1))) (bitsL (P ++ [left[j]]))], rfl, .inl ?_, c', left.eraseIdx j, P ++ [left[j]], some (.str (sg x)), p', rfl, rfl, by simp [hP], ?_⟩
      · have pn := put_new (S := [c', .lst (bitsL (left.eraseIdx j)), .dct (sgW (cs.take i)) (bitsL P)]) (m := 2) (r := left[j]) rfl (take_not (asc_nodup k2) hx) (by rw [List.length_take]; unfold LINE; omega)
        rw [← take_next hx] at pn
        unfold sSub
        rw [pe]
        simp only [Out.stm_ok, x_var, fg4, fg5, pn]
        rfl
      · refine List.Perm.trans ?_ hpm
        rw [List.append_assoc]
        exact List.Perm.append_left _ (perm_eraseG hj))
  rw [efr, est, sgW_len, List.take_length] at e1
  rw [sgW_len] at hP
  have hlen := hpm.length_eq
  rw [List.length_append, hR0] at hlen
  obtain ⟨j, hj, c3, p3, pe⟩ := pop_row (c := c2) (left := left) (d := .dct (sgW cs) (bitsL P)) (fr := [some (.cell 0), some (.int w), some (.int many), some (.cell 1), some (.cell 2), u, none, none]) p2 (by omega) (by omega) rfl rfl
  have hl2 : (left.eraseIdx j).length = left.length - 1 := by rw [List.length_eraseIdx, if_pos hj]
  obtain ⟨s, hs⟩ : ∃ s, s = left[j] := ⟨_, rfl⟩
  rw [← hs] at pe
  obtain ⟨i, hi, c4, p4, pe2⟩ := pop_row (c := c3) (left := left.eraseIdx j) (d := .dct (sgW cs) (bitsL P)) (fr := [some (.cell 0), some (.int w), some (.int many), some (.cell 1), some (.cell 2), u, some (bits s), none]) p3 (by omega) (by omega) rfl rfl
  obtain ⟨t, ht⟩ : ∃ t, t = (left.eraseIdx j)[i] := ⟨_, rfl⟩
  rw [← ht] at pe2
  have hall : ((P ++ [s, t]) ++ (left.eraseIdx j).eraseIdx i).Perm R0 := by
    refine List.Perm.trans ?_ hpm
    rw [List.append_assoc]
    refine List.Perm.append_left _ ?_
    have a := perm_eraseG hj
    have b := perm_eraseG hi
    rw [← hs] at a
    rw [← ht] at b
    exact (List.Perm.cons s b).trans a
  have hsub : ∀ r ∈ P ++ [s, t], r ∈ R0 := fun r hr => hall.mem_iff.mp (List.mem_append_left _ hr)
  have hn2 : (P ++ [s, t]).Nodup := (List.nodup_append.mp (hall.nodup_iff.mpr hnd)).1
  refine ⟨cs, P, s, t, c4, (left.eraseIdx j).eraseIdx i, p4, ⟨by omega, by omega, k3, k2, hP, by omega, w6, fun r hr => hrow r (hsub r (List.mem_append_left _ hr)), hrow s (hsub s (by simp)), hrow t (hsub t (by simp)), hn2⟩, mkA_rt ?_⟩
  show B_law_book_model [some (.cell 0), some (.int w), some (.int many), none, none, none, none, none] [c] = _
  unfold B_law_book_model
  refine asg_to z ?_
  simp only [fs3]
  refine asg_to (w := .cell 2) (st1 := [c, .lst (bitsL R0), .dct [] []]) rfl ?_
  simp only [fs4]
  refine seq_to e1 ?_
  refine asg_to pe ?_
  simp only [fs6]
  simp only [x_ret, x_N, x_aCons, x_var, fg4, fg6, pe2, x_aNil, Out.bind_ok, x_lst (ws := [W.cell 2, bits s, bits t]) (by simp), Out.stm_ok]
  rfl
theorem drawn_ok {c : Cel} (hp : Pool c) : ∃ cs n P s t c' left, Pool c' ∧ BkOk cs n P s t ∧ F_law_drawn_book [.cell 0] [c] = .ok (mdl 2 s t) [c', .lst (bitsL left), .dct (sgW cs) (bitsL P)] := by
  obtain ⟨r, c1, p1, r0, r1, dr⟩ := draw_ok (m := 6) hp (by decide) (log_small (by decide) (by decide))
  obtain ⟨q, c2, p2, q0, q1, dq⟩ := draw_ok (m := 6) p1 (by decide) (log_small (by decide) (by decide))
  obtain ⟨w, w2, w6, hw⟩ : ∃ w : Nat, 2 ≤ w ∧ w ≤ 6 ∧ ∀ st, oIx (.lst [.int 2, .int 2, .int 3, .int 3, .int 4, .int 6]) (.int r) st = .ok (.int w) st := by
    obtain ⟨u, hu, e⟩ := ix_mem (ws := [.int 2, .int 2, .int 3, .int 3, .int 4, .int 6]) r0 (by simpa using r1)
    simp only [List.mem_cons, List.not_mem_nil, or_false] at hu
    rcases hu with rfl | rfl | rfl | rfl | rfl | rfl
    · exact ⟨2, by decide, by decide, e⟩
    · exact ⟨2, by decide, by decide, e⟩
    · exact ⟨3, by decide, by decide, e⟩
    · exact ⟨3, by decide, by decide, e⟩
    · exact ⟨4, by decide, by decide, e⟩
    · exact ⟨6, by decide, by decide, e⟩
  obtain ⟨m, m1, m10, hm⟩ : ∃ m : Int, 1 ≤ m ∧ m ≤ 10 ∧ ∀ st, oIx (.lst [.int 1, .int 2, .int 2, .int 3, .int 6, .int 10]) (.int q) st = .ok (.int m) st := by
    obtain ⟨u, hu, e⟩ := ix_mem (ws := [.int 1, .int 2, .int 2, .int 3, .int 6, .int 10]) q0 (by simpa using q1)
    simp only [List.mem_cons, List.not_mem_nil, or_false] at hu
    rcases hu with rfl | rfl | rfl | rfl | rfl | rfl
    · exact ⟨1, by decide, by decide, e⟩
    · exact ⟨2, by decide, by decide, e⟩
    · exact ⟨2, by decide, by decide, e⟩
    · exact ⟨3, by decide, by decide, e⟩
    · exact ⟨6, by decide, by decide, e⟩
    · exact ⟨10, by decide, by decide, e⟩
  obtain ⟨cs, P, s, t, c', left, p', B, e⟩ := model_ok p2 w2 w6 m1 m10
  refine ⟨cs, w, P, s, t, c', left, p', B, mkA_rt ?_⟩
  show B_law_drawn_book [some (.cell 0), none, none] [c] = _
  have l1 : ∀ st, oLst [.int 2, .int 2, .int 3, .int 3, .int 4, .int 6] st = .ok (.lst [.int 2, .int 2, .int 3, .int 3, .int 4, .int 6]) st := fun st => x_lst (by decide)
  have l2 : ∀ st, oLst [.int 1, .int 2, .int 2, .int 3, .int 6, .int 10] st = .ok (.lst [.int 1, .int 2, .int 2, .int 3, .int 6, .int 10]) st := fun st => x_lst (by decide)
  unfold B_law_drawn_book
  refine asg_to (w := .int w) (st1 := [c1]) (by simp only [x_2, x_N, x_aCons, x_c, x_aNil, Out.bind_ok, l1, x_call, x_var, fg0, dr, hw]) ?_
  simp only [fs1]
  refine asg_to (w := .int m) (st1 := [c2]) (by simp only [x_2, x_N, x_aCons, x_c, x_aNil, Out.bind_ok, l2, x_call, x_var, fg0, dq, hm]) ?_
  simp only [fs2]
  simp only [x_ret, x_call, x_aCons, x_var, fg0, fg1, fg2, x_aNil, Out.bind_ok, e, Out.stm_ok]
theorem nb {E : Sem} {fr : Fr} {st : Sto} (h : E fr st = .ok (.bl true) st) : bNot (bOf E) fr st = .ok false st := by
  simp only [x_bNot, x_bOf, h, Out.bind_ok]; rfl
theorem if_end {c : SemB} {u : SSem} {fr : Fr} {st : Sto} (h : c fr st = .ok false st) : sIf c u sNil fr st = .nx fr st := by
  simp only [x_if, h, Out.stm_ok]; rfl
end SL
namespace SL
open PySem PySem.Spec PyProof.Rows L2
/-! # a dict with keys of several kinds, by its entries -/
theorem setW_back {α : Type} {n : Nat} {st : List α} {c d : α} (hn : st[n]? = some c) : (st.set n d).set n c = st := by
  have hlt : n < st.length := (List.getElem?_eq_some_iff.mp hn).1
  rw [List.set_set]
  apply List.ext_getElem?
  intro j
  by_cases e : n = j
  · subst e; rw [List.getElem?_set_self hlt, hn]
  · rw [List.getElem?_set_ne e]
section
variable [HW] {st : Sto}
def odK : List W := [.str "", .str "A", .str "ab", .int 0, .non, .tup [], .str "-", .bl true]
/-- a key of the dict: a sign, or one of the odd ones -/
def kOk (k : W) : Prop := (∃ c, okC c ∧ k = .str (sg c)) ∨ k ∈ odK
/-- a value of the dict: any plain row or none, closed -/
def vOk (v : W) : Prop := okRow v = true ∧ ∀ n f, fz0 n f v = some v
def sgB : W → Bool
  | .str ⟨⟨[c]⟩⟩ => SGN.cps.toList.contains c
  | _ => false
abbrev Ents := List (W × W)
def nE (E : Ents) : Cel := .nct false HW.w (E.map (·.1)) (E.map (·.2))
def nL (E : Ents) : Cel := .nct true HW.w (E.map (·.1)) (E.map (·.2))
structure EOk (E : Ents) (kk : List NestedKey) : Prop where
  keys : mapO nkeyM (E.map (·.1)) = some kk
  nd : kk.Nodup
  row : ∀ e ∈ E, kOk e.1
  val : ∀ e ∈ E, vOk e.2
theorem mapO_cons {α β : Type} {f : α → Option β} {a : α} {l : List α} {bs : List β} (h : mapO f (a :: l) = some bs) : ∃ b r, f a = some b ∧ mapO f l = some r ∧ bs = b :: r := by
  unfold mapO at h
  cases e1 : f a with
  | none => rw [e1] at h; cases h
  | some b =>
    cases e2 : mapO f l with
    | none => rw [e1, e2] at h; cases h
    | some r => rw [e1, e2] at h; cases h; exact ⟨b, r, rfl, rfl, rfl⟩
theorem mapO_mk {α β : Type} {f : α → Option β} {a : α} {l : List α} {b : β} {r : List β} (h1 : f a = some b) (h2 : mapO f l = some r) : mapO f (a :: l) = some (b :: r) := by
  unfold mapO; rw [h1, h2]
theorem mapO_appM {α β : Type} {f : α → Option β} : ∀ {l m : List α} {r s : List β}, mapO f l = some r → mapO f m = some s → mapO f (l ++ m) = some (r ++ s)
  | [], m, r, s, h1, h2 => by cases h1; exact h2
  | a :: l, m, r, s, h1, h2 => by
    obtain ⟨b, t, e1', e2', rfl⟩ := mapO_cons h1
    exact mapO_mk e1' (mapO_appM e2' h2)
theorem keys_len : ∀ {E : Ents} {kk : List NestedKey}, mapO nkeyM (E.map (·.1)) = some kk → kk.length = E.length
  | [], kk, h => by cases h; rfl
  | a :: E, kk, h => by
    obtain ⟨b, t, _, e2', rfl⟩ := mapO_cons h
    rw [List.length_cons, List.length_cons, keys_len e2']
theorem val_mem : ∀ {E : Ents} {kk : List NestedKey}, mapO nkeyM (E.map (·.1)) = some kk → kk.Nodup → ∀ e ∈ E, ∃ j, nkeyM e.1 = some j ∧ j ∈ kk ∧ valN (kk.zip (E.map (·.2))) j = some e.2
  | [], _, _, _, _, h => by cases h
  | a :: E, kk, h, nd, e, he => by
    obtain ⟨b, t, e1', e2', rfl⟩ := mapO_cons h
    have nd' := List.nodup_cons.mp nd
    rw [List.map_cons, List.zip_cons_cons]
    rcases List.mem_cons.mp he with rfl | he
    · refine ⟨b, e1', List.mem_cons_self, ?_⟩
      unfold valN
      rw [List.find?_cons_of_pos (by simp)]; rfl
    · obtain ⟨j, h1, h2, h3⟩ := val_mem e2' nd'.2 e he
      refine ⟨j, h1, List.mem_cons_of_mem _ h2, ?_⟩
      unfold valN at h3 ⊢
      rw [List.find?_cons_of_neg (by
        have : ¬ b = j := fun z => nd'.1 (by rw [z]; exact h2)
        simpa using this)]
      exact h3
theorem val_none : ∀ {E : Ents} {kk : List NestedKey} {j : NestedKey}, kk.length = E.length → valN (kk.zip (E.map (·.2))) j = none → j ∉ kk
  | [], [], _, _, _, h => by cases h
  | [], _ :: _, _, hl, _, _ => by simp at hl
  | _ :: _, [], _, _, _, h => by cases h
  | a :: E, b :: kk, j, hl, hv, h => by
    rw [List.map_cons, List.zip_cons_cons] at hv
    unfold valN at hv
    by_cases q : b = j
    · rw [List.find?_cons_of_pos (by simpa using q)] at hv; cases hv
    · rw [List.find?_cons_of_neg (by simpa using q)] at hv
      rcases List.mem_cons.mp h with z | z
      · exact q z.symm
      · exact val_none (by simpa using hl) hv z
theorem dec_self {p : Prop} (h : p) : dec p = true := dec_mk h
theorem nget_ok {E : Ents} {kk : List NestedKey} (K : EOk E kk) {n : Nat} (hn : st[n]? = some (nE E) ∨ st[n]? = some (nL E)) {e : W × W} (he : e ∈ E) : oNGet HW.w (.cell n) e.1 st = .ok e.2 st := by
  obtain ⟨j, h1, _, h3⟩ := val_mem K.keys K.nd e he
  have hw : nctW HW.w st (.cell n) = some (E.map (·.1), E.map (·.2)) := by
    unfold nctW
    rcases hn with hn | hn
    · simp only [hn, nE]; rw [if_pos (dec_self True.intro)]
    · simp only [hn, nL]; rw [if_pos (dec_self True.intro)]
  unfold oNGet
  rw [hw, h1]
  simp only [K.keys, h3]
theorem put_keys : ∀ {E : Ents} {kk : List NestedKey} {j : NestedKey} {u : W}, kk.length = E.length → ((kk.zip E).map fun p => if p.1 = j then (p.2.1, u) else p.2).map (·.1) = E.map (·.1) ∧ ((kk.zip E).map fun p => if p.1 = j then (p.2.1, u) else p.2).map (·.2) = putN kk (E.map (·.2)) j u
  | [], [], _, _, _ => ⟨rfl, rfl⟩
  | [], _ :: _, _, _, hl => by simp at hl
  | _ :: _, [], _, _, hl => by simp at hl
  | a :: E, b :: kk, j, u, hl => by
    obtain ⟨i1, i2⟩ := put_keys (E := E) (kk := kk) (j := j) (u := u) (by simpa using hl)
    unfold putN at i2 ⊢
    rw [List.zip_cons_cons, List.map_cons, List.map_cons, List.map_cons, List.map_cons, i1, List.map_cons, i2, List.zip_cons_cons, List.map_cons]
    by_cases q : b = j
    · simp [q]
    · simp [q]
theorem set_ok {E : Ents} {kk : List NestedKey} (K : EOk E kk) {n : Nat} (hn : st[n]? = some (nE E)) {y u : W} {j : NestedKey} (hy : nkeyM y = some j) (hr : kOk y) (hu : vOk u) (hl : E.length ≤ 100) :
    ∃ E' kk', EOk E' kk' ∧ E'.length ≤ E.length + 1 ∧ uNct HW.w (.cell n) y u st = some (st.set n (nE E')) := by
  have kl := keys_len K.keys
  have ln : (E.map (·.1)).length < LINE := by rw [List.length_map]; unfold LINE; omega
  cases hv : valN (kk.zip (E.map (·.2))) j with
  | some z =>
    obtain ⟨p1, p2⟩ := put_keys (E := E) (kk := kk) (j := j) (u := u) kl
    refine ⟨(kk.zip E).map fun p => if p.1 = j then (p.2.1, u) else p.2, kk, ⟨by rw [p1]; exact K.keys, K.nd, fun e he => ?_, fun e he => ?_⟩, ?_, ?_⟩
    · obtain ⟨p, hp, rfl⟩ := List.mem_map.mp he
      have := K.row p.2 (List.of_mem_zip (a := p.1) (b := p.2) hp).2
      split <;> exact this
    · obtain ⟨p, hp, rfl⟩ := List.mem_map.mp he
      split
      · exact hu
      · exact K.val p.2 (List.of_mem_zip (a := p.1) (b := p.2) hp).2
    · rw [List.length_map, List.length_zip]; omega
    · unfold uNct
      simp only [hn, nE]
      rw [if_pos (dec_self True.intro)]
      simp only [K.keys, hy]
      rw [if_pos ln, hv]
      simp only [Option.isSome_some, if_true]
      rw [← p2, p1]
  | none =>
    refine ⟨E ++ [(y, u)], kk ++ [j], ⟨by rw [List.map_append]; exact mapO_appM K.keys (mapO_mk hy rfl), ?_, fun e he => ?_, fun e he => ?_⟩, by rw [List.length_append]; exact Nat.le_refl _, ?_⟩
    · refine List.nodup_append.mpr ⟨K.nd, by simp, fun a ha b hb e => val_none kl hv ?_⟩
      have hb : b = j := List.mem_singleton.mp hb
      rw [← hb, ← e]; exact ha
    · rcases List.mem_append.mp he with he | he
      · exact K.row e he
      · rw [List.mem_singleton.mp he]; exact hr
    · rcases List.mem_append.mp he with he | he
      · exact K.val e he
      · rw [List.mem_singleton.mp he]; exact hu
    · unfold uNct
      simp only [hn, nE]
      rw [if_pos (dec_self True.intro)]
      simp only [K.keys, hy]
      rw [if_pos ln, hv]
      simp only [Option.isSome_none, Bool.false_eq_true, if_false, List.map_append, List.map_cons, List.map_nil]
theorem keysN_at {i n : Nat} {E : Ents} {fr : Fr} (hf : fr[i]? = some (some (.cell n))) (hn : st[n]? = some (nL E)) (hl : E.length ≤ 1000) : iKeysN i fr st = .ok (.non, E.map (·.1)) st := by
  unfold iKeysN
  simp only [hf, hn, nL]
  rw [if_pos (by rw [List.length_map]; unfold LINE; omega)]
theorem unlkE_at {n : Nat} {E : Ents} (hu : st[n]? = some (nL E)) : unlkN n st = some (st.set n (nE E)) := by
  unfold unlkN
  rw [hu]; rfl
theorem lockS_nx {i n : Nat} {E : Ents} {s : SSem} {fr fr2 : Fr} (hf : fr[i]? = some (some (.cell n))) (hn : st[n]? = some (nE E)) (h : s fr (st.set n (nL E)) = .nx fr2 (st.set n (nL E))) : sLockN i s fr st = .nx fr2 st := by
  have hlt : n < st.length := (List.getElem?_eq_some_iff.mp hn).1
  unfold sLockN
  simp only [hf, hn, nE]
  show unlNS n (s fr (st.set n (nL E))) = _
  rw [h]
  unfold unlNS
  simp only
  rw [unlkE_at (List.getElem?_set_self hlt), setW_back hn]
theorem lockS_rt {i n : Nat} {E : Ents} {s : SSem} {fr : Fr} {u : W} (hf : fr[i]? = some (some (.cell n))) (hn : st[n]? = some (nE E)) (h : s fr (st.set n (nL E)) = .rt u (st.set n (nL E))) : sLockN i s fr st = .rt u st := by
  have hlt : n < st.length := (List.getElem?_eq_some_iff.mp hn).1
  unfold sLockN
  simp only [hf, hn, nE]
  show unlNS n (s fr (st.set n (nL E))) = _
  rw [h]
  unfold unlNS
  simp only
  rw [unlkE_at (List.getElem?_set_self hlt), setW_back hn]
end

end SL
namespace SL
open PySem PySem.Spec PyProof.Rows L2
/-! # keys and rows -/
section
variable [HW] {st : Sto}
theorem sgB_sg {c : Nat} (h : okC c) : sgB (.str (sg c)) = true := by
  show SGN.cps.toList.contains c = true
  rw [List.contains_iff_mem]; exact h
theorem sgB_od : ∀ k ∈ odK, sgB k = false := by decide +kernel
theorem B_sign_od : ∀ k ∈ odK, B_is_sign [some k] st = .rt (.bl false) st := by
  intro k hk
  simp only [odK, List.mem_cons, List.not_mem_nil, or_false] at hk
  rcases hk with rfl | rfl | rfl | rfl | rfl | rfl | rfl | rfl <;> rfl
theorem B_lsign_od : ∀ k ∈ odK, B_law_is_sign [some k] st = .rt (.bl false) st := by
  intro k hk
  simp only [odK, List.mem_cons, List.not_mem_nil, or_false] at hk
  rcases hk with rfl | rfl | rfl | rfl | rfl | rfl | rfl | rfl <;> rfl
theorem sign_at {k : W} (h : kOk k) : F_is_sign [k] st = .ok (.bl (sgB k)) st := by
  rcases h with ⟨c, hc, rfl⟩ | h
  · rw [sgB_sg hc]; exact is_sign_ok hc
  · rw [sgB_od k h]; exact mk_rt (st1 := st) (B_sign_od k h) rfl
theorem lsign_ok {c : Nat} (h : okC c) : F_law_is_sign [.str (sg c)] st = .ok (.bl true) st := by
  refine mk_rt (st1 := st) ?_ rfl
  show B_law_is_sign [some (.str (sg c))] st = _
  have e : oIn (.str (sg c)) (.str "0123456789abcdefghijklmnopqrstuvwxyz") st = .ok (.bl true) st := by
    show Out.ok (W.bl (decide (c ∈ SGN.cps.toList))) st = _
    rw [decide_eq_true (show c ∈ SGN.cps.toList from h)]
  unfold B_law_is_sign
  simp [e]
theorem lsign_at {k : W} (h : kOk k) : F_law_is_sign [k] st = .ok (.bl (sgB k)) st := by
  rcases h with ⟨c, hc, rfl⟩ | h
  · rw [sgB_sg hc]; exact lsign_ok hc
  · rw [sgB_od k h]; exact mk_rt (st1 := st) (B_lsign_od k h) rfl
theorem key_good {k : W} (h : kOk k) (g : sgB k = true) : ∃ c, okC c ∧ k = .str (sg c) := by
  rcases h with h | h
  · exact h
  · rw [sgB_od k h] at g; cases g
theorem kOk_key {k : W} (h : kOk k) : ∃ j, nkeyM k = some j := by
  rcases h with ⟨c, hc, rfl⟩ | h
  · exact ⟨_, rfl⟩
  · simp only [odK, List.mem_cons, List.not_mem_nil, or_false] at h
    rcases h with rfl | rfl | rfl | rfl | rfl | rfl | rfl | rfl <;> exact ⟨_, rfl⟩
def rowK (n : Nat) (k : W) : Bool := rowW k && decide ((itemsW k).length = n)
theorem lrow_ok {k : W} {n : Nat} (h : okRow k = true) : F_law_is_row [k, .int (n : Int)] st = .ok (.bl (rowK n k)) st := by
  unfold okRow at h
  rw [Bool.and_eq_true] at h
  obtain ⟨h1, h2⟩ := h
  refine mk_rt (st1 := st) ?_ rfl
  show B_law_is_row [some k, some (.int (n : Int)), none, none] st = _
  unfold B_law_is_row
  cases k with
  | tup ws =>
    have ln : oLen [.tup ws] st = .ok (.int ws.length) st := x_len_tup
    have it : oIsi [.tup ws, .ty "tuple"] st = .ok (.bl true) st := rfl
    by_cases q : ws.length = n
    · have qi : (ws.length : Int) = n := by omega
      refine if_no (st1 := st) (st2 := st) (by simp only [x_bOr, x_bNot, x_bOf, x_2, x_N, x_aCons, x_aNil, x_var, x_c, fg0, fg1, Out.bind_ok, it, ln, x_neI, qi, decide_true, Bool.not_true, Bool.false_eq_true, if_false]) rfl ?_
      have lc := x_lc (own := [3]) (f := iSeq (eVar 0)) (g := gNm 3) (t := bAnd (bOf (eN oIsi (aCons (eVar 3) (aCons (eC (.ty "int")) (aNil))))) (bAnd (bNot (bOf (eN oIsi (aCons (eVar 3) (aCons (eC (.ty "bool")) (aNil)))))) (bAnd (bOf (e2 oLe (eC (.int 0)) (eVar 3))) (bOf (e2 oLe (eVar 3) (eC (.int 1))))))) (e := eVar 3) (fr := [some (.tup ws), some (.int (n : Int)), none, none]) (st := st) (st1 := st) (st2 := st) (x := .tup ws) (all := ws) (ys := (ws.filter fun w => betw 0 1 w).map id) (by simp) (by
        have := lc_filter (x := .tup ws) (all := ws) (g := gNm 3) (t := bAnd (bOf (eN oIsi (aCons (eVar 3) (aCons (eC (.ty "int")) (aNil))))) (bAnd (bNot (bOf (eN oIsi (aCons (eVar 3) (aCons (eC (.ty "bool")) (aNil)))))) (bAnd (bOf (e2 oLe (eC (.int 0)) (eVar 3))) (bOf (e2 oLe (eVar 3) (eC (.int 1))))))) (e := eVar 3) (fr := wipeF [some (.tup ws), some (.int (n : Int)), none, none] [3]) (st := st) (p := fun w => betw 0 1 w) (f := id) trivial ws (by
          intro w hw
          have pw := List.all_eq_true.mp h2 w hw
          refine ⟨[some (.tup ws), some (.int (n : Int)), none, some w], rfl, ?_, fun _ => rfl⟩
          cases w with
          | int i =>
            by_cases a : (0 : Int) ≤ i
            · by_cases b : i ≤ 1
              · simp [betw, a, b]
              · simp [betw, a, b]
            · simp [betw, a]
          | dct ks ws =>
            cases ks with
            | nil => simp [betw]
            | cons k ks =>
              cases k with
              | str x => simp [betw]
              | _ => cases pw
          | _ =>
            first
              | (cases pw; done)
              | simp [betw])
        exact this)
      rw [List.map_id] at lc
      refine asg_to (w := .lst (ws.filter fun w => betw 0 1 w)) (st1 := st) lc ?_
      simp only [fs2]
      have rk : rowK n (.tup ws) = decide (((ws.filter fun w => betw 0 1 w).length : Int) = (n : Int)) := by
        unfold rowK rowW itemsW
        rw [decide_eq_true q, Bool.and_true, Bool.eq_iff_iff, List.all_eq_true, decide_eq_true_eq]
        constructor
        · intro z
          rw [List.filter_eq_self.mpr z]; exact qi
        · intro z a ha
          have l := List.length_filter_le (fun w => betw 0 1 w) ws
          have : ws.filter (fun w => betw 0 1 w) = ws := List.filter_sublist.eq_of_length (by omega)
          exact List.filter_eq_self.mp this a ha
      simp only [x_ret, x_2, x_N, x_aCons, x_var, fg1, fg2, x_aNil, Out.bind_ok, x_len_lst, x_eqI, rk, Out.stm_ok]
    · have qi : ¬ (ws.length : Int) = n := by omega
      have rk : rowK n (.tup ws) = false := by unfold rowK itemsW; rw [decide_eq_false q, Bool.and_false]
      rw [rk]
      simp only [x_seq, x_if, x_bOr, x_bNot, x_bOf, x_2, x_N, x_aCons, x_aNil, x_var, x_c, fg0, fg1, Out.bind_ok, it, ln, x_neI, decide_eq_false qi, x_ret, Bool.not_true, Bool.not_false, Bool.false_eq_true, if_false, if_true, Out.stm_ok]
  | dct ks ws =>
    cases ks with
    | nil => simp [rowK, rowW]
    | cons k ks =>
      cases k with
      | str x => simp [rowK, rowW]
      | _ => cases h1
  | _ => first | (cases h1; done) | simp [rowK, rowW]
theorem rowof_ok {k : W} {n : Nat} (h : okRow k = true) : F_is_row_of [k, .int (n : Int)] st = .ok (.bl (rowK n k)) st := by
  have r1 := is_row_ok (st := st) h
  refine mk_rt (st1 := st) ?_ rfl
  show B_is_row_of [some k, some (.int (n : Int))] st = _
  unfold B_is_row_of
  unfold rowK
  cases hr : rowW k with
  | false =>
    rw [hr] at r1
    simp only [x_ret, x_and, x_call, x_aCons, x_aNil, x_var, fg0, Out.bind_ok, r1, Bool.false_eq_true, if_false, Out.stm_ok, Bool.false_and]
  | true =>
    rw [hr] at r1
    obtain ⟨us, rfl⟩ : ∃ us, k = .tup us := by
      cases k with
      | tup us => exact ⟨us, rfl⟩
      | _ => cases hr
    have ln : oLen [.tup us] st = .ok (.int us.length) st := x_len_tup
    have e : decide ((us.length : Int) = (n : Int)) = decide (us.length = n) := by
      by_cases q : us.length = n
      · rw [decide_eq_true q, decide_eq_true (by omega)]
      · rw [decide_eq_false q, decide_eq_false (by omega)]
    simp only [x_ret, x_and, x_call, x_2, x_N, x_aCons, x_aNil, x_var, fg0, fg1, Out.bind_ok, r1, if_true, ln, x_eqI, Out.stm_ok, Bool.true_and, itemsW, e]
    rfl
end

end SL
namespace SL
open PySem PySem.Spec PyProof.Rows L2
/-! ## are_patterns -/
/-- a walk that may return -/
theorem for_all37 {x : W} {all : List W} {g : TgF} {b : SSem} {f : SemI} {fr : Fr} {st st1 : Sto} (P : Nat → Fr → Sto → Prop) (O : SOut → Prop) (h : f fr st = .ok (x, all) st1) (h0 : P 0 fr st1) (hs : ∀ k fr st, P k fr st → srcOk x all st)
    (step : ∀ k fr st w, P k fr st → all[k]? = some w → ∃ fr1, g w fr st = some fr1 ∧ ((∃ fr2 st2, b fr1 st = .nx fr2 st2 ∧ P (k + 1) fr2 st2) ∨ (∃ u st2, b fr1 st = .rt u st2 ∧ O (.rt u st2)))) (hend : ∀ fr st, P all.length fr st → O (.nx fr st)) :
    O (sFor f g b fr st) := by
  have key : ∀ (n k : Nat) (fr : Fr) (st : Sto), k + n = all.length → P k fr st → O (forRun x all g b (all.drop k) fr st) := fun n => by
    induction n with
    | zero =>
      intro k fr st hk hq
      rw [List.drop_of_length_le (by omega), forRun, if_pos (hs k fr st hq)]
      rw [Nat.add_zero] at hk
      subst hk
      exact hend fr st hq
    | succ n ih =>
      intro k fr st hk hq
      have hl : k < all.length := by omega
      obtain ⟨fr1, e1, hb⟩ := step k fr st _ hq (List.getElem?_eq_getElem hl)
      rw [List.drop_eq_getElem_cons hl, forRun, if_pos (hs k fr st hq), e1]
      rcases hb with ⟨fr2, st2, e, hp⟩ | ⟨u, st2, e, ho⟩
      · simp only [e]
        exact ih (k + 1) fr2 st2 (by omega) hp
      · simp only [e]
        exact ho
  unfold sFor
  rw [h]
  exact key all.length 0 fr st1 (by omega) h0
section
variable [HW] {st : Sto}
def itB (e : W × W) : Bool := sgB e.1 && (rowW e.2 && (decide (1 ≤ (itemsW e.2).length) && decide ((itemsW e.2).length ≤ 6)))
def goodB (w : Nat) (e : W × W) : Bool := sgB e.1 && rowK w e.2
def lenE (e : W × W) : Nat := (itemsW e.2).length
def wid : Ents → Nat
  | [] => 0
  | e :: _ => lenE e
def patB (E : Ents) : Bool := (decide (1 ≤ E.length) && decide (E.length ≤ 10)) && ((decide (1 ≤ wid E) && decide (wid E ≤ 6)) && E.all (goodB (wid E)))
theorem isd_nE {n : Nat} {E : Ents} (hn : st[n]? = some (nE E)) : oIsiN [.cell n, .ty "dict"] st = .ok (.bl true) st := isiN_nct hn
theorem nlen_nE {n : Nat} {E : Ents} (hn : st[n]? = some (nE E)) : oNLen [.cell n] st = .ok (.int E.length) st := by
  unfold oNLen
  simp only [hn, nE, List.length_map]
theorem items_at {i n : Nat} {E : Ents} {fr : Fr} (hf : fr[i]? = some (some (.cell n))) (hn : st[n]? = some (nL E)) (hl : E.length ≤ 1000) : iItemsN i fr st = .ok (.non, E.map fun e => .tup [e.1, e.2]) st := by
  unfold iItemsN
  simp only [hf, hn, nL]
  rw [if_pos (by rw [List.length_map]; unfold LINE; omega)]
  unfold kvT
  rw [List.zip_map']
  rw [List.map_map]; rfl
theorem ex_min : ∀ {l : List Int}, l ≠ [] → ∃ m, IsMin l m
  | [], h => absurd rfl h
  | [a], _ => ⟨a, List.mem_singleton.mpr rfl, fun y hy => by rw [List.mem_singleton.mp hy]; exact Int.le_refl _⟩
  | a :: b :: l, _ => by
    obtain ⟨m, h1, h2⟩ := ex_min (l := b :: l) (by simp)
    by_cases q : a ≤ m
    · exact ⟨a, List.mem_cons_self, fun y hy => by
        rcases List.mem_cons.mp hy with rfl | hy
        · exact Int.le_refl _
        · exact Int.le_trans q (h2 y hy)⟩
    · exact ⟨m, List.mem_cons_of_mem _ h1, fun y hy => by
        rcases List.mem_cons.mp hy with rfl | hy
        · omega
        · exact h2 y hy⟩
theorem ex_max : ∀ {l : List Int}, l ≠ [] → ∃ m, IsMax l m
  | [], h => absurd rfl h
  | [a], _ => ⟨a, List.mem_singleton.mpr rfl, fun y hy => by rw [List.mem_singleton.mp hy]; exact Int.le_refl _⟩
  | a :: b :: l, _ => by
    obtain ⟨m, h1, h2⟩ := ex_max (l := b :: l) (by simp)
    by_cases q : m ≤ a
    · exact ⟨a, List.mem_cons_self, fun y hy => by
        rcases List.mem_cons.mp hy with rfl | hy
        · exact Int.le_refl _
        · exact Int.le_trans (h2 y hy) q⟩
    · exact ⟨m, List.mem_cons_of_mem _ h1, fun y hy => by
        rcases List.mem_cons.mp hy with rfl | hy
        · omega
        · exact h2 y hy⟩
def lensI (E : Ents) : List Int := E.map fun e => ((lenE e : Nat) : Int)
/-- all widths alike, told by least and greatest -/
theorem pat_is {E : Ents} {m M : Int} (h1 : 1 ≤ E.length) (h10 : E.length ≤ 10) (hm : IsMin (lensI E) m) (hM : IsMax (lensI E) M) (ha : E.all itB = true) : patB E = decide (m = M) := by
  unfold patB
  rw [decide_eq_true h1, decide_eq_true h10, Bool.true_and, Bool.true_and]
  cases E with
  | nil => simp at h1
  | cons e E =>
    have ha' := List.all_eq_true.mp ha
    have he := ha' e List.mem_cons_self
    unfold itB at he
    simp only [Bool.and_eq_true, decide_eq_true_eq] at he
    have w1 : 1 ≤ wid (e :: E) := he.2.2.1
    have w6 : wid (e :: E) ≤ 6 := he.2.2.2
    rw [decide_eq_true w1, decide_eq_true w6, Bool.true_and, Bool.true_and, Bool.eq_iff_iff, decide_eq_true_eq, List.all_eq_true]
    have mem : ∀ x ∈ e :: E, ((lenE x : Nat) : Int) ∈ lensI (e :: E) := fun x hx => List.mem_map.mpr ⟨x, hx, rfl⟩
    constructor
    · intro z
      have al : ∀ y ∈ lensI (e :: E), y = ((wid (e :: E) : Nat) : Int) := fun y hy => by
        obtain ⟨x, hx, rfl⟩ := List.mem_map.mp hy
        have g := z x hx
        unfold goodB rowK at g
        simp only [Bool.and_eq_true, decide_eq_true_eq] at g
        unfold lenE
        omega
      rw [al m hm.1, al M hM.1]
    · intro z x hx
      have a1 := hm.2 _ (mem x hx)
      have a2 := hM.2 _ (mem x hx)
      have b1 := hm.2 _ (mem e List.mem_cons_self)
      have b2 := hM.2 _ (mem e List.mem_cons_self)
      have ix := ha' x hx
      unfold itB at ix
      simp only [Bool.and_eq_true, decide_eq_true_eq] at ix
      unfold goodB rowK
      rw [ix.1, ix.2.1, Bool.true_and, Bool.true_and, decide_eq_true_eq]
      show lenE x = lenE e
      omega
theorem pat_no {E : Ents} (ha : E.all itB = false) : patB E = false := by
  cases h : patB E with
  | false => rfl
  | true =>
    unfold patB at h
    simp only [Bool.and_eq_true, decide_eq_true_eq] at h
    obtain ⟨_, ⟨w1, w6⟩, g⟩ := h
    have : E.all itB = true := List.all_eq_true.mpr fun x hx => by
      have g := List.all_eq_true.mp g x hx
      unfold goodB rowK at g
      simp only [Bool.and_eq_true, decide_eq_true_eq] at g
      unfold itB
      rw [g.1, g.2.1, Bool.true_and, Bool.true_and, g.2.2, decide_eq_true w1, decide_eq_true w6]; rfl
    rw [ha] at this; cases this
theorem are_other {x : W} (hx : oIsiN [x, .ty "dict"] st = .ok (.bl false) st) : F_are_patterns [x] st = .ok (.bl false) st := by
  refine mk_rt (st1 := st) ?_ rfl
  show B_are_patterns [some x, none, none, none] st = _
  unfold B_are_patterns
  simp only [x_seq, x_if, x_bOr, x_bNot, x_bOf, x_N, x_aCons, x_aNil, x_var, fg0, x_c, Out.bind_ok, hx, Bool.not_false, if_true, Out.stm_ok, x_ret]
theorem are_ok {E : Ents} {kk : List NestedKey} (K : EOk E kk) (hl : E.length ≤ 100) {n : Nat} (hn : st[n]? = some (nE E)) (ho : st.all (oldW st.length) = true) : F_are_patterns [.cell n] st = .ok (.bl (patB E)) st := by
  have hlt : n < st.length := (List.getElem?_eq_some_iff.mp hn).1
  have isd := isd_nE hn
  have nl := nlen_nE hn
  by_cases hb : 1 ≤ E.length ∧ E.length ≤ 10
  · obtain ⟨h1, h10⟩ := hb
    have d1 : (1 : Int) ≤ (E.length : Int) := by omega
    have d2 : (E.length : Int) ≤ 10 := by omega
    obtain ⟨L, hL⟩ : ∃ L, L = st.set n (nL E) := ⟨_, rfl⟩
    have hLl : L.length = st.length := by rw [hL]; exact List.length_set
    have hLn : ∀ ws, (L ++ [Cel.lst ws])[n]? = some (nL E) := fun ws => by
      rw [List.getElem?_append_left (by rw [hLl]; exact hlt), hL, List.getElem?_set_self hlt]
    have hset1 : ∀ ws, (st ++ [Cel.lst ws]).set n (nL E) = L ++ [Cel.lst ws] := fun ws => by
      rw [hL, List.set_append_left _ _ hlt]
    have hn1 : ∀ ws, (st ++ [Cel.lst ws])[n]? = some (nE E) := fun ws => by rw [List.getElem?_append_left hlt]; exact hn
    have back : ∀ ws, (L ++ [Cel.lst ws]).set n (nE E) = st ++ [Cel.lst ws] := fun ws => by
      rw [List.set_append_left _ _ (by rw [hLl]; exact hlt), hL, setW_back hn]
    -- one turn
    have turn : ∀ (e : W × W) (ws : List W), e ∈ E → ws.length ≤ 100 → (sSeq (sIf (bOr (bNot (bOf (eCall F_is_sign (aCons (eVar 2) (aNil))))) (bOr (bNot (bOf (eCall F_is_row (aCons (eVar 3) (aNil))))) (bNot (bOf (eChain oLe oLe (eC (.int 1)) (eN oLen (aCons (eVar 3) (aNil))) (eC (.int 6))))))) (sRet (eC (.bl false))) (sNil)) (sExp (eM isLst mAppend (eVar 1) (aCons (eN oLen (aCons (eVar 3) (aNil))) (aNil))))) [some (.cell n), some (.cell st.length), some e.1, some e.2] (L ++ [Cel.lst ws]) = if itB e = true then .nx [some (.cell n), some (.cell st.length), some e.1, some e.2] (L ++ [Cel.lst (ws ++ [.int (lenE e : Nat)])]) else .rt (.bl false) (L ++ [Cel.lst ws]) := fun e ws he hw => by
      have ks := sign_at (st := L ++ [Cel.lst ws]) (K.row e he)
      have r1 := is_row_ok (st := L ++ [Cel.lst ws]) (K.val e he).1
      unfold itB
      cases hs : sgB e.1 with
      | false =>
        rw [hs] at ks
        simp only [x_seq, x_if, x_bOr, x_bNot, x_bOf, x_call, x_aCons, x_aNil, x_var, fg2, Out.bind_ok, ks, Bool.not_false, if_true, Bool.false_and, Bool.false_eq_true, if_false, x_ret, x_c, Out.stm_ok]
      | true =>
        rw [hs] at ks
        cases hr : rowW e.2 with
        | false =>
          rw [hr] at r1
          simp only [x_seq, x_if, x_bOr, x_bNot, x_bOf, x_call, x_aCons, x_aNil, x_var, fg2, fg3, Out.bind_ok, ks, r1, Bool.not_false, Bool.not_true, if_true, Bool.true_and, Bool.false_and, Bool.false_eq_true, if_false, x_ret, x_c, Out.stm_ok]
        | true =>
          rw [hr] at r1
          obtain ⟨us, hu⟩ : ∃ us, e.2 = .tup us := by
            cases h : e.2 with
            | tup us => exact ⟨us, rfl⟩
            | _ => rw [h] at hr; cases hr
          have ol : oLen [e.2] (L ++ [Cel.lst ws]) = .ok (.int (lenE e : Nat)) (L ++ [Cel.lst ws]) := by unfold lenE; rw [hu]; exact x_len_tup
          have q1 : isLst (L ++ [Cel.lst ws]) (.cell st.length) = true := by unfold isLst lstW; rw [← hLl]; simp only [get_new]; rfl
          have q2 : mAppend (.cell st.length) [.int (lenE e : Nat)] (L ++ [Cel.lst ws]) = .ok .non (L ++ [Cel.lst (ws ++ [.int (lenE e : Nat)])]) := by
            have hlt : ws.length < LINE := by unfold LINE; omega
            unfold mAppend
            rw [← hLl]
            simp only [get_new, if_pos hlt, set_new]
          show _ = if (true && (true && (decide (1 ≤ lenE e) && decide (lenE e ≤ 6)))) = true then _ else _
          by_cases a : 1 ≤ lenE e
          · have ai : (1 : Int) ≤ (lenE e : Nat) := by omega
            by_cases b : lenE e ≤ 6
            · have bi : ((lenE e : Nat) : Int) ≤ 6 := by omega
              rw [decide_eq_true a, decide_eq_true b, if_pos (by decide)]
              refine if_no (st1 := L ++ [Cel.lst ws]) (st2 := L ++ [Cel.lst ws]) (by simp [ks, r1, ol, ai, bi]) rfl ?_
              simp [q1, ol, q2]
            · have bi : ¬ ((lenE e : Nat) : Int) ≤ 6 := by omega
              rw [decide_eq_true a, decide_eq_false b, if_neg (by decide)]
              simp [ks, r1, ol, ai, bi]
          · have ai : ¬ (1 : Int) ≤ (lenE e : Nat) := by omega
            rw [decide_eq_false a, if_neg (by simp)]
            simp [ks, r1, ol, ai]
    have loop := for_all37 (x := .non) (all := E.map fun e => W.tup [e.1, e.2]) (f := iItemsN 0) (g := gTl 2 (gsCons (gNm 2) (gsCons (gNm 3) (gsNil)))) (b := (sSeq (sIf (bOr (bNot (bOf (eCall F_is_sign (aCons (eVar 2) (aNil))))) (bOr (bNot (bOf (eCall F_is_row (aCons (eVar 3) (aNil))))) (bNot (bOf (eChain oLe oLe (eC (.int 1)) (eN oLen (aCons (eVar 3) (aNil))) (eC (.int 6))))))) (sRet (eC (.bl false))) (sNil)) (sExp (eM isLst mAppend (eVar 1) (aCons (eN oLen (aCons (eVar 3) (aNil))) (aNil)))))) (fr := [some (.cell n), some (.cell st.length), none, none]) (st := L ++ [Cel.lst []]) (st1 := L ++ [Cel.lst []])
      (fun k fr s => (∃ u v, fr = [some (.cell n), some (.cell st.length), u, v]) ∧ s = L ++ [Cel.lst ((lensI (E.take k)).map W.int)] ∧ (E.take k).all itB = true)
      (fun o => (E.all itB = true ∧ ∃ u v, o = .nx [some (.cell n), some (.cell st.length), u, v] (L ++ [Cel.lst ((lensI E).map W.int)])) ∨ (E.all itB = false ∧ ∃ ws, o = .rt (.bl false) (L ++ [Cel.lst ws])))
      (items_at rfl (hLn _) (by omega)) ⟨⟨none, none, rfl⟩, rfl, rfl⟩ (fun _ _ _ _ => trivial) (by
        rintro k fr s x ⟨⟨u, v, rfl⟩, rfl, ha⟩ hx
        rw [List.getElem?_map] at hx
        obtain ⟨e, he, rfl⟩ := Option.map_eq_some_iff.mp hx
        have t := turn e ((lensI (E.take k)).map W.int) (List.mem_of_getElem? he) (by unfold lensI; rw [List.length_map, List.length_map, List.length_take]; omega)
        refine ⟨[some (.cell n), some (.cell st.length), some e.1, some e.2], rfl, ?_⟩
        cases hb : itB e with
        | true =>
          rw [hb, if_pos rfl] at t
          refine .inl ⟨_, _, t, ⟨_, _, rfl⟩, ?_, ?_⟩
          · rw [take_next he]; unfold lensI; rw [List.map_append, List.map_append]; rfl
          · rw [take_next he, List.all_append, ha]
            simp [hb]
        | false =>
          rw [hb, if_neg (by decide)] at t
          refine .inr ⟨_, _, t, .inr ⟨?_, _, rfl⟩⟩
          cases h : E.all itB with
          | false => rfl
          | true =>
            have := List.all_eq_true.mp h e (List.mem_of_getElem? he)
            rw [hb] at this; cases this) (by
        rintro fr s ⟨⟨u, v, rfl⟩, rfl, ha⟩
        rw [List.length_map, List.take_length] at ha
        rw [List.length_map, List.take_length]
        exact .inl ⟨ha, u, v, rfl⟩)
    have head : ∀ o, (sSeq (sLockN 0 (sFor (iItemsN 0) (gTl 2 (gsCons (gNm 2) (gsCons (gNm 3) (gsNil)))) (sSeq (sIf (bOr (bNot (bOf (eCall F_is_sign (aCons (eVar 2) (aNil))))) (bOr (bNot (bOf (eCall F_is_row (aCons (eVar 3) (aNil))))) (bNot (bOf (eChain oLe oLe (eC (.int 1)) (eN oLen (aCons (eVar 3) (aNil))) (eC (.int 6))))))) (sRet (eC (.bl false))) (sNil)) (sExp (eM isLst mAppend (eVar 1) (aCons (eN oLen (aCons (eVar 3) (aNil))) (aNil))))))) (sRet (e2 oEq (eN (oBestX IsMin) (aCons (eVar 1) (aNil))) (eN (oBestX IsMax) (aCons (eVar 1) (aNil)))))) [some (.cell n), some (.cell st.length), none, none] (st ++ [Cel.lst []]) = o → B_are_patterns [some (.cell n), none, none, none] st = o := fun o h => by
      unfold B_are_patterns
      refine if_no (st1 := st) (st2 := st) ?_ rfl ?_
      · simp [isd, nl, d1, d2]
      refine asg_to (w := .cell st.length) (st1 := st ++ [.lst []]) (by simp [x_cell (ws := []) (by decide)]) ?_
      simp only [fs1]
      exact h
    have lk : ∀ (s : SSem) (fr : Fr), fr[0]? = some (some (.cell n)) → ∀ ws o, s fr (L ++ [Cel.lst ws]) = o → sLockN 0 s fr (st ++ [Cel.lst ws]) = unlNS n o := fun s fr hf ws o h => by
      unfold sLockN
      simp only [hf, hn1, nE]
      show unlNS n (s fr ((st ++ [Cel.lst ws]).set n (nL E))) = _
      rw [hset1, h]
    rcases loop with ⟨h1', u, v, h2⟩ | ⟨h1', ws, h2⟩
    · refine mk_rt2 (ex := [.lst ((lensI E).map W.int)]) ?_ (fun _ _ => by simp only [fz0]) ho
      show B_are_patterns [some (.cell n), none, none, none] st = _
      refine head _ ?_
      have e' := lk _ _ rfl [] _ h2
      have e' : sLockN 0 (sFor (iItemsN 0) (gTl 2 (gsCons (gNm 2) (gsCons (gNm 3) (gsNil)))) (sSeq (sIf (bOr (bNot (bOf (eCall F_is_sign (aCons (eVar 2) (aNil))))) (bOr (bNot (bOf (eCall F_is_row (aCons (eVar 3) (aNil))))) (bNot (bOf (eChain oLe oLe (eC (.int 1)) (eN oLen (aCons (eVar 3) (aNil))) (eC (.int 6))))))) (sRet (eC (.bl false))) (sNil)) (sExp (eM isLst mAppend (eVar 1) (aCons (eN oLen (aCons (eVar 3) (aNil))) (aNil)))))) [some (.cell n), some (.cell st.length), none, none] (st ++ [Cel.lst []]) = .nx [some (.cell n), some (.cell st.length), u, v] (st ++ [Cel.lst ((lensI E).map W.int)]) := by
        rw [e']
        unfold unlNS
        simp only
        rw [unlkE_at (hLn _), back]
      refine seq_to e' ?_
      have ne : lensI E ≠ [] := fun z => by
        have : (lensI E).length = 0 := by rw [z]; rfl
        unfold lensI at this
        rw [List.length_map] at this; omega
      obtain ⟨m, hm⟩ := ex_min ne
      obtain ⟨M, hM⟩ := ex_max ne
      have w1 : ((seqW (st ++ [Cel.lst ((lensI E).map W.int)]) (.cell st.length)).bind intsW) = some (lensI E) := by
        unfold seqW lstW
        simp only [get_new]
        exact ints_map _
      have w2 : oBestX IsMin [.cell st.length] (st ++ [Cel.lst ((lensI E).map W.int)]) = .ok (.int m) (st ++ [Cel.lst ((lensI E).map W.int)]) := by
        unfold oBestX; simp only [w1, theOne_is hm fun _ g => min_one hm g]
      have w3 : oBestX IsMax [.cell st.length] (st ++ [Cel.lst ((lensI E).map W.int)]) = .ok (.int M) (st ++ [Cel.lst ((lensI E).map W.int)]) := by
        unfold oBestX; simp only [w1, theOne_is hM fun _ g => max_one hM g]
      rw [pat_is h1 h10 hm hM h1']
      simp only [x_ret, x_2, x_N, x_aCons, x_var, fg1, x_aNil, Out.bind_ok, w2, w3, Out.stm_ok, x_eqI]
    · refine mk_rt2 (ex := [.lst ws]) ?_ (fun _ _ => by simp only [fz0]) ho
      show B_are_patterns [some (.cell n), none, none, none] st = _
      refine head _ ?_
      have e' := lk _ _ rfl [] _ h2
      have e' : sLockN 0 (sFor (iItemsN 0) (gTl 2 (gsCons (gNm 2) (gsCons (gNm 3) (gsNil)))) (sSeq (sIf (bOr (bNot (bOf (eCall F_is_sign (aCons (eVar 2) (aNil))))) (bOr (bNot (bOf (eCall F_is_row (aCons (eVar 3) (aNil))))) (bNot (bOf (eChain oLe oLe (eC (.int 1)) (eN oLen (aCons (eVar 3) (aNil))) (eC (.int 6))))))) (sRet (eC (.bl false))) (sNil)) (sExp (eM isLst mAppend (eVar 1) (aCons (eN oLen (aCons (eVar 3) (aNil))) (aNil)))))) [some (.cell n), some (.cell st.length), none, none] (st ++ [Cel.lst []]) = .rt (.bl false) (st ++ [Cel.lst ws]) := by
        rw [e']
        unfold unlNS
        simp only
        rw [unlkE_at (hLn _), back]
      rw [pat_no h1', x_seq, e']
  · have pb : patB E = false := by
      unfold patB
      have : (decide (1 ≤ E.length) && decide (E.length ≤ 10)) = false := by
        rw [Bool.eq_false_iff]; intro z
        simp only [Bool.and_eq_true, decide_eq_true_eq] at z
        exact hb z
      rw [this]; rfl
    rw [pb]
    refine mk_rt (st1 := st) ?_ rfl
    show B_are_patterns [some (.cell n), none, none, none] st = _
    unfold B_are_patterns
    by_cases a : 1 ≤ E.length
    · have ai : (1 : Int) ≤ (E.length : Nat) := by omega
      have bi : ¬ ((E.length : Nat) : Int) ≤ 10 := by omega
      simp [isd, nl, ai, bi]
    · have ai : ¬ (1 : Int) ≤ (E.length : Nat) := by omega
      simp [isd, nl, ai]
end

end SL
namespace SL
open PySem PySem.Spec PyProof.Rows L2
/-! ## a Book -/
section
variable [HW] {st : Sto}
def bbEr (p : Str) : Exc := ⟨"BadBook", ["part"], [.str p]⟩
theorem vals_fz (n : Nat) (f : Nat → Option W) : ∀ l : List W, (∀ v ∈ l, vOk v) → fz0s n f l = some l
  | [], _ => rfl
  | v :: l, h => by rw [fz0s, (h v List.mem_cons_self).2 n f, vals_fz n f l fun u hu => h u (List.mem_cons_of_mem _ hu)]
theorem old_nE {E : Ents} {kk : List NestedKey} (K : EOk E kk) (n : Nat) : oldW n (nE E) = true := by
  show (fz0s n (fun _ => none) (E.map (·.2))).isSome = true
  rw [vals_fz n _ _ fun v hv => by obtain ⟨e, he, rfl⟩ := List.mem_map.mp hv; exact K.val e he]; rfl
abbrev Dn := List (Nat × List Int)
abbrev dE (d : Dn) : Ents := d.map fun p => (.str (sg p.1), bits p.2)
theorem ints_bits : ∀ {us : List W}, us.all (betw 0 1) = true → ∃ r : List Int, us = r.map W.int ∧ Bits r
  | [], _ => ⟨[], rfl, fun _ h => nomatch h⟩
  | u :: us, h => by
    rw [List.all_cons, Bool.and_eq_true] at h
    obtain ⟨r, rfl, hb⟩ := ints_bits h.2
    cases u with
    | int i =>
      have b := h.1
      rw [betw_int, Bool.and_eq_true, decide_eq_true_eq, decide_eq_true_eq] at b
      exact ⟨i :: r, rfl, fun n hn => by
        rcases List.mem_cons.mp hn with rfl | hn
        · omega
        · exact hb n hn⟩
    | _ => cases h.1
theorem row_bits {n : Nat} {k : W} (h : rowK n k = true) : ∃ r : List Int, k = bits r ∧ r.length = n ∧ Bits r := by
  unfold rowK at h
  rw [Bool.and_eq_true] at h
  cases k with
  | tup us =>
    obtain ⟨r, rfl, hb⟩ := ints_bits h.1
    refine ⟨r, rfl, ?_, hb⟩
    have := of_decide_eq_true h.2
    rw [← this]
    show r.length = (r.map W.int).length
    rw [List.length_map]
  | _ => cases h.1
theorem good_ents : ∀ {E : Ents} {w : Nat}, E.all (goodB w) = true → (∀ e ∈ E, kOk e.1) → ∃ d : Dn, E = dE d ∧ ∀ p ∈ d, okC p.1 ∧ p.2.length = w ∧ Bits p.2
  | [], _, _, _ => ⟨[], rfl, fun _ h => nomatch h⟩
  | e :: E, w, h, hv => by
    rw [List.all_cons, Bool.and_eq_true] at h
    obtain ⟨d, rfl, h1⟩ := good_ents h.2 fun x hx => hv x (List.mem_cons_of_mem _ hx)
    obtain ⟨k, v⟩ := e
    obtain ⟨a, b⟩ := Bool.and_eq_true_iff.mp h.1
    obtain ⟨c, hc, rfl⟩ := key_good (hv _ List.mem_cons_self) a
    obtain ⟨r, rfl, rl, rb⟩ := row_bits b
    exact ⟨(c, r) :: d, rfl, fun p hp => by
      rcases List.mem_cons.mp hp with rfl | hp
      · exact ⟨hc, rl, rb⟩
      · exact h1 p hp⟩
theorem dE_keys : ∀ d : Dn, mapO nkeyM ((dE d).map (·.1)) = some (d.map fun p => .text (sg p.1))
  | [] => rfl
  | p :: d => mapO_mk rfl (dE_keys d)
theorem dE_nd {d : Dn} {kk : List NestedKey} (K : EOk (dE d) kk) : (d.map (·.1)).Nodup := by
  have e := K.keys
  rw [dE_keys d] at e
  have e := Option.some.inj e
  have nd := K.nd
  rw [← e] at nd
  rw [show (d.map fun p : Nat × List Int => NestedKey.text (sg p.1)) = (d.map (·.1)).map fun c => NestedKey.text (sg c) by rw [List.map_map]; rfl] at nd
  have nd := List.nodup_iff_pairwise_ne.mp nd
  rw [List.pairwise_map] at nd
  exact List.nodup_iff_pairwise_ne.mpr (nd.imp fun h e => h (by rw [e]))
theorem nE_dE (d : Dn) : nE (dE d) = .nct false HW.w (sgW (d.map (·.1))) (bitsL (d.map (·.2))) := by
  unfold nE sgW bitsL dE
  rw [List.map_map, List.map_map, List.map_map, List.map_map]; rfl
theorem sortN_dE {d : Dn} {n : Nat} {cs : List Nat} (hn : st[n]? = some (nE (dE d))) (hs : sortS ((d.map (·.1)).map sg) = cs.map sg) (hl : d.length < 64) : oSortN HW.w [.cell n] st = .ok (.lst (sgW cs)) st := by
  unfold oSortN
  rw [nE_dE] at hn
  simp only [hn]
  rw [if_pos (dec_self True.intro)]
  simp only [keys_sg, txt_sg, hs]
  rw [if_pos (by rw [List.length_map, List.length_map]; exact hl)]
  unfold sgW
  rw [List.map_map]; rfl
/-- rows by their signs, in order -/
theorem rows_of : ∀ {cs : List Nat} {d : Dn}, (∀ c ∈ cs, c ∈ d.map (·.1)) → ∃ P : List (List Int), P.length = cs.length ∧ ∀ (i : Nat) c r, cs[i]? = some c → P[i]? = some r → (c, r) ∈ d
  | [], _, _ => ⟨[], rfl, fun i c r h => by simp at h⟩
  | c :: cs, d, h => by
    obtain ⟨P, h1, h2⟩ := rows_of (cs := cs) (d := d) fun x hx => h x (List.mem_cons_of_mem _ hx)
    obtain ⟨p, hp, e⟩ := List.mem_map.mp (h c List.mem_cons_self)
    refine ⟨p.2 :: P, by rw [List.length_cons, List.length_cons, h1], fun i a r ha hr => ?_⟩
    cases i with
    | zero =>
      rw [List.getElem?_cons_zero] at ha hr
      cases ha; cases hr
      rw [← e]; exact hp
    | succ i =>
      rw [List.getElem?_cons_succ] at ha hr
      exact h2 i a r ha hr
theorem perm_sub {α : Type} [DecidableEq α] : ∀ {l m : List α}, l.Nodup → (∀ x ∈ l, x ∈ m) → m.length ≤ l.length → l.Perm m
  | [], m, _, _, h => by rw [List.eq_nil_of_length_eq_zero (l := m) (by simpa using h)]
  | a :: l, m, nd, s, h => by
    obtain ⟨h1, h2⟩ := List.nodup_cons.mp nd
    have ha := s a List.mem_cons_self
    have ih := perm_sub (m := m.erase a) h2 (fun x hx => (List.mem_erase_of_ne (fun e : x = a => h1 (by rw [← e]; exact hx))).mpr (s x (List.mem_cons_of_mem _ hx))) (by
      rw [List.length_erase_of_mem ha]
      rw [List.length_cons] at h; omega)
    exact (ih.cons a).trans (List.perm_cons_erase ha).symm
/-- one and the same rows in another order -/
theorem rows_perm {cs : List Nat} {d : Dn} {P : List (List Int)} (nd : (d.map (·.1)).Nodup) (pm : cs.Perm (d.map (·.1))) (hl : P.length = cs.length) (h : ∀ (i : Nat) c r, cs[i]? = some c → P[i]? = some r → (c, r) ∈ d) : P.Perm (d.map (·.2)) := by
  have z : (cs.zip P).Perm d := by
    have sub : ∀ x ∈ cs.zip P, x ∈ d := fun x hx => by
      obtain ⟨i, hi⟩ := List.getElem?_of_mem hx
      rw [List.getElem?_zip_eq_some] at hi
      exact h i x.1 x.2 hi.1 hi.2
    have ndz : (cs.zip P).Nodup := by
      have e : (cs.zip P).map (·.1) = cs := by rw [List.map_fst_zip (by omega)]
      have nc : cs.Nodup := pm.nodup_iff.mpr nd
      rw [← e] at nc
      have nc := List.nodup_iff_pairwise_ne.mp nc
      rw [List.pairwise_map] at nc
      exact List.nodup_iff_pairwise_ne.mpr (nc.imp fun h e => h (by rw [e]))
    have len : (cs.zip P).length = d.length := by
      have := pm.length_eq
      rw [List.length_map] at this
      rw [List.length_zip]; omega
    exact perm_sub ndz sub (by omega)
  have := z.map (·.2)
  rw [List.map_snd_zip (by omega)] at this
  exact this
theorem once_le : ∀ l : List (List Int), (onceL l).length ≤ l.length
  | [] => Nat.le_refl _
  | a :: l => by
    have := once_le l
    unfold onceL
    split
    · rw [List.length_cons]; omega
    · rw [List.length_cons, List.length_cons]; omega
theorem once_lt : ∀ {l : List (List Int)}, ¬ l.Nodup → (onceL l).length < l.length
  | [], h => absurd List.nodup_nil h
  | a :: l, h => by
    have l1 := once_le l
    unfold onceL
    split
    · rw [List.length_cons]; omega
    · rename_i hm
      have hm : a ∉ l := fun z => hm (mem_once.mpr z)
      have : ¬ l.Nodup := fun z => h (List.nodup_cons.mpr ⟨hm, z⟩)
      have := once_lt this
      rw [List.length_cons, List.length_cons]; omega
abbrev inB : Cel := .ins "Book" [] []
abbrev fI (k n : Nat) (x1 x2 : W) : Fr := [some (.cell k), some (.cell n), some x1, some x2, none, none]
theorem init_pat {x0 x1 x2 : W} (h : F_are_patterns [x0] (st ++ [inB]) = .ok (.bl false) (st ++ [inB])) : F_Book___init__ [.cell st.length, x0, x1, x2] (st ++ [inB]) = .err (bbEr "patterns") (st ++ [inB]) := by
  have hm : B_Book___init__ [some (.cell st.length), some x0, some x1, some x2, none, none] (st ++ [inB]) = .er (bbEr "patterns") [some (.cell st.length), some x0, some x1, some x2, none, none] (st ++ [inB]) := by
    unfold B_Book___init__
    simp only [x_seq, x_if, x_bNot, x_bOf, x_call, x_aCons, x_aNil, x_var, x_c, fg1, Out.bind_ok, h, Bool.not_false, Out.stm_ok, if_true, sRaise]
    rfl
  show (match B_Book___init__ [some (.cell st.length), some x0, some x1, some x2, none, none] (st ++ [inB]) with | .nx _ st1 => Out.ok W.non st1 | .rt w st1 => .ok w st1 | .er x _ st1 => .err x st1 | _ => .bad) = _
  rw [hm]
theorem told_er {x0 x1 x2 : W} {p : Str} {ex : Sto} (hex : ex ≠ []) (ho : st.all (oldW st.length) = true) (h : F_Book___init__ [.cell st.length, x0, x1, x2] (st ++ [inB]) = .err (bbEr p) (st ++ ex)) : F_law_told [x0, x1, x2] st = .ok (.str p) st := by
  have mk : eMake "Book" F_Book___init__ (aCons (eVar 0) (aCons (eVar 1) (aCons (eVar 2) (aNil)))) [some x0, some x1, some x2, some (.str "made"), none] st = .err (bbEr p) st := by
    unfold eMake eMakeG
    simp only [x_aCons, x_var, fg0, fg1, fg2, x_aNil, Out.bind_ok]
    have h : F_Book___init__ (.cell st.length :: [x0, x1, x2]) (st ++ [.ins "Book" [] []]) = .err (bbEr p) (st ++ ex) := h
    rw [h]
    show leaveX st.length (bbEr p) (st ++ ex) = _
    unfold leaveX
    rw [if_neg (by rw [List.length_append]; have := List.length_pos_iff.mpr hex; omega)]
    have e : ∀ n f, fz0s n f (bbEr p).vs = some [.str p] := fun n f => rfl
    rw [e]
    simp only [List.take_left, ho, if_true]
    rfl
  refine mk_rt (st1 := st) ?_ rfl
  show B_law_told [some x0, some x1, some x2, none, none] st = _
  unfold B_law_told
  refine asg_to (w := .str "made") (st1 := st) rfl ?_
  simp only [fs3]
  have t : exT "BadBook" "BadBook" = some true := by decide +kernel
  have tr : (sTry exT (sExp (eMake "Book" F_Book___init__ (aCons (eVar 0) (aCons (eVar 1) (aCons (eVar 2) (aNil)))))) [⟨"BadBook", some 4, fun x => sAsg (eXf x "BadBook" "part") (gNm 3)⟩, ⟨"LabelError", none, fun x => sAsg (eC (.str "other")) (gNm 3)⟩]) [some x0, some x1, some x2, some (.str "made"), none] st = .nx [some x0, some x1, some x2, some (.str p), none] st := by
    unfold sTry
    have e : sExp (eMake "Book" F_Book___init__ (aCons (eVar 0) (aCons (eVar 1) (aCons (eVar 2) (aNil))))) [some x0, some x1, some x2, some (.str "made"), none] st = .er (bbEr p) [some x0, some x1, some x2, some (.str "made"), none] st := by
      unfold sExp; rw [mk]; rfl
    rw [e]
    simp [bbEr, hRun, t, slOk, clrF, SOut.clr, eXf, lkp]
  refine seq_to tr ?_
  simp only [x_ret, x_var, fg3, Out.stm_ok]
theorem told_nx {x0 x1 x2 u : W} (h : eMake "Book" F_Book___init__ (aCons (eVar 0) (aCons (eVar 1) (aCons (eVar 2) (aNil)))) [some x0, some x1, some x2, some (.str "made"), none] st = .ok u st) : F_law_told [x0, x1, x2] st = .ok (.str "made") st := by
  refine mk_rt (st1 := st) ?_ rfl
  show B_law_told [some x0, some x1, some x2, none, none] st = _
  unfold B_law_told
  refine asg_to (w := .str "made") (st1 := st) rfl ?_
  simp only [fs3]
  have tr : (sTry exT (sExp (eMake "Book" F_Book___init__ (aCons (eVar 0) (aCons (eVar 1) (aCons (eVar 2) (aNil)))))) [⟨"BadBook", some 4, fun x => sAsg (eXf x "BadBook" "part") (gNm 3)⟩, ⟨"LabelError", none, fun x => sAsg (eC (.str "other")) (gNm 3)⟩]) [some x0, some x1, some x2, some (.str "made"), none] st = .nx [some x0, some x1, some x2, some (.str "made"), none] st := by
    unfold sTry
    have e : sExp (eMake "Book" F_Book___init__ (aCons (eVar 0) (aCons (eVar 1) (aCons (eVar 2) (aNil))))) [some x0, some x1, some x2, some (.str "made"), none] st = .nx [some x0, some x1, some x2, some (.str "made"), none] st := by
      unfold sExp; rw [h]; rfl
    rw [e]
  refine seq_to tr ?_
  simp only [x_ret, x_var, fg3, Out.stm_ok]
end

end SL
namespace SL
open PySem PySem.Spec PyProof.Rows L2
/-! ## Book.__init__ over a good dict -/
section
variable [HW] {st : Sto}
theorem init_pre {d : Dn} {kk : List NestedKey} {n w : Nat} {cs : List Nat} {x1 x2 : W} (K : EOk (dE d) kk) (hn : st[n]? = some (nE (dE d))) (g : patB (dE d) = true) (hw : w = wid (dE d)) (hs : sortS ((d.map (·.1)).map sg) = cs.map sg) (pm : cs.Perm (d.map (·.1))) (hr : ∀ p ∈ d, p.2.length = w) (hl : d.length ≤ 10) (ho : st.all (oldW (st.length + 1)) = true) {o : SOut}
    (h : (sSeq (sIf (bNot (bOf (eCall F_is_row_of (aCons (eVar 2) (aCons (eFld ["Book"] "width" (eVar 0)) (aNil)))))) (sRaise "BadBook" ["part"] (aCons (eC (.str "start")) (aNil))) (sNil)) (sSeq (sIf (bNot (bOf (eCall F_is_row_of (aCons (eVar 3) (aCons (eFld ["Book"] "width" (eVar 0)) (aNil)))))) (sRaise "BadBook" ["part"] (aCons (eC (.str "stop")) (aNil))) (sNil)) (sSeq (sFldS ["Book"] "start" (eVar 2) (eVar 0)) (sSeq (sFldS ["Book"] "stop" (eVar 3) (eVar 0)) (sSeq (sFldS ["Book"] "_rows" (eDct0) (eVar 0)) (sSeq (sFor (iSeq (eFld ["Book"] "signs" (eVar 0))) (gNm 4) (sSub uDct (e2 (oNGet HW.w) (eVar 1) (eVar 4)) (eFld ["Book"] "_rows" (eVar 0)) (eVar 4))) (sSeq (sAsg (e2 oAdd (eListV (eFld ["Book"] "_rows" (eVar 0))) (eN oLst (aCons (eVar 2) (aCons (eVar 3) (aNil))))) (gNm 5)) (sIf (bOf (e2 oLt (eLenSet (eVar 5)) (eN oLen (aCons (eVar 5) (aNil))))) (sRaise "BadBook" ["part"] (aCons (eC (.str "same")) (aNil))) (sNil))))))))) (fI st.length n x1 x2) (st ++ [.ins "Book" ["signs", "width"] [.tup (sgW cs), .int (w : Int)]]) = o) : B_Book___init__ (fI st.length n x1 x2) (st ++ [inB]) = o := by
  have hnl : n < st.length := (List.getElem?_eq_some_iff.mp hn).1
  have hK : ∀ r : Sto, (st ++ r)[n]? = some (nE (dE d)) := fun r => by rw [List.getElem?_append_left hnl]; exact hn
  have A1 : F_are_patterns [.cell n] (st ++ [inB]) = .ok (.bl true) (st ++ [inB]) := by
    have := are_ok (st := st ++ [inB]) K (by rw [List.length_map]; omega) (hK _) (by rw [List.length_append, List.length_singleton, List.all_append, ho]; rfl)
    rw [g] at this
    exact this
  have hd1 : 1 ≤ d.length := by
    unfold patB at g
    simp only [Bool.and_eq_true, decide_eq_true_eq, List.length_map] at g
    exact g.1.1
  obtain ⟨c0, h0⟩ : ∃ c0, cs[0]? = some c0 := ⟨_, List.getElem?_eq_getElem (by have := pm.length_eq; rw [List.length_map] at this; omega)⟩
  obtain ⟨p0, hp0, ep⟩ := List.mem_map.mp (pm.mem_iff.mp (List.mem_of_getElem? h0))
  have g0 : ∀ r : Sto, oNGet HW.w (.cell n) (.str (sg c0)) (st ++ r) = .ok (bits p0.2) (st ++ r) := fun r => by
    have := nget_ok (st := st ++ r) K (.inl (hK r)) (e := (.str (sg p0.1), bits p0.2)) (List.mem_map.mpr ⟨p0, hp0, rfl⟩)
    rw [← ep]; exact this
  unfold B_Book___init__
  refine if_no (st1 := st ++ [inB]) (st2 := st ++ [inB]) (by simp [A1]) rfl ?_
  refine seq_to (fr1 := fI st.length n x1 x2) (st1 := st ++ [.ins "Book" ["signs"] [.tup (sgW cs)]]) ?_ ?_
  · rw [stF (S1 := st ++ [inB]) (w := .tup (sgW cs)) (m := st.length) (ns := []) (ws := []) (by simp only [x_N, x_aCons, x_var, fg1, x_aNil, Out.bind_ok, sortN_dE (hK _) hs (by omega), x_tuple_lst]) (by simp) at_end (by decide)]
    rw [set_end]; rfl
  refine seq_to (fr1 := fI st.length n x1 x2) (st1 := st ++ [.ins "Book" ["signs", "width"] [.tup (sgW cs), .int (w : Int)]]) ?_ h
  have f1 := fldC (S := st ++ [.ins "Book" ["signs"] [.tup (sgW cs)]]) (m := st.length) (x := "signs") (u := .tup (sgW cs)) (f := eVar 0) (fr := fI st.length n x1 x2) (by simp) at_end rfl
  have i1 : oIx (.tup (sgW cs)) (.int 0) (st ++ [.ins "Book" ["signs"] [.tup (sgW cs)]]) = .ok (.str (sg c0)) (st ++ [.ins "Book" ["signs"] [.tup (sgW cs)]]) := x_ixT (by decide) (sgW_at h0)
  have q3 : oLen [bits p0.2] (st ++ [.ins "Book" ["signs"] [.tup (sgW cs)]]) = .ok (.int (w : Int)) (st ++ [.ins "Book" ["signs"] [.tup (sgW cs)]]) := by unfold bits; rw [x_len_tup, List.length_map, hr p0 hp0]
  rw [stF (S1 := st ++ [.ins "Book" ["signs"] [.tup (sgW cs)]]) (w := .int (w : Int)) (m := st.length) (ns := ["signs"]) (ws := [.tup (sgW cs)]) (by simp only [x_N, x_aCons, x_2, x_var, fg1, f1, x_c, x_aNil, Out.bind_ok, i1, g0, q3]) (by simp) at_end (by decide)]
  rw [set_end]; rfl
abbrev outI : SOut → Out W
  | .nx _ st1 => .ok .non st1
  | .rt w st1 => .ok w st1
  | .er x _ st1 => .err x st1
  | _ => .bad
theorem mkI {x0 x1 x2 : W} {k : Nat} {S : Sto} {o : SOut} (h : B_Book___init__ [some (.cell k), some x0, some x1, some x2, none, none] S = o) : F_Book___init__ [.cell k, x0, x1, x2] S = outI o := by
  subst h; rfl
abbrev wI (cs : List Nat) (w : Nat) : Cel := .ins "Book" ["signs", "width"] [.tup (sgW cs), .int (w : Int)]
theorem init_s {n w k : Nat} {cs : List Nat} {x1 x2 : W} (hk : k = st.length) (h1 : okRow x1 = true) (hb : rowK w x1 = false) : (sSeq (sIf (bNot (bOf (eCall F_is_row_of (aCons (eVar 2) (aCons (eFld ["Book"] "width" (eVar 0)) (aNil)))))) (sRaise "BadBook" ["part"] (aCons (eC (.str "start")) (aNil))) (sNil)) (sSeq (sIf (bNot (bOf (eCall F_is_row_of (aCons (eVar 3) (aCons (eFld ["Book"] "width" (eVar 0)) (aNil)))))) (sRaise "BadBook" ["part"] (aCons (eC (.str "stop")) (aNil))) (sNil)) (sSeq (sFldS ["Book"] "start" (eVar 2) (eVar 0)) (sSeq (sFldS ["Book"] "stop" (eVar 3) (eVar 0)) (sSeq (sFldS ["Book"] "_rows" (eDct0) (eVar 0)) (sSeq (sFor (iSeq (eFld ["Book"] "signs" (eVar 0))) (gNm 4) (sSub uDct (e2 (oNGet HW.w) (eVar 1) (eVar 4)) (eFld ["Book"] "_rows" (eVar 0)) (eVar 4))) (sSeq (sAsg (e2 oAdd (eListV (eFld ["Book"] "_rows" (eVar 0))) (eN oLst (aCons (eVar 2) (aCons (eVar 3) (aNil))))) (gNm 5)) (sIf (bOf (e2 oLt (eLenSet (eVar 5)) (eN oLen (aCons (eVar 5) (aNil))))) (sRaise "BadBook" ["part"] (aCons (eC (.str "same")) (aNil))) (sNil))))))))) (fI k n x1 x2) (st ++ [wI cs w]) = .er (bbEr "start") (fI k n x1 x2) (st ++ [wI cs w]) := by
  subst hk
  have f2 := fldC (S := st ++ [wI cs w]) (m := st.length) (x := "width") (u := .int (w : Int)) (f := eVar 0) (fr := fI st.length n x1 x2) (by simp) at_end rfl
  have r := rowof_ok (st := st ++ [wI cs w]) (n := w) h1
  rw [hb] at r
  simp only [x_seq, x_if, x_bNot, x_bOf, x_call, x_aCons, x_aNil, x_var, x_c, fg2, f2, Out.bind_ok, r, Bool.not_false, Out.stm_ok, if_true, sRaise]
  rfl
theorem init_t {n w k : Nat} {cs : List Nat} {x1 x2 : W} (hk : k = st.length) (h1 : okRow x1 = true) (hb : rowK w x1 = true) (h2 : okRow x2 = true) (hc : rowK w x2 = false) : (sSeq (sIf (bNot (bOf (eCall F_is_row_of (aCons (eVar 2) (aCons (eFld ["Book"] "width" (eVar 0)) (aNil)))))) (sRaise "BadBook" ["part"] (aCons (eC (.str "start")) (aNil))) (sNil)) (sSeq (sIf (bNot (bOf (eCall F_is_row_of (aCons (eVar 3) (aCons (eFld ["Book"] "width" (eVar 0)) (aNil)))))) (sRaise "BadBook" ["part"] (aCons (eC (.str "stop")) (aNil))) (sNil)) (sSeq (sFldS ["Book"] "start" (eVar 2) (eVar 0)) (sSeq (sFldS ["Book"] "stop" (eVar 3) (eVar 0)) (sSeq (sFldS ["Book"] "_rows" (eDct0) (eVar 0)) (sSeq (sFor (iSeq (eFld ["Book"] "signs" (eVar 0))) (gNm 4) (sSub uDct (e2 (oNGet HW.w) (eVar 1) (eVar 4)) (eFld ["Book"] "_rows" (eVar 0)) (eVar 4))) (sSeq (sAsg (e2 oAdd (eListV (eFld ["Book"] "_rows" (eVar 0))) (eN oLst (aCons (eVar 2) (aCons (eVar 3) (aNil))))) (gNm 5)) (sIf (bOf (e2 oLt (eLenSet (eVar 5)) (eN oLen (aCons (eVar 5) (aNil))))) (sRaise "BadBook" ["part"] (aCons (eC (.str "same")) (aNil))) (sNil))))))))) (fI k n x1 x2) (st ++ [wI cs w]) = .er (bbEr "stop") (fI k n x1 x2) (st ++ [wI cs w]) := by
  subst hk
  have f2 := fldC (S := st ++ [wI cs w]) (m := st.length) (x := "width") (u := .int (w : Int)) (f := eVar 0) (fr := fI st.length n x1 x2) (by simp) at_end rfl
  have r := rowof_ok (st := st ++ [wI cs w]) (n := w) h1
  have r2 := rowof_ok (st := st ++ [wI cs w]) (n := w) h2
  rw [hb] at r
  rw [hc] at r2
  refine if_no (st1 := st ++ [wI cs w]) (st2 := st ++ [wI cs w]) (by simp only [x_bNot, x_bOf, x_call, x_aCons, x_var, fg2, f2, x_aNil, Out.bind_ok, r]; rfl) rfl ?_
  simp only [x_seq, x_if, x_bNot, x_bOf, x_call, x_aCons, x_aNil, x_var, x_c, fg3, f2, Out.bind_ok, r2, Bool.not_false, Out.stm_ok, if_true, sRaise]
  rfl
abbrev jI (cs : List Nat) (w : Nat) (s t : List Int) (k : Nat) : Cel := .ins "Book" bkNs [.tup (sgW cs), .int (w : Int), bits s, bits t, .cell (k + 1)]
/-- the last part: made, or two rows alike -/
theorem init_e {d : Dn} {kk : List NestedKey} {n w k : Nat} {cs : List Nat} {P : List (List Int)} {s t : List Int} (hk : k = st.length) (K : EOk (dE d) kk) (hn : st[n]? = some (nE (dE d))) (nd : cs.Nodup) (cl : cs.length ≤ 10) (pl : P.length = cs.length) (hP : ∀ (i : Nat) c r, cs[i]? = some c → P[i]? = some r → (c, r) ∈ d) (hs : rowK w (bits s) = true) (ht : rowK w (bits t) = true) :
    ∃ fr, (sSeq (sIf (bNot (bOf (eCall F_is_row_of (aCons (eVar 2) (aCons (eFld ["Book"] "width" (eVar 0)) (aNil)))))) (sRaise "BadBook" ["part"] (aCons (eC (.str "start")) (aNil))) (sNil)) (sSeq (sIf (bNot (bOf (eCall F_is_row_of (aCons (eVar 3) (aCons (eFld ["Book"] "width" (eVar 0)) (aNil)))))) (sRaise "BadBook" ["part"] (aCons (eC (.str "stop")) (aNil))) (sNil)) (sSeq (sFldS ["Book"] "start" (eVar 2) (eVar 0)) (sSeq (sFldS ["Book"] "stop" (eVar 3) (eVar 0)) (sSeq (sFldS ["Book"] "_rows" (eDct0) (eVar 0)) (sSeq (sFor (iSeq (eFld ["Book"] "signs" (eVar 0))) (gNm 4) (sSub uDct (e2 (oNGet HW.w) (eVar 1) (eVar 4)) (eFld ["Book"] "_rows" (eVar 0)) (eVar 4))) (sSeq (sAsg (e2 oAdd (eListV (eFld ["Book"] "_rows" (eVar 0))) (eN oLst (aCons (eVar 2) (aCons (eVar 3) (aNil))))) (gNm 5)) (sIf (bOf (e2 oLt (eLenSet (eVar 5)) (eN oLen (aCons (eVar 5) (aNil))))) (sRaise "BadBook" ["part"] (aCons (eC (.str "same")) (aNil))) (sNil))))))))) (fI k n (bits s) (bits t)) (st ++ [wI cs w]) = if (P ++ [s, t]).Nodup then .nx fr (st ++ [jI cs w s t k, .dct (sgW cs) (bitsL P)]) else .er (bbEr "same") fr (st ++ [jI cs w s t k, .dct (sgW cs) (bitsL P)]) := by
  subst hk
  have hnl : n < st.length := (List.getElem?_eq_some_iff.mp hn).1
  have hK : ∀ r : Sto, (st ++ r)[n]? = some (nE (dE d)) := fun r => by rw [List.getElem?_append_left hnl]; exact hn
  obtain ⟨J, hJ⟩ : ∃ J : Cel, J = jI cs w s t st.length := ⟨_, rfl⟩
  rw [← hJ]
  have fS : ∀ (r : Cel) (fr : Fr), fr[0]? = some (some (.cell st.length)) → eFld ["Book"] "signs" (eVar 0) fr (st ++ [J, r]) = .ok (.tup (sgW cs)) (st ++ [J, r]) := fun r fr h => fldC (m := st.length) (by simp [h]) (by rw [hJ]; exact at_end) rfl
  have fR : ∀ (r : Cel) (fr : Fr), fr[0]? = some (some (.cell st.length)) → eFld ["Book"] "_rows" (eVar 0) fr (st ++ [J, r]) = .ok (.cell (st.length + 1)) (st ++ [J, r]) := fun r fr h => fldC (m := st.length) (by simp [h]) (by rw [hJ]; exact at_end) rfl
  have f2 := fldC (S := st ++ [wI cs w]) (m := st.length) (x := "width") (u := .int (w : Int)) (f := eVar 0) (fr := fI st.length n (bits s) (bits t)) (by simp) at_end rfl
  have r1 := rowof_ok (st := st ++ [wI cs w]) (n := w) (bits_ok s)
  have r2 := rowof_ok (st := st ++ [wI cs w]) (n := w) (bits_ok t)
  rw [hs] at r1
  rw [ht] at r2
  obtain ⟨fr', st', e1', u, efr, est⟩ := x_for (f := (iSeq (eFld ["Book"] "signs" (eVar 0)))) (g := (gNm 4)) (b := sSub uDct (e2 (oNGet HW.w) (eVar 1) (eVar 4)) (eFld ["Book"] "_rows" (eVar 0)) (eVar 4))
    (fr := fI st.length n (bits s) (bits t)) (st := st ++ [J, .dct [] []]) (st1 := st ++ [J, .dct [] []]) (x := .tup (sgW cs)) (all := sgW cs)
    (by simp [fS])
    (fun i fr S => ∃ u, fr = [some (.cell st.length), some (.cell n), some (bits s), some (bits t), u, none] ∧ S = st ++ [J, .dct (sgW (cs.take i)) (bitsL (P.take i))]) ⟨none, rfl, rfl⟩ (fun _ _ _ _ => trivial) (by
      rintro i fr S x ⟨u, rfl, rfl⟩ hi
      unfold sgW at hi
      rw [List.getElem?_map] at hi
      obtain ⟨c, hc, rfl⟩ := Option.map_eq_some_iff.mp hi
      have hil : i < cs.length := (List.getElem?_eq_some_iff.mp hc).1
      have hiP : i < P.length := by omega
      have hPi : P[i]? = some P[i] := List.getElem?_eq_getElem hiP
      have mem := hP i c P[i] hc hPi
      refine ⟨[some (.cell st.length), some (.cell n), some (bits s), some (bits t), some (.str (sg c)), none], [some (.cell st.length), some (.cell n), some (bits s), some (bits t), some (.str (sg c)), none], st ++ [J, .dct (sgW (cs.take (i + 1))) (bitsL (P.take (i + 1)))], rfl, .inl ?_, some (.str (sg c)), rfl, rfl⟩
      have p1 := put_new (S := st ++ [J, .dct (sgW (cs.take i)) (bitsL (P.take i))]) (m := st.length + 1) (r := P[i]) at_end1 (take_not nd hc) (by rw [List.length_take]; unfold LINE; omega)
      rw [set_end1, ← take_next hc, ← take_next hPi] at p1
      have d1 := nget_ok (st := st ++ [J, .dct (sgW (cs.take i)) (bitsL (P.take i))]) K (.inl (hK _)) (e := (.str (sg c), bits P[i])) (List.mem_map.mpr ⟨_, mem, rfl⟩)
      have d1 : oNGet HW.w (.cell n) (.str (sg c)) (st ++ [J, .dct (sgW (cs.take i)) (bitsL (P.take i))]) = .ok (bits P[i]) (st ++ [J, .dct (sgW (cs.take i)) (bitsL (P.take i))]) := d1
      unfold sSub
      simp only [x_2, x_var, fg1, fg4, Out.bind_ok, d1, Out.stm_ok, fR _ _ (show ([some (.cell st.length), some (.cell n), some (bits s), some (bits t), some (.str (sg c)), none] : Fr)[0]? = _ from rfl), p1])
  rw [efr, est, sgW_len, List.take_length, show P.take cs.length = P by rw [← pl, List.take_length]] at e1'
  refine ⟨[some (.cell st.length), some (.cell n), some (bits s), some (bits t), u, some (.lst (bitsL (P ++ [s, t])))], ?_⟩
  refine if_no (st1 := st ++ [wI cs w]) (st2 := st ++ [wI cs w]) (by simp only [x_bNot, x_bOf, x_call, x_aCons, x_var, fg2, f2, x_aNil, Out.bind_ok, r1]; rfl) rfl ?_
  refine if_no (st1 := st ++ [wI cs w]) (st2 := st ++ [wI cs w]) (by simp only [x_bNot, x_bOf, x_call, x_aCons, x_var, fg3, f2, x_aNil, Out.bind_ok, r2]; rfl) rfl ?_
  refine seq_to (fr1 := fI st.length n (bits s) (bits t)) (st1 := st ++ [.ins "Book" ["signs", "width", "start"] [.tup (sgW cs), .int (w : Int), bits s]]) ?_ ?_
  · rw [stF (S1 := st ++ [wI cs w]) (w := bits s) (m := st.length) (ns := ["signs", "width"]) (ws := [.tup (sgW cs), .int (w : Int)]) (by simp) (by simp) at_end (by decide)]
    rw [set_end]; rfl
  refine seq_to (fr1 := fI st.length n (bits s) (bits t)) (st1 := st ++ [.ins "Book" ["signs", "width", "start", "stop"] [.tup (sgW cs), .int (w : Int), bits s, bits t]]) ?_ ?_
  · rw [stF (S1 := st ++ [.ins "Book" ["signs", "width", "start"] [.tup (sgW cs), .int (w : Int), bits s]]) (w := bits t) (m := st.length) (ns := ["signs", "width", "start"]) (ws := [.tup (sgW cs), .int (w : Int), bits s]) (by simp) (by simp) at_end (by decide)]
    rw [set_end]; rfl
  refine seq_to (fr1 := fI st.length n (bits s) (bits t)) (st1 := st ++ [J, .dct [] []]) ?_ ?_
  · rw [stF (S1 := st ++ [.ins "Book" ["signs", "width", "start", "stop"] [.tup (sgW cs), .int (w : Int), bits s, bits t], .dct [] []]) (w := .cell (st.length + 1)) (m := st.length) (ns := ["signs", "width", "start", "stop"]) (ws := [.tup (sgW cs), .int (w : Int), bits s, bits t]) (by unfold eDct0; rw [List.length_append, List.append_assoc]; rfl) (by simp) at_end (by decide)]
    rw [set_end, hJ]; rfl
  refine seq_to e1' ?_
  have v1 : eListV (eFld ["Book"] "_rows" (eVar 0)) [some (.cell st.length), some (.cell n), some (bits s), some (bits t), u, none] (st ++ [J, .dct (sgW cs) (bitsL P)]) = .ok (.lst (bitsL P)) (st ++ [J, .dct (sgW cs) (bitsL P)]) := by
    unfold eListV
    simp only [fR _ _ (show ([some (.cell st.length), some (.cell n), some (bits s), some (bits t), u, none] : Fr)[0]? = _ from rfl), Out.bind_ok, dctKs_cell at_end1, keys_sg]
  have a1 : oAdd (.lst (bitsL P)) (.lst [bits s, bits t]) (st ++ [J, .dct (sgW cs) (bitsL P)]) = .ok (.lst (bitsL (P ++ [s, t]))) (st ++ [J, .dct (sgW cs) (bitsL P)]) := by
    show (if (bitsL P).length + 2 ≤ LINE then _ else _) = _
    rw [if_pos (by rw [bitsL_len, pl]; unfold LINE; omega)]
    unfold bitsL; rw [List.map_append]; rfl
  refine asg_to (w := .lst (bitsL (P ++ [s, t]))) (st1 := st ++ [J, .dct (sgW cs) (bitsL P)]) ?_ ?_
  · simp only [x_2, v1, Out.bind_ok, x_N, x_aCons, x_var, fg2, fg3, x_aNil, x_lst (ws := [bits s, bits t]) (by simp), a1]
  simp only [fs5]
  have pt : (P ++ [s, t]).length = cs.length + 2 := by rw [List.length_append, pl]; rfl
  have l1 : eLenSet (eVar 5) [some (.cell st.length), some (.cell n), some (bits s), some (bits t), u, some (.lst (bitsL (P ++ [s, t])))] (st ++ [J, .dct (sgW cs) (bitsL P)]) = .ok (.int (onceL (P ++ [s, t])).length) (st ++ [J, .dct (sgW cs) (bitsL P)]) := by
    unfold eLenSet
    simp only [x_var, fg5, Out.bind_ok, x_lst_lst, Option.bind_some, tups_bits]
    rw [if_pos (dec_mk (by omega))]
  have l2 : oLen [.lst (bitsL (P ++ [s, t]))] (st ++ [J, .dct (sgW cs) (bitsL P)]) = .ok (.int (P ++ [s, t]).length) (st ++ [J, .dct (sgW cs) (bitsL P)]) := by rw [x_len_lst, bitsL_len]
  by_cases hnd : (P ++ [s, t]).Nodup
  · rw [if_pos hnd]
    rw [once_nodup hnd] at l1
    simp only [x_if, x_bOf, x_2, l1, x_N, x_aCons, x_var, fg5, x_aNil, Out.bind_ok, l2, x_lt, Int.lt_irrefl, decide_false, Out.stm_ok, Bool.false_eq_true, if_false]
    rfl
  · rw [if_neg hnd]
    have lt := once_lt hnd
    have lti : (((onceL (P ++ [s, t])).length : Nat) : Int) < (((P ++ [s, t]).length : Nat) : Int) := by omega
    simp only [x_if, x_bOf, x_2, l1, x_N, x_aCons, x_var, fg5, x_aNil, Out.bind_ok, l2, x_lt, lti, decide_true, Out.stm_ok, if_true, sRaise, x_c]
    rfl
open Classical in
/-- what is told of any things -/
noncomputable def verd (E : Ents) (x1 x2 : W) : Str := if patB E = true then (if rowK (wid E) x1 = true then (if rowK (wid E) x2 = true then (if (E.map (·.2) ++ [x1, x2]).Nodup then "made" else "same") else "stop") else "start") else "patterns"
theorem bits_inj {a b : List Int} (h : bits a = bits b) : a = b := by
  unfold bits at h
  injection h with h
  have : ∀ {a b : List Int}, a.map W.int = b.map W.int → a = b := by
    intro a
    induction a with
    | nil => intro b h; cases b with
      | nil => rfl
      | cons _ _ => cases h
    | cons x a ih => intro b h; cases b with
      | nil => cases h
      | cons y b => rw [List.map_cons, List.map_cons] at h; injection h with h1 h2; injection h1 with h1; rw [h1, ih h2]
  exact this h
theorem nodup_bits {L : List (List Int)} : (L.map bits).Nodup ↔ L.Nodup := by
  rw [List.nodup_iff_pairwise_ne, List.pairwise_map, List.nodup_iff_pairwise_ne]
  exact ⟨fun h => h.imp fun a e => a (by rw [e]), fun h => h.imp fun a e => a (bits_inj e)⟩
theorem told_ok {E : Ents} {kk : List NestedKey} (K : EOk E kk) (hl : E.length ≤ 100) {n : Nat} {x1 x2 : W} (hn : st[n]? = some (nE E)) (h1 : okRow x1 = true) (h2 : okRow x2 = true) (ho : ∀ m, st.length ≤ m → st.all (oldW m) = true) : F_law_told [.cell n, x1, x2] st = .ok (.str (verd E x1 x2)) st := by
  have hnl : n < st.length := (List.getElem?_eq_some_iff.mp hn).1
  have o0 := ho st.length (Nat.le_refl _)
  have o1 := ho (st.length + 1) (Nat.le_succ _)
  unfold verd
  cases g : patB E with
  | false =>
    rw [if_neg (by decide)]
    have A1 := are_ok (st := st ++ [inB]) K hl (n := n) (by rw [List.getElem?_append_left hnl]; exact hn) (by rw [List.length_append, List.length_singleton, List.all_append, o1]; rfl)
    rw [g] at A1
    exact told_er (by simp) o0 (init_pat A1)
  | true =>
    rw [if_pos rfl]
    have g' := g
    unfold patB at g'
    simp only [Bool.and_eq_true, decide_eq_true_eq] at g'
    obtain ⟨⟨e1', e10⟩, ⟨w1, w6⟩, gg⟩ := g'
    obtain ⟨w, hw⟩ : ∃ w, w = wid E := ⟨_, rfl⟩
    rw [← hw] at gg w1 w6 ⊢
    obtain ⟨d, rfl, hd⟩ := good_ents gg K.row
    have dl : d.length ≤ 10 := by rw [List.length_map] at e10; exact e10
    have nd := dE_nd K
    obtain ⟨cs, hs, pm, asc⟩ := sorted_sgs nd
    have cl : cs.length ≤ 10 := by have := pm.length_eq; rw [List.length_map] at this; omega
    have ndc : cs.Nodup := asc_nodup asc
    have pre : ∀ o, (sSeq (sIf (bNot (bOf (eCall F_is_row_of (aCons (eVar 2) (aCons (eFld ["Book"] "width" (eVar 0)) (aNil)))))) (sRaise "BadBook" ["part"] (aCons (eC (.str "start")) (aNil))) (sNil)) (sSeq (sIf (bNot (bOf (eCall F_is_row_of (aCons (eVar 3) (aCons (eFld ["Book"] "width" (eVar 0)) (aNil)))))) (sRaise "BadBook" ["part"] (aCons (eC (.str "stop")) (aNil))) (sNil)) (sSeq (sFldS ["Book"] "start" (eVar 2) (eVar 0)) (sSeq (sFldS ["Book"] "stop" (eVar 3) (eVar 0)) (sSeq (sFldS ["Book"] "_rows" (eDct0) (eVar 0)) (sSeq (sFor (iSeq (eFld ["Book"] "signs" (eVar 0))) (gNm 4) (sSub uDct (e2 (oNGet HW.w) (eVar 1) (eVar 4)) (eFld ["Book"] "_rows" (eVar 0)) (eVar 4))) (sSeq (sAsg (e2 oAdd (eListV (eFld ["Book"] "_rows" (eVar 0))) (eN oLst (aCons (eVar 2) (aCons (eVar 3) (aNil))))) (gNm 5)) (sIf (bOf (e2 oLt (eLenSet (eVar 5)) (eN oLen (aCons (eVar 5) (aNil))))) (sRaise "BadBook" ["part"] (aCons (eC (.str "same")) (aNil))) (sNil))))))))) (fI st.length n x1 x2) (st ++ [wI cs w]) = o → B_Book___init__ (fI st.length n x1 x2) (st ++ [inB]) = o := fun o h => init_pre K hn g hw hs pm (fun p hp => (hd p hp).2.1) dl o1 h
    cases hb : rowK w x1 with
    | false =>
      rw [if_neg (by decide)]
      exact told_er (by simp) o0 (mkI (pre _ (init_s rfl h1 hb)))
    | true =>
      rw [if_pos rfl]
      cases hc : rowK w x2 with
      | false =>
        rw [if_neg (by decide)]
        exact told_er (by simp) o0 (mkI (pre _ (init_t rfl h1 hb h2 hc)))
      | true =>
        rw [if_pos rfl]
        obtain ⟨s, rfl, sl, sb⟩ := row_bits hb
        obtain ⟨t, rfl, tl, tb⟩ := row_bits hc
        obtain ⟨P, pl, hP⟩ := rows_of (cs := cs) (d := d) fun c hc => pm.mem_iff.mp hc
        have pp := rows_perm nd pm pl hP
        have ndE : ((dE d).map (·.2) ++ [bits s, bits t]).Nodup ↔ (P ++ [s, t]).Nodup := by
          rw [(pp.append_right [s, t]).nodup_iff, ← nodup_bits, List.map_append, List.map_map, List.map_map]
          rfl
        obtain ⟨fr, ie⟩ := init_e (st := st) (s := s) (t := t) rfl K hn ndc cl pl hP hb hc
        by_cases hnd : (P ++ [s, t]).Nodup
        · rw [if_pos (ndE.mpr hnd)]
          rw [if_pos hnd] at ie
          have hi := mkI (pre _ ie)
          refine told_nx (u := bk cs w P s t) ?_
          unfold eMake eMakeG
          simp only [x_aCons, x_var, fg0, fg1, fg2, x_aNil, Out.bind_ok]
          have hi : F_Book___init__ (.cell st.length :: [.cell n, bits s, bits t]) (st ++ [.ins "Book" [] []]) = .ok .non (st ++ [jI cs w s t st.length, .dct (sgW cs) (bitsL P)]) := hi
          rw [hi]
          obtain ⟨J, hJ⟩ : ∃ J : Cel, J = jI cs w s t st.length := ⟨_, rfl⟩
          rw [← hJ]
          show leave st.length (.cell st.length) (st ++ [J, .dct (sgW cs) (bitsL P)]) = _
          unfold leave
          rw [if_neg (by simp)]
          have e : fz0 st.length (fzc st.length (st ++ [J, .dct (sgW cs) (bitsL P)]) ((st ++ [J, .dct (sgW cs) (bitsL P)]).length + 1)) (.cell st.length) = some (bk cs w P s t) := by
            have hl : (st ++ [J, Cel.dct (sgW cs) (bitsL P)]).length = st.length + 2 := by rw [List.length_append]; rfl
            rw [hl]
            unfold fz0
            rw [if_neg (Nat.lt_irrefl _)]
            have c1 : ∀ m, fzc st.length (st ++ [J, .dct (sgW cs) (bitsL P)]) (m + 1) (st.length + 1) = some (.dct (sgW cs) (bitsL P)) := fun m => by
              unfold fzc; simp only [at_end1, fz_bitsL]; rfl
            rw [show st.length + 2 + 1 = (st.length + 1 + 1) + 1 by omega]
            unfold fzc
            simp only [at_end, hJ]
            rw [hJ] at c1
            have c2 := c1 st.length
            simp only [fz0s, fz0, fz_sgW, fz_bits, if_neg (show ¬ st.length + 1 < st.length by omega), c1]
            rfl
          rw [e]
          simp only [List.take_left, o0, if_true]
        · rw [if_neg (fun z => hnd (ndE.mp z))]
          rw [if_neg hnd] at ie
          exact told_er (by simp) o0 (mkI (pre _ ie))
theorem told_other {x0 x1 x2 : W} (h0 : ∀ S, oIsiN [x0, .ty "dict"] S = .ok (.bl false) S) (ho : st.all (oldW st.length) = true) : F_law_told [x0, x1, x2] st = .ok (.str "patterns") st :=
  told_er (by simp) ho (init_pat (are_other (h0 _)))
end

end SL
namespace SL
open PySem PySem.Spec PyProof.Rows L2
/-! ## what is due -/
section
variable [HW] {st : Sto}
theorem pd_tl : ∀ R : List (List Int), pdWs (bitsL R) = some (R.map fun r => .tuple (r.map .int))
  | [] => rfl
  | r :: R => by
    have ih := pd_tl R
    unfold bitsL at ih ⊢
    rw [List.map_cons, pdWs, ih]
    show (match pdW (bits r), some (R.map fun r => PyData.tuple (r.map .int)) with | some x, some xs => some (x :: xs) | _, _ => none) = _
    have : pdW (bits r) = some (.tuple (r.map .int)) := by
      show (pdWs (r.map W.int)).map PyData.tuple = _
      rw [pd_ints]; rfl
    rw [this]; rfl
theorem lay_tl : ∀ R : List (List Int), PyData.canLayAll0 (R.map fun r => .tuple (r.map .int)) = true
  | [] => rfl
  | r :: R => by
    show (PyData.canLay0 (.tuple (r.map .int)) && PyData.canLayAll0 (R.map fun r => .tuple (r.map .int))) = true
    rw [lay_tl R]
    have : PyData.canLay0 (.tuple (r.map .int)) = true := by simp only [PyData.canLay0]; exact lay_ints r
    rw [this]; rfl
theorem dep_tl : ∀ R : List (List Int), PyData.depthAll (R.map fun r => .tuple (r.map .int)) ≤ 1
  | [] => Nat.zero_le _
  | r :: R => by
    show max (PyData.depth (.tuple (r.map .int))) (PyData.depthAll (R.map fun r => .tuple (r.map .int))) ≤ 1
    have e2' : PyData.depth (.tuple (r.map .int)) = 1 := by simp only [PyData.depth, depth_ints]
    rw [e2']
    have := dep_tl R
    omega
theorem sh_tup (c : List Int) : SeqAt.shaped (.tuple (c.map .int)) = true := by
  unfold SeqAt.shaped
  have e1' : PyData.canLay0 (.tuple (c.map .int)) = true := by
    simp only [PyData.canLay0]; exact lay_ints c
  have e2' : PyData.depth (.tuple (c.map .int)) = 1 := by
    simp only [PyData.depth, depth_ints]
  rw [e1', e2']; rfl
theorem sh_tl (R : List (List Int)) : SeqAt.shaped (.list (R.map fun r => .tuple (r.map .int))) = true := by
  unfold SeqAt.shaped
  have e1' : PyData.canLay0 (.list (R.map fun r => .tuple (r.map .int))) = true := by
    simp only [PyData.canLay0]; exact lay_tl R
  have d := dep_tl R
  have e2' : PyData.depth (.list (R.map fun r => .tuple (r.map .int))) = PyData.depthAll (R.map fun r => .tuple (r.map .int)) + 1 := by
    simp only [PyData.depth]
  rw [e1', e2']
  rcases Nat.lt_or_ge (PyData.depthAll (R.map fun r => PyData.tuple (r.map .int))) 1 with q | q
  · rw [show PyData.depthAll (R.map fun r => PyData.tuple (r.map .int)) = 0 by omega]; rfl
  · rw [show PyData.depthAll (R.map fun r => PyData.tuple (r.map .int)) = 1 by omega]; rfl
theorem in_bits {r : List Int} {R : List (List Int)} : oIn (bits r) (.lst (bitsL R)) st = .ok (.bl (decide (r ∈ R))) st := by
  have p : pdT st (bits r) = some (.tuple (r.map .int)) := by
    show (pdWs (r.map W.int)).map PyData.tuple = _
    rw [pd_ints]; rfl
  have p2 : pdT st (.lst (bitsL R)) = some (.list (R.map fun r => .tuple (r.map .int))) := by
    show (pdWs (bitsL R)).map PyData.list = _
    rw [pd_tl]; rfl
  have a : (R.map fun r => PyData.tuple (r.map .int)).any (fun z => PyData.eqv z (.tuple (r.map .int))) = decide (r ∈ R) := by
    rw [List.any_map, Bool.eq_iff_iff, List.any_eq_true, decide_eq_true_eq]
    constructor
    · rintro ⟨x, hx, h⟩
      have h : PyData.eqv (.tuple (x.map .int)) (.tuple (r.map .int)) = true := h
      have q : PyData.eqv (.tuple (x.map .int)) (.tuple (r.map .int)) = decide (x = r) := eqv_ints x r
      rw [q] at h
      rw [← of_decide_eq_true h]; exact hx
    · intro h
      exact ⟨r, h, show PyData.eqv (.tuple (r.map .int)) (.tuple (r.map .int)) = true from by
        have q : PyData.eqv (.tuple (r.map .int)) (.tuple (r.map .int)) = decide (r = r) := eqv_ints r r
        rw [q]; simp⟩
  have e : inW st (bits r) (.lst (bitsL R)) = some (decide (r ∈ R)) := by
    show (match seqW st (.lst (bitsL R)) with
    | some ws => if flW (bits r) && ws.all flW then some (ws.any fun y => eqF y (bits r)) else match pdT st (bits r), pdT st (.lst (bitsL R)) with
      | some d, some (.list ds) => if SeqAt.shaped d && SeqAt.shaped (.list ds) then some (ds.any fun z => PyData.eqv z d) else none
      | _, _ => none
    | none => none) = _
    have s : seqW st (.lst (bitsL R)) = some (bitsL R) := rfl
    rw [s]
    show (if flW (bits r) && (bitsL R).all flW then some ((bitsL R).any fun y => eqF y (bits r)) else match pdT st (bits r), pdT st (.lst (bitsL R)) with
      | some d, some (.list ds) => if SeqAt.shaped d && SeqAt.shaped (.list ds) then some (ds.any fun z => PyData.eqv z d) else none
      | _, _ => none) = _
    rw [if_neg (by show ¬ ((false && _) = true); simp), p, p2]
    simp only [sh_tup, sh_tl, a]
    rfl
  unfold oIn
  rw [e]
/-- twice told: found among those ahead -/
theorem nodup_at {α : Type} [DecidableEq α] : ∀ {L : List α}, L.Nodup ↔ ∀ i x, L[i]? = some x → x ∉ L.take i := by
  intro L
  constructor
  · intro h i x hx hm
    obtain ⟨j, hj⟩ := List.getElem?_of_mem hm
    rw [List.getElem?_take] at hj
    split at hj
    · rename_i ji
      have hi := (List.getElem?_eq_some_iff.mp hx)
      have hj' := (List.getElem?_eq_some_iff.mp hj)
      have := List.nodup_iff_pairwise_ne.mp h
      rw [List.pairwise_iff_getElem] at this
      exact this j i hj'.1 hi.1 ji (by rw [hj'.2, hi.2])
    · cases hj
  · intro h
    rw [List.nodup_iff_pairwise_ne, List.pairwise_iff_getElem]
    intro i j hi hj ij e
    refine h j L[j] (List.getElem?_eq_getElem hj) ?_
    rw [← e]
    exact List.mem_of_getElem? (i := i) (by rw [List.getElem?_take, if_pos ij]; exact List.getElem?_eq_getElem hi)
theorem due_other {x0 x1 x2 : W} (h0 : oIsiN [x0, .ty "dict"] st = .ok (.bl false) st) : F_law_due [x0, x1, x2] st = .ok (.str "patterns") st := by
  refine mk_rt (st1 := st) ?_ rfl
  show B_law_due [some x0, some x1, some x2, none, none, none, none] st = _
  unfold B_law_due
  simp only [x_seq, x_if, x_bOr, x_bNot, x_bOf, x_N, x_aCons, x_aNil, x_var, fg0, x_c, Out.bind_ok, h0, Bool.not_false, if_true, Out.stm_ok, x_ret]
theorem isiN_plain {v : W} {n : String} (h : plainW v = true) : oIsiN [v, .ty n] st = oIsi [v, .ty n] st := by
  cases v with
  | cell k => cases h
  | _ => rfl
theorem isi_tupN {v : W} (h : plainW v = true) (ht : ∀ us, v ≠ .tup us) : oIsi [v, .ty "tuple"] st = .ok (.bl false) st := by
  cases v with
  | tup us => exact absurd rfl (ht us)
  | dct ks ws =>
    cases ks with
    | nil => simp
    | cons k ks =>
      cases k with
      | str x => simp
      | _ => cases h
  | _ => first | (cases h; done) | simp
abbrev fD (n : Nat) (x1 x2 : W) (v3 v4 v5 v6 : Option W) : Fr := [some (.cell n), some x1, some x2, v3, v4, v5, v6]
theorem due_ok {E : Ents} {kk : List NestedKey} (K : EOk E kk) (hl : E.length ≤ 100) {n : Nat} {x1 x2 : W} (hn : st[n]? = some (nE E)) (h1 : okRow x1 = true) (h2 : okRow x2 = true) : F_law_due [.cell n, x1, x2] st = .ok (.str (verd E x1 x2)) st := by
  have hlt : n < st.length := (List.getElem?_eq_some_iff.mp hn).1
  have hL : (st.set n (nL E))[n]? = some (nL E) := List.getElem?_set_self hlt
  have isd := isd_nE hn
  have nl := nlen_nE hn
  refine mk_rt (st1 := st) ?_ rfl
  show B_law_due (fD n x1 x2 none none none none) st = _
  by_cases hb : 1 ≤ E.length ∧ E.length ≤ 10
  · obtain ⟨b1, b10⟩ := hb
    have d1 : ¬ ((E.length : Nat) : Int) < 1 := by omega
    have d2 : ¬ (10 : Int) < ((E.length : Nat) : Int) := by omega
    obtain ⟨e0, E1, hE⟩ : ∃ e0 E1, E = e0 :: E1 := by
      cases E with
      | nil => simp at b1
      | cons e0 E1 => exact ⟨e0, E1, rfl⟩
    have he0 : e0 ∈ E := by rw [hE]; exact List.mem_cons_self
    have hw : wid E = lenE e0 := by rw [hE]; rfl
    unfold B_law_due
    refine if_no (st1 := st) (st2 := st) (by simp [isd, nl, d1, d2]) rfl ?_
    have lv : eListVN (eVar 0) (fD n x1 x2 none none none none) st = .ok (.lst (E.map (·.2))) st := by
      unfold eListVN
      simp only [x_var, fg0, Out.bind_ok, hn, nE]
    refine asg_to (w := .lst (E.map (·.2))) (st1 := st) lv ?_
    simp only [fs3]
    have ix0 : oIx (.lst (E.map (·.2))) (.int 0) st = .ok e0.2 st := x_ixL (by decide) (by rw [hE]; rfl)
    have pl0 := (K.val e0 he0).1
    have pl0' := pl0
    unfold okRow at pl0'
    rw [Bool.and_eq_true] at pl0'
    have nopat : (rowW e0.2 = false ∨ ¬ (1 ≤ lenE e0 ∧ lenE e0 ≤ 6)) → verd E x1 x2 = "patterns" := fun h => by
      unfold verd
      cases g : patB E with
      | false => rw [if_neg (by decide)]
      | true =>
        unfold patB at g
        simp only [Bool.and_eq_true, decide_eq_true_eq] at g
        obtain ⟨_, wz, gg⟩ := g
        rw [hw] at wz gg
        have := List.all_eq_true.mp gg e0 he0
        unfold goodB rowK at this
        simp only [Bool.and_eq_true] at this
        rcases h with h | h
        · rw [this.2.1] at h; cases h
        · exact absurd wz h
    by_cases ht : ∃ us, e0.2 = .tup us
    · obtain ⟨us, hu⟩ := ht
      have it : oIsiN [e0.2, .ty "tuple"] st = .ok (.bl true) st := by rw [hu]; rfl
      have ol : oLen [e0.2] st = .ok (.int (lenE e0 : Nat)) st := by unfold lenE; rw [hu]; exact x_len_tup
      by_cases wz : 1 ≤ lenE e0 ∧ lenE e0 ≤ 6
      · have a1 : ¬ ((lenE e0 : Nat) : Int) < 1 := by omega
        have a2 : ¬ (6 : Int) < ((lenE e0 : Nat) : Int) := by omega
        refine if_no (st1 := st) (st2 := st) (by simp [ix0, it, ol, a1, a2]) rfl ?_
        refine asg_to (w := .int (lenE e0 : Nat)) (st1 := st) (by simp [ix0, ol]) ?_
        simp only [fs4]
        obtain ⟨V, hV⟩ : ∃ V, V = W.lst (E.map (·.2)) := ⟨_, rfl⟩
        rw [← hV]
        obtain ⟨w, hww⟩ : ∃ w, w = lenE e0 := ⟨_, rfl⟩
        rw [← hww] at hw wz ⊢
        -- one turn
        have turn : ∀ (e : W × W), e ∈ E → (sIf (bOr (bNot (bOf (eCall F_law_is_sign (aCons (eVar 5) (aNil))))) (bNot (bOf (eCall F_law_is_row (aCons (e2 (oNGet HW.w) (eVar 0) (eVar 5)) (aCons (eVar 4) (aNil))))))) (sRet (eC (.str "patterns"))) (sNil)) (fD n x1 x2 (some V) (some (.int (w : Nat))) (some e.1) none) (st.set n (nL E)) = if goodB w e = true then .nx (fD n x1 x2 (some V) (some (.int (w : Nat))) (some e.1) none) (st.set n (nL E)) else .rt (.str "patterns") (st.set n (nL E)) := fun e he => by
          have ks := lsign_at (st := st.set n (nL E)) (K.row e he)
          have g := nget_ok (st := st.set n (nL E)) K (.inr hL) he
          have lr := lrow_ok (st := st.set n (nL E)) (n := w) (K.val e he).1
          unfold goodB
          cases hs : sgB e.1 with
          | false =>
            rw [hs] at ks
            simp only [x_if, x_bOr, x_bNot, x_bOf, x_call, x_aCons, x_aNil, x_var, fg5, Out.bind_ok, ks, Bool.not_false, if_true, Bool.false_and, Bool.false_eq_true, if_false, x_ret, x_c, Out.stm_ok]
          | true =>
            rw [hs] at ks
            cases hr : rowK w e.2 with
            | false =>
              rw [hr] at lr
              simp only [x_if, x_bOr, x_bNot, x_bOf, x_call, x_2, x_aCons, x_aNil, x_var, fg0, fg4, fg5, Out.bind_ok, ks, g, lr, Bool.not_false, Bool.not_true, if_true, Bool.and_false, Bool.false_eq_true, if_false, x_ret, x_c, Out.stm_ok]
            | true =>
              rw [hr] at lr
              simp only [x_if, x_bOr, x_bNot, x_bOf, x_call, x_2, x_aCons, x_aNil, x_var, fg0, fg4, fg5, Out.bind_ok, ks, g, lr, Bool.not_true, if_true, Bool.and_self, Bool.false_eq_true, if_false, Out.stm_ok, x_nil]
        have loop := for_all37 (x := .non) (all := E.map (·.1)) (f := iKeysN 0) (g := gNm 5) (b := (sIf (bOr (bNot (bOf (eCall F_law_is_sign (aCons (eVar 5) (aNil))))) (bNot (bOf (eCall F_law_is_row (aCons (e2 (oNGet HW.w) (eVar 0) (eVar 5)) (aCons (eVar 4) (aNil))))))) (sRet (eC (.str "patterns"))) (sNil))) (fr := fD n x1 x2 (some V) (some (.int (w : Nat))) none none) (st := st.set n (nL E)) (st1 := st.set n (nL E))
          (fun k fr s => (∃ u, fr = fD n x1 x2 (some V) (some (.int (w : Nat))) u none) ∧ s = st.set n (nL E) ∧ (E.take k).all (goodB w) = true)
          (fun o => (E.all (goodB w) = true ∧ ∃ u, o = .nx (fD n x1 x2 (some V) (some (.int (w : Nat))) u none) (st.set n (nL E))) ∨ (E.all (goodB w) = false ∧ o = .rt (.str "patterns") (st.set n (nL E))))
          (keysN_at rfl hL (by omega)) ⟨⟨none, rfl⟩, rfl, rfl⟩ (fun _ _ _ _ => trivial) (by
            rintro k fr s x ⟨⟨u, rfl⟩, rfl, ha⟩ hx
            rw [List.getElem?_map] at hx
            obtain ⟨e, he, rfl⟩ := Option.map_eq_some_iff.mp hx
            have t := turn e (List.mem_of_getElem? he)
            refine ⟨fD n x1 x2 (some V) (some (.int (w : Nat))) (some e.1) none, rfl, ?_⟩
            cases hb : goodB w e with
            | true =>
              rw [hb, if_pos rfl] at t
              refine .inl ⟨_, _, t, ⟨_, rfl⟩, rfl, ?_⟩
              rw [take_next he, List.all_append, ha]
              simp [hb]
            | false =>
              rw [hb, if_neg (by decide)] at t
              refine .inr ⟨_, _, t, .inr ⟨?_, rfl⟩⟩
              cases h : E.all (goodB w) with
              | false => rfl
              | true =>
                have := List.all_eq_true.mp h e (List.mem_of_getElem? he)
                rw [hb] at this; cases this) (by
            rintro fr s ⟨⟨u, rfl⟩, rfl, ha⟩
            rw [List.length_map, List.take_length] at ha
            exact .inl ⟨ha, u, rfl⟩)
        rcases loop with ⟨g, u, z⟩ | ⟨g, z⟩
        · refine seq_to (lockS_nx rfl hn z) ?_
          have pt : patB E = true := by
            unfold patB
            rw [hw, g, decide_eq_true b1, decide_eq_true b10, decide_eq_true wz.1, decide_eq_true wz.2]; rfl
          unfold verd
          rw [pt, if_pos rfl, hw]
          have r1 := lrow_ok (st := st) (n := w) h1
          have r2 := lrow_ok (st := st) (n := w) h2
          cases hb : rowK w x1 with
          | false =>
            rw [hb] at r1
            simp only [x_seq, x_if, x_bNot, x_bOf, x_call, x_aCons, x_aNil, x_var, x_c, fg1, fg4, Out.bind_ok, r1, Bool.not_false, Out.stm_ok, if_true, x_ret, Bool.false_eq_true, if_false]
          | true =>
            rw [hb] at r1
            rw [if_pos rfl]
            refine if_no (st1 := st) (st2 := st) (by simp only [x_bNot, x_bOf, x_call, x_aCons, x_aNil, x_var, fg1, fg4, Out.bind_ok, r1]; rfl) rfl ?_
            cases hc : rowK w x2 with
            | false =>
              rw [hc] at r2
              simp only [x_seq, x_if, x_bNot, x_bOf, x_call, x_aCons, x_aNil, x_var, x_c, fg2, fg4, Out.bind_ok, r2, Bool.not_false, Out.stm_ok, if_true, x_ret, Bool.false_eq_true, if_false]
            | true =>
              rw [hc] at r2
              rw [if_pos rfl]
              refine if_no (st1 := st) (st2 := st) (by simp only [x_bNot, x_bOf, x_call, x_aCons, x_aNil, x_var, fg2, fg4, Out.bind_ok, r2]; rfl) rfl ?_
              obtain ⟨s, rfl, sl, sb⟩ := row_bits hb
              obtain ⟨t, rfl, tl, tb⟩ := row_bits hc
              obtain ⟨d, hd', hd⟩ := good_ents g K.row
              obtain ⟨R, hR⟩ : ∃ R, R = d.map (·.2) ++ [s, t] := ⟨_, rfl⟩
              have eR : E.map (·.2) ++ [bits s, bits t] = bitsL R := by
                rw [hR, hd']; unfold bitsL; rw [List.map_append, List.map_map, List.map_map]; rfl
              have dl : d.length ≤ 10 := by rw [hd', List.length_map] at b10; exact b10
              have Rl : R.length ≤ 12 := by rw [hR, List.length_append, List.length_map]; simp; omega
              have ad : oAdd V (.lst [bits s, bits t]) st = .ok (.lst (bitsL R)) st := by
                rw [hV, ← eR]
                show (if (E.map (·.2)).length + 2 ≤ LINE then _ else _) = _
                rw [if_pos (by rw [List.length_map]; unfold LINE; omega)]
              refine asg_to (w := .lst (bitsL R)) (st1 := st) (by simp only [x_2, x_var, fg1, fg2, fg3, x_N, x_aCons, x_aNil, x_lst (ws := [bits s, bits t]) (by simp), Out.bind_ok, ad]) ?_
              simp only [fs3]
              have it2 : iRng rg1 (aCons (eN oLen (aCons (eVar 3) (aNil))) (aNil)) (fD n (bits s) (bits t) (some (.lst (bitsL R))) (some (.int (w : Nat))) u none) st = .ok (.non, rngW 0 1 R.length) st := by
                have := x_rng1 (l := aCons (eN oLen (aCons (eVar 3) (aNil))) (aNil)) (fr := fD n (bits s) (bits t) (some (.lst (bitsL R))) (some (.int (w : Nat))) u none) (st := st) (st1 := st) (j := (R.length : Int)) (by simp only [x_aCons, x_N, x_var, fg3, x_aNil, Out.bind_ok, x_len_lst, bitsL_len]) (by omega) (by omega)
                rw [Int.toNat_natCast] at this
                exact this
              have rl : (rngW 0 1 R.length).length = R.length := by unfold rngW; simp
              have same := for_all37 (g := gNm 6) (b := (sIf (bOf (e2 oIn (e2 oIx (eVar 3) (eVar 6)) (eSl (eVar 3) (pNo) (pYes (eVar 6))))) (sRet (eC (.str "same"))) (sNil))) (fun k fr s' => (∃ v, fr = fD n (bits s) (bits t) (some (.lst (bitsL R))) (some (.int (w : Nat))) u v) ∧ s' = st ∧ ∀ i x, i < k → R[i]? = some x → x ∉ R.take i)
                (fun o => (R.Nodup ∧ ∃ fr, o = .nx fr st) ∨ (¬ R.Nodup ∧ o = .rt (.str "same") st)) it2 ⟨⟨none, rfl⟩, rfl, fun i _ h => absurd h (Nat.not_lt_zero i)⟩ (fun _ _ _ _ => trivial) (by
                  rintro k fr s' x ⟨⟨v, rfl⟩, rfl, hk⟩ hx
                  have kl : k < R.length := by
                    have := (List.getElem?_eq_some_iff.mp hx).1
                    rw [rl] at this; exact this
                  obtain rfl : x = .int (k : Nat) := by
                    obtain ⟨_, h⟩ := rngW_at hx
                    rw [h]; congr 1
                    rw [Int.mul_one, Int.zero_add]
                  have ix : oIx (.lst (bitsL R)) (.int (k : Nat)) s' = .ok (bits R[k]) s' := x_ixL (by omega) (by rw [Int.toNat_natCast]; unfold bitsL; rw [List.getElem?_map, List.getElem?_eq_getElem kl]; rfl)
                  have sl : oSl (.lst (bitsL R)) none (some (k : Nat)) s' = .ok (.lst (bitsL (R.take k))) s' := by
                    show Out.ok (W.lst (cutW (bitsL R) none (some ((k : Nat) : Int)))) s' = _
                    rw [cut_to (by rw [bitsL_len]; omega)]
                    unfold bitsL; rw [List.map_take]
                  have ii := in_bits (st := s') (r := R[k]) (R := R.take k)
                  have ct : bOf (e2 oIn (e2 oIx (eVar 3) (eVar 6)) (eSl (eVar 3) (pNo) (pYes (eVar 6)))) (fD n (bits s) (bits t) (some (.lst (bitsL R))) (some (.int (w : Nat))) u (some (.int (k : Nat)))) s' = .ok (decide (R[k] ∈ R.take k)) s' := by
                    simp only [x_bOf, x_2, x_var, fg3, fg6, Out.bind_ok, ix, x_sl, x_pNo, x_pYes, sl, ii]
                  refine ⟨fD n (bits s) (bits t) (some (.lst (bitsL R))) (some (.int (w : Nat))) u (some (.int (k : Nat))), rfl, ?_⟩
                  by_cases hm : R[k] ∈ R.take k
                  · rw [decide_eq_true hm] at ct
                    refine .inr ⟨.str "same", s', by rw [x_if, ct, Out.stm_ok, if_pos rfl]; rfl, .inr ⟨fun z => nodup_at.mp z k R[k] (List.getElem?_eq_getElem kl) hm, rfl⟩⟩
                  · rw [decide_eq_false hm] at ct
                    refine .inl ⟨_, s', by rw [x_if, ct, Out.stm_ok, if_neg (by decide)]; rfl, ⟨_, rfl⟩, rfl, fun i x hi hz => ?_⟩
                    rcases Nat.lt_or_ge i k with q | q
                    · exact hk i x q hz
                    · have : i = k := by omega
                      subst this
                      rw [List.getElem?_eq_getElem kl] at hz
                      cases hz; exact hm) (by
                  rintro fr s' ⟨⟨v, rfl⟩, rfl, hk⟩
                  rw [rl] at hk
                  exact .inl ⟨nodup_at.mpr fun i x hx => hk i x (List.getElem?_eq_some_iff.mp hx).1 hx, _, rfl⟩)
              have nb : (E.map (·.2) ++ [bits s, bits t]).Nodup ↔ R.Nodup := by rw [eR]; exact nodup_bits
              rcases same with ⟨nd, fr, z⟩ | ⟨nd, z⟩
              · rw [if_pos (nb.mpr nd)]
                refine seq_to z ?_
                rfl
              · rw [if_neg fun q => nd (nb.mp q)]
                rw [x_seq, z]
        · have pf : patB E = false := by
            unfold patB
            rw [hw, g]; simp
          unfold verd
          rw [pf, if_neg (by decide), x_seq, lockS_rt rfl hn z]
      · rw [nopat (.inr wz)]
        by_cases a : 1 ≤ lenE e0
        · have a1 : ¬ ((lenE e0 : Nat) : Int) < 1 := by omega
          have a2 : (6 : Int) < ((lenE e0 : Nat) : Int) := by omega
          simp [ix0, it, ol, a1, a2]
        · have a1 : ((lenE e0 : Nat) : Int) < 1 := by omega
          simp [ix0, it, ol, a1]
    · have it : oIsiN [e0.2, .ty "tuple"] st = .ok (.bl false) st := by
        rw [isiN_plain pl0'.1]; exact isi_tupN pl0'.1 fun us h => ht ⟨us, h⟩
      have nr : rowW e0.2 = false := by
        cases h : e0.2 with
        | tup us => exact absurd ⟨us, h⟩ ht
        | _ => rfl
      rw [nopat (.inl nr)]
      simp only [x_seq, x_if, x_bOr, x_bNot, x_bOf, x_N, x_2, x_aCons, x_aNil, x_var, fg3, x_c, Out.bind_ok, ix0, it, Bool.not_false, if_true, Out.stm_ok, x_ret]
  · have pb : verd E x1 x2 = "patterns" := by
      unfold verd patB
      have : (decide (1 ≤ E.length) && decide (E.length ≤ 10)) = false := by
        rw [Bool.eq_false_iff]; intro z
        simp only [Bool.and_eq_true, decide_eq_true_eq] at z
        exact hb z
      rw [this, Bool.false_and, if_neg (by decide)]
    rw [pb]
    unfold B_law_due
    by_cases a : 1 ≤ E.length
    · have ai : ¬ ((E.length : Nat) : Int) < 1 := by omega
      have bi : (10 : Int) < ((E.length : Nat) : Int) := by omega
      simp [isd, nl, ai, bi]
    · have ai : ((E.length : Nat) : Int) < 1 := by omega
      simp [isd, nl, ai]
end

end SL
namespace SL
open PySem PySem.Spec PyProof.Rows L2
/-! # the law -/
section
variable [HW]
theorem flat_rep {α : Type} (x : α) : ∀ w : Nat, (List.replicate w [x]).flatten = List.replicate w x
  | 0 => rfl
  | w + 1 => by rw [List.replicate_succ, List.flatten_cons, flat_rep x w, List.replicate_succ]; rfl
theorem mulX6 {w : Nat} {x : W} {st : Sto} (h : w ≤ 6) : oMulX (.tup [x]) (.int (w : Nat)) st = .ok (.tup (List.replicate w x)) st := by
  show (if [x] = [] then Out.bad else if dec (-1000 ≤ ((w : Nat) : Int) ∧ ((w : Nat) : Int) ≤ 1000 ∧ [x].length ≤ 1000) = true then Out.ok (W.tup (List.replicate ((w : Nat) : Int).toNat [x]).flatten) st else .bad) = _
  rw [if_neg (by simp), if_pos (dec_mk ⟨by omega, by omega, by simp⟩), Int.toNat_natCast, flat_rep]
theorem add_tup {a b : List W} {st : Sto} (h : a.length + b.length ≤ 1000) : oAdd (.tup a) (.tup b) st = .ok (.tup (a ++ b)) st := by
  show (if a.length + b.length ≤ LINE then Out.ok (W.tup (a ++ b)) st else .bad) = _
  rw [if_pos (by unfold LINE; omega)]
theorem add_lst {a b : List W} {st : Sto} (h : a.length + b.length ≤ 1000) : oAdd (.lst a) (.lst b) st = .ok (.lst (a ++ b)) st := by
  show (if a.length + b.length ≤ LINE then Out.ok (W.lst (a ++ b)) st else .bad) = _
  rw [if_pos (by unfold LINE; omega)]
/-- closed plain items -/
def cl (w : W) : Prop := plainW w = true ∧ ∀ n f, fz0 n f w = some w
theorem cl_int (i : Int) : cl (.int i) := ⟨rfl, fun _ _ => rfl⟩
theorem fz_cls (n : Nat) (f : Nat → Option W) : ∀ {l : List W}, (∀ w ∈ l, cl w) → fz0s n f l = some l
  | [], _ => rfl
  | w :: l, h => by rw [fz0s, (h w List.mem_cons_self).2 n f, fz_cls n f fun u hu => h u (List.mem_cons_of_mem _ hu)]
theorem vOk_tup {l : List W} (h : ∀ w ∈ l, cl w) : vOk (.tup l) := by
  refine ⟨?_, fun n f => by unfold fz0; rw [fz_cls n f h]; rfl⟩
  unfold okRow
  rw [Bool.and_eq_true]
  exact ⟨plain_tup, List.all_eq_true.mpr fun w hw => (h w hw).1⟩
theorem cl_ints {r : List Int} : ∀ w ∈ r.map W.int, cl w := fun w hw => by
  obtain ⟨i, _, rfl⟩ := List.mem_map.mp hw
  exact cl_int i
theorem vOk_bits (r : List Int) : vOk (bits r) := vOk_tup cl_ints
abbrev spl (r : List Int) (x : W) : List W := (r.map W.int).take 1 ++ [x] ++ (r.map W.int).drop 2
theorem vOk_spl {r : List Int} {x : W} (h : cl x) : vOk (.tup (spl r x)) := vOk_tup fun w hw => by
  rcases List.mem_append.mp hw with hw | hw
  · rcases List.mem_append.mp hw with hw | hw
    · exact cl_ints w (List.mem_of_mem_take hw)
    · rw [List.mem_singleton.mp hw]; exact h
  · exact cl_ints w (List.mem_of_mem_drop hw)
def wrA (r : List Int) : List W := [.non, .int 0, .str "01", .lst (r.map W.int), .tup [], .tup (r.map W.int ++ [.int 0]), .tup ((r.map W.int).drop 1), .tup (spl r (.int 2)), .tup (spl r (.bl true)), .dct [] []]
def wrB (r : List Int) : List W := [.tup [.int 0, .int 0, .int 0, .int 0, .int 0, .int 0, .int 0], .tup (List.replicate r.length (.tup [.int 0])), .tup (spl r .non)]
theorem wr_ok {r : List Int} : ∀ v ∈ wrA r ++ wrB r, vOk v := by
  intro v hv
  simp only [wrA, wrB, List.cons_append, List.nil_append, List.mem_cons, List.not_mem_nil, or_false] at hv
  rcases hv with rfl | rfl | rfl | rfl | rfl | rfl | rfl | rfl | rfl | rfl | rfl | rfl | rfl
  · exact ⟨rfl, fun _ _ => rfl⟩
  · exact ⟨rfl, fun _ _ => rfl⟩
  · exact ⟨rfl, fun _ _ => rfl⟩
  · exact ⟨rfl, fun n f => by unfold fz0; rw [fz_ints]; rfl⟩
  · exact vOk_tup fun _ h => nomatch h
  · exact vOk_tup fun w hw => by
      rcases List.mem_append.mp hw with hw | hw
      · exact cl_ints w hw
      · rw [List.mem_singleton.mp hw]; exact cl_int 0
  · exact vOk_tup fun w hw => cl_ints w (List.mem_of_mem_drop hw)
  · exact vOk_spl (cl_int 2)
  · exact vOk_spl ⟨rfl, fun _ _ => rfl⟩
  · exact ⟨rfl, fun _ _ => rfl⟩
  · exact vOk_bits [0, 0, 0, 0, 0, 0, 0]
  · exact vOk_tup fun w hw => by
      rw [List.eq_of_mem_replicate hw]
      exact ⟨rfl, fun _ _ => rfl⟩
  · exact vOk_spl ⟨rfl, fun _ _ => rfl⟩
theorem wrong_ok {c : Cel} {r : List Int} (hp : Pool c) (h2 : 2 ≤ r.length) (h6 : r.length ≤ 6) : ∃ v c', Pool c' ∧ vOk v ∧ ∀ rest : Sto, F_law_wrong_row [.cell 0, bits r] (c :: rest) = .ok v (c' :: rest) := by
  obtain ⟨q, c1, p1, q0, q1, dq⟩ := draw_ok (m := 13) hp (by decide) (log_small (by decide) (by decide))
  obtain ⟨v, hv, ev⟩ := ix_mem (ws := wrA r ++ wrB r) q0 (by simpa [wrA, wrB] using q1)
  refine ⟨v, c1, p1, wr_ok v hv, fun rest => mk_rt ?_ rfl⟩
  show B_law_wrong_row [some (.cell 0), some (bits r), none] (c :: rest) = _
  have rl : (r.map W.int).length = r.length := List.length_map _
  have t1 : ∀ x S, oTup [x] S = .ok (.tup [x]) S := fun x S => rfl
  have l10 : ∀ a b c d e f g h i j S, oLst [a, b, c, d, e, f, g, h, i, j] S = .ok (.lst [a, b, c, d, e, f, g, h, i, j]) S := fun a b c d e f g h i j S => rfl
  have l3 : ∀ a b c S, oLst [a, b, c] S = .ok (.lst [a, b, c]) S := fun a b c S => rfl
  have t0 : ∀ S, oTup [] S = .ok (.tup []) S := fun S => rfl
  have t7 : ∀ a b c d e f g S, oTup [a, b, c, d, e, f, g] S = .ok (.tup [a, b, c, d, e, f, g]) S := fun a b c d e f g S => rfl
  have li : ∀ S, oList [bits r] S = .ok (.lst (r.map W.int)) S := fun S => rfl
  have c1' : ∀ S, oSl (bits r) (some 1) none S = .ok (.tup ((r.map W.int).drop 1)) S := fun S => by
    show Out.ok (W.tup (cutW (r.map W.int) (some ((1 : Nat) : Int)) none)) S = _
    rw [cut_from (by rw [rl]; omega)]
  have c2' : ∀ S, oSl (bits r) (some 2) none S = .ok (.tup ((r.map W.int).drop 2)) S := fun S => by
    show Out.ok (W.tup (cutW (r.map W.int) (some ((2 : Nat) : Int)) none)) S = _
    rw [cut_from (by rw [rl]; omega)]
  have c0' : ∀ S, oSl (bits r) none (some 1) S = .ok (.tup ((r.map W.int).take 1)) S := fun S => by
    show Out.ok (W.tup (cutW (r.map W.int) none (some ((1 : Nat) : Int)))) S = _
    rw [cut_to (by rw [rl]; omega)]
  have a1 : ∀ S, oAdd (bits r) (.tup [.int 0]) S = .ok (.tup (r.map W.int ++ [.int 0])) S := fun S => add_tup (by rw [rl]; simp; omega)
  have a2 : ∀ x S, oAdd (.tup ((r.map W.int).take 1)) (.tup [x]) S = .ok (.tup ((r.map W.int).take 1 ++ [x])) S := fun x S => add_tup (by rw [List.length_take, rl]; simp; omega)
  have a3 : ∀ x S, oAdd (.tup ((r.map W.int).take 1 ++ [x])) (.tup ((r.map W.int).drop 2)) S = .ok (.tup (spl r x)) S := fun x S => add_tup (by rw [List.length_append, List.length_take, List.length_drop, rl]; simp; omega)
  have ln : ∀ S, oLen [bits r] S = .ok (.int (r.length : Nat)) S := fun S => by
    show Out.ok (W.int ((r.map W.int).length : Nat)) S = _
    rw [rl]
  have mx : ∀ S, oMulX (.tup [.tup [.int 0]]) (.int (r.length : Nat)) S = .ok (.tup (List.replicate r.length (.tup [.int 0]))) S := fun S => mulX6 h6
  unfold B_law_wrong_row
  refine asg_to (w := .lst (wrA r)) (st1 := c :: rest) (by
    simp only [x_N, x_aCons, x_aNil, x_2, x_var, fg1, x_c, x_sl, x_pNo, x_pYes, Out.bind_ok, li, t0, t1, a1, c1', c0', c2', a2, a3, l10]
    rfl) ?_
  simp only [fs2]
  refine asg_to (w := .lst (wrA r ++ wrB r)) (st1 := c :: rest) (by
    have al3 : ∀ a b c S, oAdd (.lst (wrA r)) (.lst [a, b, c]) S = .ok (.lst (wrA r ++ [a, b, c])) S := fun a b c S => add_lst (by show 10 + 3 ≤ 1000; omega)
    simp only [x_N, x_aCons, x_aNil, x_2, x_var, fg1, fg2, x_c, x_sl, x_pNo, x_pYes, Out.bind_ok, t7, t1, c0', c2', a2, a3, ln, mx, l3, al3]
    rfl) ?_
  simp only [fs2]
  have wl : oLen [.lst (wrA r ++ wrB r)] (c :: rest) = .ok (.int 13) (c :: rest) := rfl
  simp only [x_ret, x_2, x_var, fg0, fg2, x_call, x_aCons, x_aNil, x_N, Out.bind_ok, wl, dq, ev, Out.stm_ok]
end

end SL
namespace SL
open PySem PySem.Spec PyProof.Rows L2
/-! ## the things -/
section
variable [HW]
def othX : List W := [.non, .lst [], .int 0, .str "a", .lst [.cell 2], .tup [.str "a"]]
theorem oth_no : ∀ x ∈ othX, ∀ S, oIsiN [x, .ty "dict"] S = .ok (.bl false) S := by
  intro x hx S
  simp only [othX, List.mem_cons, List.not_mem_nil, or_false] at hx
  rcases hx with rfl | rfl | rfl | rfl | rfl | rfl <;> rfl
theorem oth_fz : ∀ x ∈ othX, ∀ n, 5 ≤ n → ∀ f, fz0 n f x = some x := by
  intro x hx n hn f
  have h2 : 2 < n := by omega
  simp only [othX, List.mem_cons, List.not_mem_nil, or_false] at hx
  rcases hx with rfl | rfl | rfl | rfl | rfl | rfl <;> simp [fz0, fz0s, h2]
structure TOk (cs : List Nat) (P left : List (List Int)) (m : Nat) (T : Sto) (x0 x1 x2 : W) : Prop where
  t0 : T[0]? = some (.lst (bitsL left))
  t1 : T[1]? = some (.dct (sgW cs) (bitsL P))
  t3 : T[3]? = some (.lst [x0, x1, x2])
  nc : ∀ i c, T[i]? = some c → (i = 2 ∨ 4 ≤ i) → ∃ E kk, c = nE E ∧ EOk E kk ∧ E.length ≤ m
  v1 : vOk x1
  v2 : vOk x2
  v0 : (∃ j, x0 = .cell (j + 1) ∧ (j = 2 ∨ 4 ≤ j) ∧ j < T.length) ∨ x0 ∈ othX
section
variable {cs : List Nat} {P left : List (List Int)} {m : Nat} {T : Sto} {x0 x1 x2 : W} {c : Cel}
theorem TOk.len (O : TOk cs P left m T x0 x1 x2) : 4 ≤ T.length := (List.getElem?_eq_some_iff.mp O.t3).1
theorem TOk.mono (O : TOk cs P left m T x0 x1 x2) {k : Nat} (h : m ≤ k) : TOk cs P left k T x0 x1 x2 :=
  ⟨O.t0, O.t1, O.t3, fun i c a b => by obtain ⟨E, kk, e, K, l⟩ := O.nc i c a b; exact ⟨E, kk, e, K, by omega⟩, O.v1, O.v2, O.v0⟩
theorem TOk.old (O : TOk cs P left m T x0 x1 x2) (hp : Pool c) : ∀ n, (c :: T).length ≤ n → (c :: T).all (oldW n) = true := by
  intro n hn
  have l4 := O.len
  rw [List.length_cons] at hn
  rw [List.all_cons, pool_old n hp, Bool.true_and, List.all_eq_true]
  intro d hd
  obtain ⟨i, hi⟩ := List.getElem?_of_mem hd
  have il := (List.getElem?_eq_some_iff.mp hi).1
  by_cases q : i = 2 ∨ 4 ≤ i
  · obtain ⟨E, kk, rfl, K, _⟩ := O.nc i d hi q
    exact old_nE K n
  · rcases (show i = 0 ∨ i = 1 ∨ i = 3 by omega) with rfl | rfl | rfl
    · rw [O.t0] at hi; cases hi
      show (fz0s n (fun _ => none) (bitsL left)).isSome = true
      rw [fz_bitsL]; rfl
    · rw [O.t1] at hi; cases hi
      exact old_dct
    · rw [O.t3] at hi; cases hi
      show (fz0s n (fun _ => none) [x0, x1, x2]).isSome = true
      have z0 : fz0 n (fun _ => none) x0 = some x0 := by
        rcases O.v0 with ⟨j, rfl, _, hj⟩ | h
        · unfold fz0; rw [if_pos (by omega)]
        · exact oth_fz x0 h n (by omega) _
      simp only [fz0s, z0, O.v1.2, O.v2.2]
      rfl
theorem eqS {a b : Str} {st : Sto} (ha : PyData.strOk a = true) (hb : PyData.strOk b = true) : oNe (.str a) (.str b) st = .ok (.bl (!(a == b))) st := by
  have z : ∀ a : Str, PyData.strOk a = true → SeqAt.shaped (.str a) = true := fun a h => by
    unfold SeqAt.shaped
    have : PyData.canLay0 (.str a) = PyData.strOk a := by simp only [PyData.canLay0]
    rw [this, h]; rfl
  have e : eqW st (.str a) (.str b) = some (a == b) := by
    show (if SeqAt.shaped (.str a) && SeqAt.shaped (.str b) then some (PyData.eqv (.str a) (.str b)) else none) = _
    rw [z a ha, z b hb]; rfl
  show (match eqW st (.str a) (.str b) with | some b => Out.ok (W.bl !b) st | none => .bad) = _
  rw [e]
theorem verd_ok (E : Ents) (x1 x2 : W) : PyData.strOk (verd E x1 x2) = true := by
  unfold verd
  split
  · split
    · split
      · split <;> decide +kernel
      · decide +kernel
    · decide +kernel
  · decide +kernel
/-- both tell the same -/
theorem TOk.both (O : TOk cs P left m T x0 x1 x2) (hp : Pool c) (hm : m ≤ 100) : ∃ a, PyData.strOk a = true ∧ F_law_told [x0, x1, x2] (c :: T) = .ok (.str a) (c :: T) ∧ F_law_due [x0, x1, x2] (c :: T) = .ok (.str a) (c :: T) := by
  have ho := O.old hp
  rcases O.v0 with ⟨j, rfl, hj, jl⟩ | h
  · have hi : T[j]? = some T[j] := List.getElem?_eq_getElem jl
    obtain ⟨E, kk, e, K, l⟩ := O.nc j _ hi hj
    rw [e] at hi
    exact ⟨_, verd_ok E x1 x2, told_ok (st := c :: T) (n := j + 1) K (by omega) hi O.v1.1 O.v2.1 ho, due_ok (st := c :: T) (n := j + 1) K (by omega) hi O.v1.1 O.v2.1⟩
  · exact ⟨"patterns", by decide +kernel, told_other (oth_no x0 h) (ho _ (Nat.le_refl _)), due_other (oth_no x0 h _)⟩
theorem TOk.set1 (O : TOk cs P left m T x0 x1 x2) {v : W} (hv : vOk v) : TOk cs P left m (T.set 3 (.lst [x0, v, x2])) x0 v x2 := by
  have l4 := O.len
  refine ⟨?_, ?_, List.getElem?_set_self (by omega), fun i c a b => ?_, hv, O.v2, ?_⟩
  · rw [List.getElem?_set_ne (by decide)]; exact O.t0
  · rw [List.getElem?_set_ne (by decide)]; exact O.t1
  · rw [List.getElem?_set_ne (by omega)] at a; exact O.nc i c a b
  · rw [List.length_set]; exact O.v0
theorem TOk.set2 (O : TOk cs P left m T x0 x1 x2) {v : W} (hv : vOk v) : TOk cs P left m (T.set 3 (.lst [x0, x1, v])) x0 x1 v := by
  have l4 := O.len
  refine ⟨?_, ?_, List.getElem?_set_self (by omega), fun i c a b => ?_, O.v1, hv, ?_⟩
  · rw [List.getElem?_set_ne (by decide)]; exact O.t0
  · rw [List.getElem?_set_ne (by decide)]; exact O.t1
  · rw [List.getElem?_set_ne (by omega)] at a; exact O.nc i c a b
  · rw [List.length_set]; exact O.v0
theorem TOk.set0 (O : TOk cs P left m T x0 x1 x2) {v : W} (hv : (∃ j, v = .cell (j + 1) ∧ (j = 2 ∨ 4 ≤ j) ∧ j < T.length) ∨ v ∈ othX) : TOk cs P left m (T.set 3 (.lst [v, x1, x2])) v x1 x2 := by
  have l4 := O.len
  refine ⟨?_, ?_, List.getElem?_set_self (by omega), fun i c a b => ?_, O.v1, O.v2, ?_⟩
  · rw [List.getElem?_set_ne (by decide)]; exact O.t0
  · rw [List.getElem?_set_ne (by decide)]; exact O.t1
  · rw [List.getElem?_set_ne (by omega)] at a; exact O.nc i c a b
  · rw [List.length_set]; exact hv
theorem K0 : EOk ([] : Ents) [] := ⟨rfl, List.nodup_nil, fun _ h => (nomatch h), fun _ h => nomatch h⟩
theorem TOk.app (O : TOk cs P left m T x0 x1 x2) : TOk cs P left m (T ++ [nE []]) x0 x1 x2 := by
  have l4 := O.len
  refine ⟨?_, ?_, ?_, fun i c a b => ?_, O.v1, O.v2, ?_⟩
  · rw [List.getElem?_append_left (by omega)]; exact O.t0
  · rw [List.getElem?_append_left (by omega)]; exact O.t1
  · rw [List.getElem?_append_left (by omega)]; exact O.t3
  · rcases Nat.lt_or_ge i T.length with q | q
    · rw [List.getElem?_append_left q] at a; exact O.nc i c a b
    · rw [List.getElem?_append_right q] at a
      have := List.mem_of_getElem? a
      rw [List.mem_singleton] at this
      exact ⟨[], [], this, K0, Nat.zero_le _⟩
  · rcases O.v0 with ⟨j, e, h, l⟩ | h
    · exact .inl ⟨j, e, h, by rw [List.length_append]; omega⟩
    · exact .inr h
theorem TOk.put (O : TOk cs P left m T x0 x1 x2) (c : Cel) (hm : m ≤ 90) (hd : ∃ S, oIsiN [x0, .ty "dict"] S = .ok (.bl true) S) {y u : W} (hy : kOk y) (hu : vOk u) : ∃ T', TOk cs P left (m + 1) T' x0 x1 x2 ∧ uNct HW.w x0 y u (c :: T) = some (c :: T') := by
  rcases O.v0 with ⟨j, rfl, hj, jl⟩ | h
  · have hi : T[j]? = some T[j] := List.getElem?_eq_getElem jl
    obtain ⟨E, kk, e, K, l⟩ := O.nc j _ hi hj
    rw [e] at hi
    obtain ⟨k, hk⟩ := kOk_key hy
    obtain ⟨E', kk', K', l', h0⟩ := set_ok (st := c :: T) K (n := j + 1) hi hk hy hu (by omega)
    refine ⟨T.set j (nE E'), ⟨?_, ?_, ?_, fun i d a b => ?_, O.v1, O.v2, .inl ⟨j, rfl, hj, by rw [List.length_set]; exact jl⟩⟩, h0⟩
    · rw [List.getElem?_set_ne (by omega)]; exact O.t0
    · rw [List.getElem?_set_ne (by omega)]; exact O.t1
    · rw [List.getElem?_set_ne (by omega)]; exact O.t3
    · by_cases q : j = i
      · subst q
        rw [List.getElem?_set_self jl] at a
        cases a
        exact ⟨E', kk', rfl, K', by omega⟩
      · rw [List.getElem?_set_ne q] at a
        obtain ⟨E2, k2, e2', K2, l2⟩ := O.nc i d a b
        exact ⟨E2, k2, e2', K2, by omega⟩
  · obtain ⟨S, hS⟩ := hd
    rw [oth_no x0 h S] at hS
    cases hS
theorem TOk.ix (O : TOk cs P left m T x0 x1 x2) : oIx (.cell 4) (.int 0) (c :: T) = .ok x0 (c :: T) ∧ oIx (.cell 4) (.int 1) (c :: T) = .ok x1 (c :: T) ∧ oIx (.cell 4) (.int 2) (c :: T) = .ok x2 (c :: T) := by
  have s : SqW (c :: T) (.cell 4) [x0, x1, x2] := SqW.cell O.t3
  exact ⟨s.ix (by decide) rfl, s.ix (by decide) rfl, s.ix (by decide) rfl⟩
theorem TOk.u0 (O : TOk cs P left m T x0 x1 x2) (v : W) : uLst (.cell 4) (.int 0) v (c :: T) = some (c :: T.set 3 (.lst [v, x1, x2])) := by
  unfold uLst
  have : (c :: T)[4]? = some (.lst [x0, x1, x2]) := O.t3
  simp only [this]; rfl
theorem TOk.u1 (O : TOk cs P left m T x0 x1 x2) (v : W) : uLst (.cell 4) (.int 1) v (c :: T) = some (c :: T.set 3 (.lst [x0, v, x2])) := by
  unfold uLst
  have : (c :: T)[4]? = some (.lst [x0, x1, x2]) := O.t3
  simp only [this]; rfl
theorem TOk.u2 (O : TOk cs P left m T x0 x1 x2) (v : W) : uLst (.cell 4) (.int 2) v (c :: T) = some (c :: T.set 3 (.lst [x0, x1, v])) := by
  unfold uLst
  have : (c :: T)[4]? = some (.lst [x0, x1, x2]) := O.t3
  simp only [this]; rfl
end
end

end SL
namespace SL
open PySem PySem.Spec PyProof.Rows L2
/-! ## one change -/
section
variable [HW]
abbrev fL (S s t : W) (m0 : W) (v4 : Option W) (q : Int) (a : Nat) (v7 : Option W) : Fr := [some S, some (.cell 0), some (.lst [m0, s, t]), some (.cell 4), v4, some (.int q), some (.str (sg a)), v7]
theorem three_rows {a b c : List Int} (ha : a.length = 1 ∧ Bits a) (hb : b.length = 1 ∧ Bits b) (hc : c.length = 1 ∧ Bits c) (h1 : a ≠ b) (h2 : a ≠ c) (h3 : b ≠ c) : False := by
  have one : ∀ x : List Int, x.length = 1 ∧ Bits x → x = [0] ∨ x = [1] := fun x h => by
    obtain ⟨i, rfl⟩ := List.length_eq_one_iff.mp h.1
    rcases h.2 i List.mem_cons_self with rfl | rfl
    · exact .inl rfl
    · exact .inr rfl
  rcases one a ha with rfl | rfl <;> rcases one b hb with rfl | rfl <;> rcases one c hc with rfl | rfl <;> first | exact h1 rfl | exact h2 rfl | exact h3 rfl
theorem wide2 {cs : List Nat} {n : Nat} {P : List (List Int)} {s t : List Int} (B : BkOk cs n P s t) : 2 ≤ n := by
  rcases Nat.lt_or_ge n 2 with q | q
  · exfalso
    have n1 : n = 1 := by have := B.n1; omega
    subst n1
    have pl : 0 < P.length := by rw [B.len]; exact B.c1
    have hp := List.getElem_mem pl
    have nd := List.nodup_append.mp B.nd
    refine three_rows (B.row _ hp) B.rs B.rt (nd.2.2 _ hp s (by simp)) (nd.2.2 _ hp t (by simp)) ?_
    have := (List.nodup_cons.mp nd.2.1).1
    exact fun e => this (by rw [e]; simp)
  · exact q
theorem mno_ok : ∀ c ∈ ("mnopqrstuvw" : Str).cps.toList, okC c := by unfold okC; decide +kernel
section
variable {cs : List Nat} {n : Nat} {P left : List (List Int)} {s t : List Int} {m : Nat} {T : Sto} {x0 x1 x2 S : W} {c : Cel} {v4 v7 : Option W} {q : Int} {a : Nat}
/-- what a change leaves -/
def ChE (cs : List Nat) (P left : List (List Int)) (s t : List Int) (k : Nat) (S : W) (v4 : Option W) (q : Int) (a : Nat) (o : SOut) : Prop := ∃ c' T' x0' x1' x2' v7', Pool c' ∧ TOk cs P left k T' x0' x1' x2' ∧ o = .nx (fL S (bits s) (bits t) (.cell 2) v4 q a v7') (c' :: T')
theorem ct_at {k : Int} {st : Sto} : bOf (e2 oEq (eVar 5) (eC (.int k))) (fL S (bits s) (bits t) (.cell 2) v4 q a v7) st = .ok (decide (q = k)) st := by simp only [x_bOf, x_2, x_var, fg5, x_c, Out.bind_ok, x_eqI]
theorem ch_if {k : Int} {A B : SSem} {st : Sto} {Q : SOut → Prop} (h1 : q = k → Q (A (fL S (bits s) (bits t) (.cell 2) v4 q a v7) st)) (h2 : Q (B (fL S (bits s) (bits t) (.cell 2) v4 q a v7) st)) : Q (sIf (bOf (e2 oEq (eVar 5) (eC (.int k)))) A B (fL S (bits s) (bits t) (.cell 2) v4 q a v7) st) := by
  have ct := ct_at (s := s) (t := t) (S := S) (v4 := v4) (q := q) (a := a) (v7 := v7) (k := k) (st := st)
  rw [x_if, ct, Out.stm_ok]
  by_cases h : q = k
  · rw [decide_eq_true h, if_pos rfl]; exact h1 h
  · rw [decide_eq_false h, if_neg (by decide)]; exact h2
theorem mdl0 {st : Sto} : oIx (.lst [.cell 2, bits s, bits t]) (.int 0) st = .ok (.cell 2) st := x_ixL (by decide) rfl
theorem mdl1 {st : Sto} : oIx (.lst [.cell 2, bits s, bits t]) (.int 1) st = .ok (bits s) st := x_ixL (by decide) rfl
theorem mdl2 {st : Sto} : oIx (.lst [.cell 2, bits s, bits t]) (.int 2) st = .ok (bits t) st := x_ixL (by decide) rfl
theorem draw_at {k : Int} (hp : Pool c) (h : 0 < k) (h2 : k ≤ 100) : ∃ r c', Pool c' ∧ 0 ≤ r ∧ r < k ∧ ∀ rest, F_law_draw [.cell 0, .int k] (c :: rest) = .ok (.int r) (c' :: rest) := draw_ok hp h (log_small h (by omega))
theorem ch0 (B : BkOk cs n P s t) (O : TOk cs P left m T x0 x1 x2) (hp : Pool c) : ChE cs P left s t m S v4 q a ((sSub uLst (eCall F_law_wrong_row (aCons (eVar 1) (aCons (e2 oIx (eVar 2) (eC (.int 1))) (aNil)))) (eVar 3) (eC (.int 1))) (fL S (bits s) (bits t) (.cell 2) v4 q a v7) (c :: T)) := by
  obtain ⟨v, c1, p1, hv, ev⟩ := wrong_ok (r := s) hp (by rw [B.rs.1]; exact wide2 B) (by rw [B.rs.1]; exact B.n6)
  refine ⟨c1, _, _, _, _, v7, p1, O.set1 hv, ?_⟩
  unfold sSub
  simp only [x_call, x_aCons, x_aNil, x_2, x_var, fg1, fg2, fg3, x_c, Out.bind_ok, mdl1, ev, Out.stm_ok, O.u1]
theorem ch1 (B : BkOk cs n P s t) (O : TOk cs P left m T x0 x1 x2) (hp : Pool c) : ChE cs P left s t m S v4 q a ((sSub uLst (eCall F_law_wrong_row (aCons (eVar 1) (aCons (e2 oIx (eVar 2) (eC (.int 2))) (aNil)))) (eVar 3) (eC (.int 2))) (fL S (bits s) (bits t) (.cell 2) v4 q a v7) (c :: T)) := by
  obtain ⟨v, c1, p1, hv, ev⟩ := wrong_ok (r := t) hp (by rw [B.rt.1]; exact wide2 B) (by rw [B.rt.1]; exact B.n6)
  refine ⟨c1, _, _, _, _, v7, p1, O.set2 hv, ?_⟩
  unfold sSub
  simp only [x_call, x_aCons, x_aNil, x_2, x_var, fg1, fg2, fg3, x_c, Out.bind_ok, mdl2, ev, Out.stm_ok, O.u2]
theorem got {r : List Int} (O : TOk cs P left m T x0 x1 x2) (h : lookR cs P a = some r) (c : Cel) : oDGet (.cell 2) (.str (sg a)) (c :: T) = .ok (bits r) (c :: T) := dget_cell (st := c :: T) (k := 2) O.t1 h
theorem ch2 {r : List Int} (O : TOk cs P left m T x0 x1 x2) (h : lookR cs P a = some r) (hp : Pool c) : ChE cs P left s t m S v4 q a ((sSub uLst (e2 oIx (eN oLst (aCons (e2 oIx (eVar 2) (eC (.int 1))) (aCons (e2 oIx (eVar 2) (eC (.int 2))) (aCons (e2 oDGet (e2 oIx (eVar 2) (eC (.int 0))) (eVar 6)) (aNil))))) (eCall F_law_draw (aCons (eVar 1) (aCons (eC (.int 3)) (aNil))))) (eVar 3) (e2 oSub (eC (.int 2)) (eCall F_law_draw (aCons (eVar 1) (aCons (eC (.int 2)) (aNil)))))) (fL S (bits s) (bits t) (.cell 2) v4 q a v7) (c :: T)) := by
  obtain ⟨i, c1, p1, i0, i3, e1'⟩ := draw_at (k := 3) hp (by decide) (by decide)
  obtain ⟨v, hv, ev⟩ := ix_mem (ws := [bits s, bits t, bits r]) i0 (by simpa using i3)
  obtain ⟨j, c2, p2, j0, j2, e2'⟩ := draw_at (k := 2) p1 (by decide) (by decide)
  have vv : vOk v := by
    simp only [List.mem_cons, List.not_mem_nil, or_false] at hv
    rcases hv with rfl | rfl | rfl <;> exact vOk_bits _
  have l3 : ∀ x y z S, oLst [x, y, z] S = .ok (.lst [x, y, z]) S := fun x y z S => rfl
  have g := got O h c
  have main : ∀ st', uLst (.cell 4) (.int (2 - j)) v (c2 :: T) = some st' → (sSub uLst (e2 oIx (eN oLst (aCons (e2 oIx (eVar 2) (eC (.int 1))) (aCons (e2 oIx (eVar 2) (eC (.int 2))) (aCons (e2 oDGet (e2 oIx (eVar 2) (eC (.int 0))) (eVar 6)) (aNil))))) (eCall F_law_draw (aCons (eVar 1) (aCons (eC (.int 3)) (aNil))))) (eVar 3) (e2 oSub (eC (.int 2)) (eCall F_law_draw (aCons (eVar 1) (aCons (eC (.int 2)) (aNil)))))) (fL S (bits s) (bits t) (.cell 2) v4 q a v7) (c :: T) = .nx (fL S (bits s) (bits t) (.cell 2) v4 q a v7) st' := fun st' h => by
    unfold sSub
    simp only [x_call, x_aCons, x_aNil, x_N, x_2, x_var, fg1, fg2, fg3, fg6, x_c, Out.bind_ok, mdl0, mdl1, mdl2, g, l3, e1', ev, Out.stm_ok, e2', x_sub, h]
  rcases (show j = 0 ∨ j = 1 by omega) with rfl | rfl
  · exact ⟨c2, _, _, _, _, v7, p2, O.set2 vv, main _ (O.u2 v)⟩
  · exact ⟨c2, _, _, _, _, v7, p2, O.set1 vv, main _ (O.u1 v)⟩
theorem ch3 (O : TOk cs P left m T x0 x1 x2) (hp : Pool c) : ChE cs P left s t m S v4 q a ((sSub uLst (e2 oIx (eN oLst (aCons (eC .non) (aCons (eN oLst (aNil)) (aCons (eNDct0 HW.w) (aCons (eC (.int 0)) (aCons (eC (.str "a")) (aCons (eN oLst (aCons (e2 oIx (eVar 2) (eC (.int 0))) (aNil))) (aCons (eN oTup (aCons (eC (.str "a")) (aNil))) (aNil))))))))) (eCall F_law_draw (aCons (eVar 1) (aCons (eC (.int 7)) (aNil))))) (eVar 3) (eC (.int 0))) (fL S (bits s) (bits t) (.cell 2) v4 q a v7) (c :: T)) := by
  obtain ⟨i, c1, p1, i0, i7, e1'⟩ := draw_at (k := 7) hp (by decide) (by decide)
  obtain ⟨v, hv, ev⟩ := ix_mem (ws := [.non, .lst [], .cell (T.length + 1), .int 0, .str "a", .lst [.cell 2], .tup [.str "a"]]) i0 (by simpa using i7)
  have l4 := O.len
  have hv' : (∃ j, v = .cell (j + 1) ∧ (j = 2 ∨ 4 ≤ j) ∧ j < (T ++ [nE []]).length) ∨ v ∈ othX := by
    simp only [List.mem_cons, List.not_mem_nil, or_false] at hv
    rcases hv with rfl | rfl | rfl | rfl | rfl | rfl | rfl
    · exact .inr (by simp [othX])
    · exact .inr (by simp [othX])
    · exact .inl ⟨T.length, rfl, .inr l4, by rw [List.length_append]; exact Nat.lt_succ_self _⟩
    · exact .inr (by simp [othX])
    · exact .inr (by simp [othX])
    · exact .inr (by simp [othX])
    · exact .inr (by simp [othX])
  refine ⟨c1, _, _, _, _, v7, p1, O.app.set0 hv', ?_⟩
  have nd : ∀ fr, eNDct0 HW.w fr (c :: T) = .ok (.cell (T.length + 1)) (c :: (T ++ [nE []])) := fun fr => rfl
  have l7 : ∀ a b c d e f g S, oLst [a, b, c, d, e, f, g] S = .ok (.lst [a, b, c, d, e, f, g]) S := fun a b c d e f g S => rfl
  have l1 : ∀ a S, oLst [a] S = .ok (.lst [a]) S := fun a S => rfl
  have l0 : ∀ S, oLst [] S = .ok (.lst []) S := fun S => rfl
  have t1 : ∀ a S, oTup [a] S = .ok (.tup [a]) S := fun a S => rfl
  unfold sSub
  simp only [x_call, x_aCons, x_aNil, x_N, x_2, x_var, fg1, fg2, fg3, x_c, Out.bind_ok, mdl0, nd, l7, l1, l0, t1, e1', ev, Out.stm_ok, O.app.u0]
theorem ch4 {r : List Int} (O : TOk cs P left m T x0 x1 x2) (h : lookR cs P a = some r) (hp : Pool c) (hm : m ≤ 80) (hd : ∃ S, oIsiN [x0, .ty "dict"] S = .ok (.bl true) S) : ChE cs P left s t (m + 11) S v4 q a ((sSub (uNct HW.w) (e2 oDGet (e2 oIx (eVar 2) (eC (.int 0))) (eVar 6)) (e2 oIx (eVar 3) (eC (.int 0))) (e2 oIx (eN oLst (aCons (eC (.str "")) (aCons (eC (.str "A")) (aCons (eC (.str "ab")) (aCons (eC (.int 0)) (aCons (eC .non) (aCons (eN oTup (aNil)) (aCons (eC (.str "-")) (aCons (eC (.bl true)) (aNil)))))))))) (eCall F_law_draw (aCons (eVar 1) (aCons (eC (.int 8)) (aNil)))))) (fL S (bits s) (bits t) (.cell 2) v4 q a v7) (c :: T)) := by
  obtain ⟨i, c1, p1, i0, i8, e1'⟩ := draw_at (k := 8) hp (by decide) (by decide)
  obtain ⟨v, hv, ev⟩ := ix_mem (ws := odK) i0 (by simpa [odK] using i8)
  obtain ⟨T', O', ep⟩ := O.put c1 (by omega) hd (y := v) (.inr hv) (vOk_bits r)
  refine ⟨c1, T', _, _, _, v7, p1, O'.mono (by omega), ?_⟩
  have g := got O h c
  have ol : ∀ S, oLst [.str "", .str "A", .str "ab", .int 0, .non, .tup [], .str "-", .bl true] S = .ok (.lst odK) S := fun S => rfl
  have t0 : ∀ S, oTup [] S = .ok (.tup []) S := fun S => rfl
  unfold sSub
  simp only [x_call, x_aCons, x_aNil, x_N, x_2, x_var, fg1, fg2, fg3, fg6, x_c, Out.bind_ok, mdl0, g, Out.stm_ok, O.ix.1, t0, ol, e1', ev, ep]
theorem ch5 {r : List Int} (hn : 2 ≤ r.length ∧ r.length ≤ 6) (ha : okC a) (O : TOk cs P left m T x0 x1 x2) (h : lookR cs P a = some r) (hp : Pool c) (hm : m ≤ 80) (hd : ∃ S, oIsiN [x0, .ty "dict"] S = .ok (.bl true) S) : ChE cs P left s t (m + 11) S v4 q a ((sSub (uNct HW.w) (eCall F_law_wrong_row (aCons (eVar 1) (aCons (e2 oDGet (e2 oIx (eVar 2) (eC (.int 0))) (eVar 6)) (aNil)))) (e2 oIx (eVar 3) (eC (.int 0))) (eVar 6)) (fL S (bits s) (bits t) (.cell 2) v4 q a v7) (c :: T)) := by
  obtain ⟨v, c1, p1, hv, ev⟩ := wrong_ok (r := r) hp hn.1 hn.2
  obtain ⟨T', O', ep⟩ := O.put c1 (by omega) hd (y := .str (sg a)) (.inl ⟨a, ha, rfl⟩) hv
  refine ⟨c1, T', _, _, _, v7, p1, O'.mono (by omega), ?_⟩
  have g := got O h c
  unfold sSub
  simp only [x_call, x_aCons, x_aNil, x_N, x_2, x_var, fg1, fg2, fg3, fg6, x_c, Out.bind_ok, mdl0, g, Out.stm_ok, O.ix.1, ev, ep]
theorem ch6 {r : List Int} (O : TOk cs P left m T x0 x1 x2) (h : lookR cs P a = some r) (hp : Pool c) (hm : m ≤ 70) (hd : ∃ S, oIsiN [x0, .ty "dict"] S = .ok (.bl true) S) : ChE cs P left s t (m + 11) S v4 q a ((sFor (iStrF (eC (.str "mnopqrstuvw"))) (gNm 7) (sSub (uNct HW.w) (e2 oDGet (e2 oIx (eVar 2) (eC (.int 0))) (eVar 6)) (e2 oIx (eVar 3) (eC (.int 0))) (eVar 7))) (fL S (bits s) (bits t) (.cell 2) v4 q a v7) (c :: T)) := by
  have al : (sgnW "mnopqrstuvw").length = 11 := by decide +kernel
  obtain ⟨fr', st', e1', T', u, rfl, rfl, O'⟩ := x_for (f := iStrF (eC (.str "mnopqrstuvw"))) (g := gNm 7) (b := (sSub (uNct HW.w) (e2 oDGet (e2 oIx (eVar 2) (eC (.int 0))) (eVar 6)) (e2 oIx (eVar 3) (eC (.int 0))) (eVar 7))) (fr := fL S (bits s) (bits t) (.cell 2) v4 q a v7) (st := c :: T) (st1 := c :: T) (x := .non) (all := sgnW "mnopqrstuvw") (by
      unfold iStrF
      simp only [x_c, Out.bind_ok]
      rw [if_pos (by decide +kernel)])
    (fun i fr st => ∃ T' u, fr = fL S (bits s) (bits t) (.cell 2) v4 q a u ∧ st = c :: T' ∧ TOk cs P left (m + i) T' x0 x1 x2) ⟨T, v7, rfl, rfl, O⟩ (fun _ _ _ _ => trivial) (by
      rintro i fr st w ⟨T1, u, rfl, rfl, O1⟩ hi
      have il : i < 11 := by rw [← al]; exact (List.getElem?_eq_some_iff.mp hi).1
      obtain ⟨b, hb, rfl⟩ := sgnW_at hi
      have ob : okC b := mno_ok b (by rw [← Array.getElem?_toList] at hb; exact List.mem_of_getElem? hb)
      obtain ⟨T2, O2, ep⟩ := O1.put c (by omega) hd (y := .str (sg b)) (.inl ⟨b, ob, rfl⟩) (vOk_bits r)
      refine ⟨fL S (bits s) (bits t) (.cell 2) v4 q a (some (.str (sg b))), fL S (bits s) (bits t) (.cell 2) v4 q a (some (.str (sg b))), c :: T2, rfl, .inl ?_, T2, _, rfl, rfl, O2⟩
      have g := got O1 h c
      unfold sSub
      simp only [x_2, x_var, fg2, fg3, fg6, fg7, x_c, Out.bind_ok, mdl0, g, Out.stm_ok, O1.ix.1, ep])
  rw [al] at O'
  exact ⟨c, T', x0, x1, x2, u, hp, O', e1'⟩
theorem ch7 {r : List Int} (O : TOk cs P left m T x0 x1 x2) (h : lookR cs P a = some r) (hp : Pool c) (hm : m ≤ 80) (hd : ∃ S, oIsiN [x0, .ty "dict"] S = .ok (.bl true) S) : ChE cs P left s t (m + 11) S v4 q a ((sSub (uNct HW.w) (e2 oDGet (e2 oIx (eVar 2) (eC (.int 0))) (eVar 6)) (e2 oIx (eVar 3) (eC (.int 0))) (eC (.str "z"))) (fL S (bits s) (bits t) (.cell 2) v4 q a v7) (c :: T)) := by
  have oz : okC 122 := by unfold okC; decide +kernel
  obtain ⟨T', O', ep⟩ := O.put c (by omega) hd (y := .str "z") (.inl ⟨122, oz, rfl⟩) (vOk_bits r)
  refine ⟨c, T', _, _, _, v7, hp, O'.mono (by omega), ?_⟩
  have g := got O h c
  unfold sSub
  simp only [x_2, x_var, fg2, fg3, fg6, x_c, Out.bind_ok, mdl0, g, Out.stm_ok, O.ix.1, ep]
theorem ch8 (ha : okC a) (O : TOk cs P left m T x0 x1 x2) (hp : Pool c) (hm : m ≤ 80) (hd : ∃ S, oIsiN [x0, .ty "dict"] S = .ok (.bl true) S) : ChE cs P left s t (m + 11) S v4 q a ((sSub (uNct HW.w) (e2 oIx (eN oLst (aCons (e2 oIx (eVar 2) (eC (.int 1))) (aCons (e2 oIx (eVar 2) (eC (.int 2))) (aNil)))) (eCall F_law_draw (aCons (eVar 1) (aCons (eC (.int 2)) (aNil))))) (e2 oIx (eVar 3) (eC (.int 0))) (eVar 6)) (fL S (bits s) (bits t) (.cell 2) v4 q a v7) (c :: T)) := by
  obtain ⟨i, c1, p1, i0, i2, e1'⟩ := draw_at (k := 2) hp (by decide) (by decide)
  obtain ⟨v, hv, ev⟩ := ix_mem (ws := [bits s, bits t]) i0 (by simpa using i2)
  have vv : vOk v := by
    simp only [List.mem_cons, List.not_mem_nil, or_false] at hv
    rcases hv with rfl | rfl <;> exact vOk_bits _
  obtain ⟨T', O', ep⟩ := O.put c1 (by omega) hd (y := .str (sg a)) (.inl ⟨a, ha, rfl⟩) vv
  refine ⟨c1, T', _, _, _, v7, p1, O'.mono (by omega), ?_⟩
  have l2 : ∀ x y S, oLst [x, y] S = .ok (.lst [x, y]) S := fun x y S => rfl
  unfold sSub
  simp only [x_call, x_aCons, x_aNil, x_N, x_2, x_var, fg1, fg2, fg3, fg6, x_c, Out.bind_ok, mdl1, mdl2, l2, e1', ev, Out.stm_ok, O.ix.1, ep]
theorem ChE.mono {k j : Nat} {o : SOut} (h : ChE cs P left s t k S v4 q a o) (l : k ≤ j) : ChE cs P left s t j S v4 q a o := by
  obtain ⟨c', T', x0', x1', x2', v7', p, O, e⟩ := h
  exact ⟨c', T', x0', x1', x2', v7', p, O.mono l, e⟩
theorem change (B : BkOk cs n P s t) (ha : a ∈ cs) (O : TOk cs P left m T x0 x1 x2) (hp : Pool c) (hm : m ≤ 70) : ChE cs P left s t (m + 11) S v4 q a ((sIf (bOf (e2 oEq (eVar 5) (eC (.int 0)))) (sSub uLst (eCall F_law_wrong_row (aCons (eVar 1) (aCons (e2 oIx (eVar 2) (eC (.int 1))) (aNil)))) (eVar 3) (eC (.int 1))) (sIf (bOf (e2 oEq (eVar 5) (eC (.int 1)))) (sSub uLst (eCall F_law_wrong_row (aCons (eVar 1) (aCons (e2 oIx (eVar 2) (eC (.int 2))) (aNil)))) (eVar 3) (eC (.int 2))) (sIf (bOf (e2 oEq (eVar 5) (eC (.int 2)))) (sSub uLst (e2 oIx (eN oLst (aCons (e2 oIx (eVar 2) (eC (.int 1))) (aCons (e2 oIx (eVar 2) (eC (.int 2))) (aCons (e2 oDGet (e2 oIx (eVar 2) (eC (.int 0))) (eVar 6)) (aNil))))) (eCall F_law_draw (aCons (eVar 1) (aCons (eC (.int 3)) (aNil))))) (eVar 3) (e2 oSub (eC (.int 2)) (eCall F_law_draw (aCons (eVar 1) (aCons (eC (.int 2)) (aNil)))))) (sIf (bOf (e2 oEq (eVar 5) (eC (.int 3)))) (sSub uLst (e2 oIx (eN oLst (aCons (eC .non) (aCons (eN oLst (aNil)) (aCons (eNDct0 HW.w) (aCons (eC (.int 0)) (aCons (eC (.str "a")) (aCons (eN oLst (aCons (e2 oIx (eVar 2) (eC (.int 0))) (aNil))) (aCons (eN oTup (aCons (eC (.str "a")) (aNil))) (aNil))))))))) (eCall F_law_draw (aCons (eVar 1) (aCons (eC (.int 7)) (aNil))))) (eVar 3) (eC (.int 0))) (sIf (bOf (eN oIsiN (aCons (e2 oIx (eVar 3) (eC (.int 0))) (aCons (eC (.ty "dict")) (aNil))))) (sIf (bOf (e2 oEq (eVar 5) (eC (.int 4)))) (sSub (uNct HW.w) (e2 oDGet (e2 oIx (eVar 2) (eC (.int 0))) (eVar 6)) (e2 oIx (eVar 3) (eC (.int 0))) (e2 oIx (eN oLst (aCons (eC (.str "")) (aCons (eC (.str "A")) (aCons (eC (.str "ab")) (aCons (eC (.int 0)) (aCons (eC .non) (aCons (eN oTup (aNil)) (aCons (eC (.str "-")) (aCons (eC (.bl true)) (aNil)))))))))) (eCall F_law_draw (aCons (eVar 1) (aCons (eC (.int 8)) (aNil)))))) (sIf (bOf (e2 oEq (eVar 5) (eC (.int 5)))) (sSub (uNct HW.w) (eCall F_law_wrong_row (aCons (eVar 1) (aCons (e2 oDGet (e2 oIx (eVar 2) (eC (.int 0))) (eVar 6)) (aNil)))) (e2 oIx (eVar 3) (eC (.int 0))) (eVar 6)) (sIf (bOf (e2 oEq (eVar 5) (eC (.int 6)))) (sFor (iStrF (eC (.str "mnopqrstuvw"))) (gNm 7) (sSub (uNct HW.w) (e2 oDGet (e2 oIx (eVar 2) (eC (.int 0))) (eVar 6)) (e2 oIx (eVar 3) (eC (.int 0))) (eVar 7))) (sIf (bOf (e2 oEq (eVar 5) (eC (.int 7)))) (sSub (uNct HW.w) (e2 oDGet (e2 oIx (eVar 2) (eC (.int 0))) (eVar 6)) (e2 oIx (eVar 3) (eC (.int 0))) (eC (.str "z"))) (sSub (uNct HW.w) (e2 oIx (eN oLst (aCons (e2 oIx (eVar 2) (eC (.int 1))) (aCons (e2 oIx (eVar 2) (eC (.int 2))) (aNil)))) (eCall F_law_draw (aCons (eVar 1) (aCons (eC (.int 2)) (aNil))))) (e2 oIx (eVar 3) (eC (.int 0))) (eVar 6)))))) (sNil)))))) (fL S (bits s) (bits t) (.cell 2) v4 q a v7) (c :: T)) := by
  obtain ⟨r, lr, mr⟩ := look_mem (asc_nodup B.asc) B.len ha
  have oc := B.ok a ha
  have rl : 2 ≤ r.length ∧ r.length ≤ 6 := by rw [(B.row r mr).1]; exact ⟨wide2 B, B.n6⟩
  have up : m ≤ m + 11 := Nat.le_add_right _ _
  refine ch_if (fun _ => (ch0 B O hp).mono up) ?_
  refine ch_if (fun _ => (ch1 B O hp).mono up) ?_
  refine ch_if (fun _ => (ch2 O lr hp).mono up) ?_
  refine ch_if (fun _ => (ch3 O hp).mono up) ?_
  rcases O.v0 with ⟨j, hx, hj, jl⟩ | h
  · have hi : T[j]? = some T[j] := List.getElem?_eq_getElem jl
    obtain ⟨E, kk, e, K, l⟩ := O.nc j _ hi hj
    rw [e] at hi
    have isd : oIsiN [x0, .ty "dict"] (c :: T) = .ok (.bl true) (c :: T) := by rw [hx]; exact isd_nE (st := c :: T) (n := j + 1) hi
    have hd : ∃ S, oIsiN [x0, .ty "dict"] S = .ok (.bl true) S := ⟨_, isd⟩
    have ct : bOf (eN oIsiN (aCons (e2 oIx (eVar 3) (eC (.int 0))) (aCons (eC (.ty "dict")) (aNil)))) (fL S (bits s) (bits t) (.cell 2) v4 q a v7) (c :: T) = .ok true (c :: T) := by
      simp only [x_bOf, x_N, x_aCons, x_aNil, x_2, x_var, fg3, x_c, Out.bind_ok, O.ix.1, isd]
    rw [x_if, ct, Out.stm_ok, if_pos rfl]
    refine ch_if (fun _ => ch4 O lr hp (by omega) hd) ?_
    refine ch_if (fun _ => ch5 rl oc O lr hp (by omega) hd) ?_
    refine ch_if (fun _ => ch6 O lr hp (by omega) hd) ?_
    exact ch_if (fun _ => ch7 O lr hp (by omega) hd) (ch8 oc O hp (by omega) hd)
  · have isd := oth_no x0 h (c :: T)
    have ct : bOf (eN oIsiN (aCons (e2 oIx (eVar 3) (eC (.int 0))) (aCons (eC (.ty "dict")) (aNil)))) (fL S (bits s) (bits t) (.cell 2) v4 q a v7) (c :: T) = .ok false (c :: T) := by
      simp only [x_bOf, x_N, x_aCons, x_aNil, x_2, x_var, fg3, x_c, Out.bind_ok, O.ix.1, isd]
    rw [x_if, ct, Out.stm_ok, if_neg (by decide)]
    exact ⟨c, T, x0, x1, x2, v7, hp, O.mono up, rfl⟩
end
theorem law_true (ns : List Int) (h63 : ns.length ≤ 63) (hb : ∀ z ∈ ns, Builtin.Int.intBits z ≤ 1048576) : ∃ st, F_law [.ro (ns.map W.int)] [] = .ok (.bl true) st := by
  obtain ⟨c0, p0, e0'⟩ := pool_ok ns
  obtain ⟨cs, n, P, s, t, c1, left, p1, B, e1'⟩ := drawn_ok p0
  obtain ⟨d, hd⟩ : ∃ d : Dn, d = cs.zip P := ⟨_, rfl⟩
  have f1 : d.map (·.1) = cs := by rw [hd, List.map_fst_zip (by rw [B.len]; exact Nat.le_refl _)]
  have f2 : d.map (·.2) = P := by rw [hd, List.map_snd_zip (by rw [B.len]; exact Nat.le_refl _)]
  have dm : ∀ p ∈ d, p.1 ∈ cs ∧ p.2 ∈ P := fun p hp => ⟨by rw [← f1]; exact List.mem_map_of_mem hp, by rw [← f2]; exact List.mem_map_of_mem hp⟩
  have K : EOk (dE d) (d.map fun p => .text (sg p.1)) := by
    refine ⟨dE_keys d, ?_, fun e he => ?_, fun e he => ?_⟩
    · rw [show (d.map fun p : Nat × List Int => NestedKey.text (sg p.1)) = (d.map (·.1)).map fun c => NestedKey.text (sg c) by rw [List.map_map]; rfl, f1, List.nodup_iff_pairwise_ne, List.pairwise_map]
      refine (asc_nodup B.asc).imp fun h e => h ?_
      injection e with e
      exact sg_eq.mp e
    · obtain ⟨p, hp, rfl⟩ := List.mem_map.mp he
      exact .inl ⟨p.1, B.ok _ (dm p hp).1, rfl⟩
    · obtain ⟨p, hp, rfl⟩ := List.mem_map.mp he
      exact vOk_bits _
  have dl : (dE d).length = cs.length := by rw [List.length_map, ← f1, List.length_map]
  obtain ⟨T0, hT0⟩ : ∃ T0 : Sto, T0 = [.lst (bitsL left), .dct (sgW cs) (bitsL P), nE (dE d), .lst [.cell 3, bits s, bits t]] := ⟨_, rfl⟩
  have O0 : TOk cs P left 10 T0 (.cell 3) (bits s) (bits t) := by
    subst hT0
    refine ⟨rfl, rfl, rfl, fun i c a b => ?_, vOk_bits s, vOk_bits t, .inl ⟨2, rfl, .inl rfl, by simp⟩⟩
    rcases b with rfl | b
    · exact ⟨dE d, _, (Option.some.inj a).symm, K, by rw [dl]; exact B.c10⟩
    · rw [List.getElem?_eq_none (by simpa using b)] at a; cases a
  -- the model is a book
  have g0 : patB (dE d) = true := by
    have l1 : 1 ≤ d.length := by rw [List.length_map] at dl; rw [dl]; exact B.c1
    have wd : wid (dE d) = n := by
      cases hdd : d with
      | nil => rw [hdd] at l1; simp at l1
      | cons p d' =>
        show (itemsW (bits p.2)).length = n
        have := (B.row p.2 (dm p (by rw [hdd]; exact List.mem_cons_self)).2).1
        rw [← this]
        show (p.2.map W.int).length = _
        rw [List.length_map]
    unfold patB
    rw [wd, dl, decide_eq_true B.c1, decide_eq_true B.c10, decide_eq_true B.n1, decide_eq_true B.n6, Bool.true_and, Bool.true_and, Bool.true_and, List.all_eq_true]
    intro e he
    obtain ⟨p, hp, rfl⟩ := List.mem_map.mp he
    obtain ⟨h1, h2⟩ := dm p hp
    unfold goodB rowK
    rw [sgB_sg (B.ok _ h1), bits_row (B.row _ h2).2, Bool.true_and, Bool.true_and, decide_eq_true_eq]
    rw [← (B.row _ h2).1]
    show (p.2.map W.int).length = _
    rw [List.length_map]
  have wd : wid (dE d) = n := by
    have l1 : 1 ≤ d.length := by rw [List.length_map] at dl; rw [dl]; exact B.c1
    cases hdd : d with
    | nil => rw [hdd] at l1; simp at l1
    | cons p d' =>
      show (itemsW (bits p.2)).length = n
      have := (B.row p.2 (dm p (by rw [hdd]; exact List.mem_cons_self)).2).1
      rw [← this]
      show (p.2.map W.int).length = _
      rw [List.length_map]
  have rk : ∀ r : List Int, r.length = n ∧ Bits r → rowK n (bits r) = true := fun r h => by
    unfold rowK
    rw [bits_row h.2, Bool.true_and, decide_eq_true_eq, ← h.1]
    show (r.map W.int).length = _
    rw [List.length_map]
  have v0 : verd (dE d) (bits s) (bits t) = "made" := by
    unfold verd
    rw [if_pos g0, wd, if_pos (rk s B.rs), if_pos (rk t B.rt), if_pos]
    have : (dE d).map (·.2) ++ [bits s, bits t] = (P ++ [s, t]).map bits := by
      rw [List.map_append, ← f2, List.map_map, List.map_map]; rfl
    rw [this]
    exact nodup_bits.mpr B.nd
  have m0 : F_law_told [.cell 3, bits s, bits t] (c1 :: T0) = .ok (.str "made") (c1 :: T0) := by
    rw [← v0]
    exact told_ok (st := c1 :: T0) (n := 3) K (by rw [dl]; have := B.c10; omega) (by rw [hT0]; rfl) O0.v1.1 O0.v2.1 (O0.old p1)
  obtain ⟨r, c2, p2, r0, r3, e2'⟩ := draw_at (k := 3) p1 (by decide) (by decide)
  obtain ⟨k, hk, k3⟩ : ∃ k : Nat, 1 + r = (k : Int) ∧ k ≤ 3 := ⟨(1 + r).toNat, by omega, by omega⟩
  obtain ⟨S0, hS⟩ : ∃ S0 : W, S0 = .ro (ns.map W.int) := ⟨_, rfl⟩
  have it : iRng rg1 (aCons (e2 oAdd (eC (.int 1)) (eCall F_law_draw (aCons (eVar 1) (aCons (eC (.int 3)) (aNil))))) (aNil)) [some S0, some (.cell 0), some (mdl 2 s t), some (.cell 4), none, none, none, none] (c1 :: T0) = .ok (.non, rngW 0 1 k) (c2 :: T0) := by
    have := x_rng1 (l := aCons (e2 oAdd (eC (.int 1)) (eCall F_law_draw (aCons (eVar 1) (aCons (eC (.int 3)) (aNil))))) (aNil)) (fr := [some S0, some (.cell 0), some (mdl 2 s t), some (.cell 4), none, none, none, none]) (st := c1 :: T0) (st1 := c2 :: T0) (j := (k : Int)) (by simp only [x_2, x_aCons, x_call, x_var, fg1, x_c, x_aNil, Out.bind_ok, e2', x_add, hk]) (by omega) (by omega)
    rw [Int.toNat_natCast] at this
    exact this
  have rl : (rngW 0 1 k).length = k := by unfold rngW; simp
  obtain ⟨fr', st', ef, u4, u5, u6, u7, c', T', x0, x1, x2, rfl, rfl, p', O'⟩ := x_for it (g := gNm 4) (b := (sSeq (sAsg (eCall F_law_draw (aCons (eVar 1) (aCons (eC (.int 9)) (aNil)))) (gNm 5)) (sSeq (sAsg (e2 oIx (eN oSortS (aCons (eN oListD (aCons (e2 oIx (eVar 2) (eC (.int 0))) (aNil))) (aNil))) (eCall F_law_draw (aCons (eVar 1) (aCons (eN oDLen (aCons (e2 oIx (eVar 2) (eC (.int 0))) (aNil))) (aNil))))) (gNm 6)) (sSeq (sIf (bOf (e2 oEq (eVar 5) (eC (.int 0)))) (sSub uLst (eCall F_law_wrong_row (aCons (eVar 1) (aCons (e2 oIx (eVar 2) (eC (.int 1))) (aNil)))) (eVar 3) (eC (.int 1))) (sIf (bOf (e2 oEq (eVar 5) (eC (.int 1)))) (sSub uLst (eCall F_law_wrong_row (aCons (eVar 1) (aCons (e2 oIx (eVar 2) (eC (.int 2))) (aNil)))) (eVar 3) (eC (.int 2))) (sIf (bOf (e2 oEq (eVar 5) (eC (.int 2)))) (sSub uLst (e2 oIx (eN oLst (aCons (e2 oIx (eVar 2) (eC (.int 1))) (aCons (e2 oIx (eVar 2) (eC (.int 2))) (aCons (e2 oDGet (e2 oIx (eVar 2) (eC (.int 0))) (eVar 6)) (aNil))))) (eCall F_law_draw (aCons (eVar 1) (aCons (eC (.int 3)) (aNil))))) (eVar 3) (e2 oSub (eC (.int 2)) (eCall F_law_draw (aCons (eVar 1) (aCons (eC (.int 2)) (aNil)))))) (sIf (bOf (e2 oEq (eVar 5) (eC (.int 3)))) (sSub uLst (e2 oIx (eN oLst (aCons (eC .non) (aCons (eN oLst (aNil)) (aCons (eNDct0 HW.w) (aCons (eC (.int 0)) (aCons (eC (.str "a")) (aCons (eN oLst (aCons (e2 oIx (eVar 2) (eC (.int 0))) (aNil))) (aCons (eN oTup (aCons (eC (.str "a")) (aNil))) (aNil))))))))) (eCall F_law_draw (aCons (eVar 1) (aCons (eC (.int 7)) (aNil))))) (eVar 3) (eC (.int 0))) (sIf (bOf (eN oIsiN (aCons (e2 oIx (eVar 3) (eC (.int 0))) (aCons (eC (.ty "dict")) (aNil))))) (sIf (bOf (e2 oEq (eVar 5) (eC (.int 4)))) (sSub (uNct HW.w) (e2 oDGet (e2 oIx (eVar 2) (eC (.int 0))) (eVar 6)) (e2 oIx (eVar 3) (eC (.int 0))) (e2 oIx (eN oLst (aCons (eC (.str "")) (aCons (eC (.str "A")) (aCons (eC (.str "ab")) (aCons (eC (.int 0)) (aCons (eC .non) (aCons (eN oTup (aNil)) (aCons (eC (.str "-")) (aCons (eC (.bl true)) (aNil)))))))))) (eCall F_law_draw (aCons (eVar 1) (aCons (eC (.int 8)) (aNil)))))) (sIf (bOf (e2 oEq (eVar 5) (eC (.int 5)))) (sSub (uNct HW.w) (eCall F_law_wrong_row (aCons (eVar 1) (aCons (e2 oDGet (e2 oIx (eVar 2) (eC (.int 0))) (eVar 6)) (aNil)))) (e2 oIx (eVar 3) (eC (.int 0))) (eVar 6)) (sIf (bOf (e2 oEq (eVar 5) (eC (.int 6)))) (sFor (iStrF (eC (.str "mnopqrstuvw"))) (gNm 7) (sSub (uNct HW.w) (e2 oDGet (e2 oIx (eVar 2) (eC (.int 0))) (eVar 6)) (e2 oIx (eVar 3) (eC (.int 0))) (eVar 7))) (sIf (bOf (e2 oEq (eVar 5) (eC (.int 7)))) (sSub (uNct HW.w) (e2 oDGet (e2 oIx (eVar 2) (eC (.int 0))) (eVar 6)) (e2 oIx (eVar 3) (eC (.int 0))) (eC (.str "z"))) (sSub (uNct HW.w) (e2 oIx (eN oLst (aCons (e2 oIx (eVar 2) (eC (.int 1))) (aCons (e2 oIx (eVar 2) (eC (.int 2))) (aNil)))) (eCall F_law_draw (aCons (eVar 1) (aCons (eC (.int 2)) (aNil))))) (e2 oIx (eVar 3) (eC (.int 0))) (eVar 6)))))) (sNil)))))) (sIf (bOf (e2 oNe (eCall F_law_told (aCons (e2 oIx (eVar 3) (eC (.int 0))) (aCons (e2 oIx (eVar 3) (eC (.int 1))) (aCons (e2 oIx (eVar 3) (eC (.int 2))) (aNil))))) (eCall F_law_due (aCons (e2 oIx (eVar 3) (eC (.int 0))) (aCons (e2 oIx (eVar 3) (eC (.int 1))) (aCons (e2 oIx (eVar 3) (eC (.int 2))) (aNil))))))) (sRet (eC (.bl false))) (sNil)))))) (fun i fr st => ∃ u4 u5 u6 u7 c T x0 x1 x2, fr = [some S0, some (.cell 0), some (mdl 2 s t), some (.cell 4), u4, u5, u6, u7] ∧ st = c :: T ∧ Pool c ∧ TOk cs P left (10 + 11 * i) T x0 x1 x2)
    ⟨none, none, none, none, c2, T0, _, _, _, rfl, rfl, p2, O0⟩ (fun _ _ _ _ => trivial) (by
      rintro i fr st u ⟨u4, u5, u6, u7, c, T, x0, x1, x2, rfl, rfl, hc, O⟩ hu
      have ik : i < k := by
        have := (List.getElem?_eq_some_iff.mp hu).1
        rw [rl] at this; exact this
      obtain ⟨q, c3, p3, q0, q9, e3'⟩ := draw_at (k := 9) hc (by decide) (by decide)
      have c10 := B.c10
      have c1' := B.c1
      obtain ⟨j, c4, p4, j0, jl, e4'⟩ := draw_at (k := (cs.length : Int)) p3 (by omega) (by omega)
      have jn : j.toNat < cs.length := by omega
      have hj : cs[j.toNat]? = some cs[j.toNat] := List.getElem?_eq_getElem jn
      have ja : cs[j.toNat] ∈ cs := List.getElem_mem jn
      obtain ⟨c5, T5, y0, y1, y2, w7, p5, O5, e5'⟩ := change (S := S0) (v4 := some u) (v7 := u7) (q := q) B ja O p4 (by omega)
      obtain ⟨x, sx, tx, dx⟩ := O5.both p5 (by omega)
      refine ⟨[some S0, some (.cell 0), some (mdl 2 s t), some (.cell 4), some u, u5, u6, u7], fL S0 (bits s) (bits t) (.cell 2) (some u) q cs[j.toNat] w7, c5 :: T5, rfl, .inl ?_, _, _, _, _, c5, T5, y0, y1, y2, rfl, rfl, p5, by
        have : 10 + 11 * (i + 1) = 10 + 11 * i + 11 := by omega
        rw [this]; exact O5⟩
      refine asg_to (w := .int q) (st1 := c3 :: T) (by simp only [x_call, x_aCons, x_var, fg1, x_c, x_aNil, Out.bind_ok, e3']) ?_
      simp only [fs5]
      have ld : oListD [.cell 2] (c3 :: T) = .ok (.lst (sgW cs)) (c3 :: T) := by
        unfold oListD
        simp only [dctKs_cell (st := c3 :: T) (k := 2) O.t1, keys_sg]
      have so : oSortS [.lst (sgW cs)] (c3 :: T) = .ok (.lst (sgW cs)) (c3 :: T) := by
        unfold oSortS
        have : (lstW (c3 :: T) (.lst (sgW cs))).bind strsW = some (cs.map sg) := strsW_sg cs
        simp only [this]
        rw [if_pos (by rw [List.length_map]; omega), sort_asc B.asc]
        unfold sgW; rw [List.map_map]; rfl
      have le : oDLen [.cell 2] (c3 :: T) = .ok (.int (cs.length : Nat)) (c3 :: T) := oDLen_ok (st := c3 :: T) (k := 2) O.t1 B.len
      have ix : oIx (.lst (sgW cs)) (.int j) (c4 :: T) = .ok (.str (sg cs[j.toNat])) (c4 :: T) := x_ixL j0 (sgW_at hj)
      refine asg_to (w := .str (sg cs[j.toNat])) (st1 := c4 :: T) (by simp only [x_2, x_N, x_call, x_aCons, x_var, fg1, fg2, x_c, x_aNil, Out.bind_ok, ix_m0, ld, so, le, e4', ix]) ?_
      simp only [fs6]
      refine seq_to e5' ?_
      have ne := eqS (st := c5 :: T5) sx sx
      rw [show (x == x) = true by simp] at ne
      refine if_end ?_
      simp only [x_bOf, x_2, x_call, x_aCons, x_var, fg3, x_c, x_aNil, Out.bind_ok, O5.ix.1, O5.ix.2.1, O5.ix.2.2, tx, dx, ne, Bool.not_true])
  refine ⟨[], mk_rt2 (st := []) (ex := c' :: T') ?_ (fun n f => rfl) rfl⟩
  show B_law [some (.ro (ns.map W.int)), none, none, none, none, none, none, none] [] = _
  rw [← hS] at e0' ⊢
  unfold B_law
  refine asg_to (w := .cell 0) (st1 := [c0]) (by simp only [x_call, x_aCons, x_var, fg0, x_aNil, Out.bind_ok, e0']) ?_
  simp only [fs1]
  refine asg_to (w := mdl 2 s t) (st1 := [c1, .lst (bitsL left), .dct (sgW cs) (bitsL P)]) (by simp only [x_call, x_aCons, x_var, fg1, x_aNil, Out.bind_ok, e1']) ?_
  simp only [fs2]
  have dc : oDictC [.cell 2] [c1, .lst (bitsL left), .dct (sgW cs) (bitsL P)] = .ok (.cell 3) [c1, .lst (bitsL left), .dct (sgW cs) (bitsL P), .dct (sgW cs) (bitsL P)] := by
    unfold oDictC
    simp only [dctKs_cell (st := [c1, .lst (bitsL left), .dct (sgW cs) (bitsL P)]) (k := 2) rfl, keys_sg]
    rfl
  have nd : nE (dE d) = .nct false HW.w (sgW cs) (bitsL P) := by rw [nE_dE, f1, f2]
  have as : eAsN HW.w (eN oDictC (aCons (e2 oIx (eVar 2) (eC (.int 0))) (aNil))) [some S0, some (.cell 0), some (mdl 2 s t), none, none, none, none, none] [c1, .lst (bitsL left), .dct (sgW cs) (bitsL P)] = .ok (.cell 3) [c1, .lst (bitsL left), .dct (sgW cs) (bitsL P), nE (dE d)] := by
    unfold eAsN
    simp only [x_N, x_aCons, x_aNil, x_2, x_var, fg2, x_c, Out.bind_ok, ix_m0, dc]
    show (match mapO keyW (sgW cs) with
      | some _ => Out.ok (W.cell 3) (([c1, .lst (bitsL left), .dct (sgW cs) (bitsL P), .dct (sgW cs) (bitsL P)] : Sto).set 3 (.nct false HW.w (sgW cs) (bitsL P)))
      | none => .bad) = _
    rw [keys_sg, nd]; rfl
  refine asg_to (w := .cell 4) (st1 := c1 :: T0) (by
    simp only [x_N, x_aCons, x_aNil, x_2, x_var, fg2, x_c, as, Out.bind_ok, ix_m1, ix_m2, x_cell (ws := [.cell 3, bits s, bits t]) (by simp)]
    rw [hT0]; rfl) ?_
  simp only [fs3]
  have ne := eqS (st := c1 :: T0) (a := "made") (b := "made") (by decide +kernel) (by decide +kernel)
  rw [show (("made" : Str) == "made") = true by simp] at ne
  refine if_no (st1 := c1 :: T0) (st2 := c1 :: T0) (by simp only [x_bOf, x_2, x_call, x_aCons, x_var, fg3, x_c, x_aNil, Out.bind_ok, O0.ix.1, O0.ix.2.1, O0.ix.2.2, m0, ne, Bool.not_true]) rfl ?_
  refine seq_to ef ?_
  rfl
end

end SL
namespace SL
open PySem PySem.Spec PyProof.Rows L2
theorem exT_ok {K : PySem.W.Frag} {mg : Str → Option Value} {C_BadBook C_LabelError : Addr} (g_BadBook : mg "BadBook" = some (.ref C_BadBook)) (g_LabelError : mg "LabelError" = some (.ref C_LabelError)) (p_BadBook_BadBook : PySem.W.exmOne K (.ref C_BadBook) (.ref C_BadBook) = some true) (p_BadBook_LabelError : PySem.W.exmOne K (.ref C_BadBook) (.ref C_LabelError) = some true) : ExTOk K mg exT := by
  intro c c2 b h C C2 hc hc2
  have m := tabL_at h
  simp only [exL, List.mem_cons, Prod.mk.injEq, List.not_mem_nil, or_false] at m
  rcases m with ⟨rfl, rfl, rfl⟩ | ⟨rfl, rfl, rfl⟩
  · cases hc.symm.trans g_BadBook; cases hc2.symm.trans g_BadBook; exact p_BadBook_BadBook
  · cases hc.symm.trans g_BadBook; cases hc2.symm.trans g_LabelError; exact p_BadBook_LabelError
def spLaw (K : PySem.W.Frag) : Sp := fun vs H Q _ => ∃ (a : Addr) (ns : List Int), vs = [.ref a] ∧ SqL K H a (ns.map V.int) ∧ ns.length ≤ 63 ∧ (∀ z ∈ ns, Builtin.Int.intBits z ≤ 1048576) ∧ ∀ H', Q (.bl true) H'
theorem sp_law [HW] {K : PySem.W.Frag} {mg : Str → Option Value} (hl : ∀ ns : List Int, ns.length ≤ 63 → (∀ z ∈ ns, Builtin.Int.intBits z ≤ 1048576) → ∃ st, F_law [.ro (ns.map W.int)] [] = .ok (.bl true) st) : ∀ vs H Q E, spLaw K vs H Q E → spF K mg 1 F_law vs H Q E := by
  intro vs H Q E ⟨a, ns, e, hS, h1, h2, hq⟩
  obtain ⟨st, e2⟩ := hl ns h1 h2
  subst e
  exact spF_of hS e2 hq
theorem all_mk {l : PySem.W.OpenLaw} {w : World} {K : PySem.W.Frag} {h : Heap} {mg : Str → Option Value} {fa : Addr} (X : K.In h) (G : h.Ns mainGlobals mg) (hfa : mg "law" = some (.ref fa))
    {f0 : Addr} {od0 an0 : Option Addr} {sl0 : Array (Option Value)} {oc0 kV0 dc0 pm0 cd0 ct0 : Value}
    {f1 : Addr} {od1 an1 : Option Addr} {sl1 : Array (Option Value)} {oc1 kV1 dc1 pm1 cd1 ct1 : Value}
    {f2 : Addr} {od2 an2 : Option Addr} {sl2 : Array (Option Value)} {oc2 kV2 dc2 pm2 cd2 ct2 : Value}
    {f3 : Addr} {od3 an3 : Option Addr} {sl3 : Array (Option Value)} {oc3 kV3 dc3 pm3 cd3 ct3 : Value}
    {f4 : Addr} {od4 an4 : Option Addr} {sl4 : Array (Option Value)} {oc4 kV4 dc4 pm4 cd4 ct4 : Value}
    {f5 : Addr} {od5 an5 : Option Addr} {sl5 : Array (Option Value)} {oc5 kV5 dc5 pm5 cd5 ct5 : Value}
    {f6 : Addr} {od6 an6 : Option Addr} {sl6 : Array (Option Value)} {oc6 kV6 dc6 pm6 cd6 ct6 : Value}
    {f7 : Addr} {od7 an7 : Option Addr} {sl7 : Array (Option Value)} {oc7 kV7 dc7 pm7 cd7 ct7 : Value}
    {f8 : Addr} {od8 an8 : Option Addr} {sl8 : Array (Option Value)} {oc8 kV8 dc8 pm8 cd8 ct8 : Value}
    {f9 : Addr} {od9 an9 : Option Addr} {sl9 : Array (Option Value)} {oc9 kV9 dc9 pm9 cd9 ct9 : Value}
    {f10 : Addr} {od10 an10 : Option Addr} {sl10 : Array (Option Value)} {oc10 kV10 dc10 pm10 cd10 ct10 : Value}
    {f11 : Addr} {od11 an11 : Option Addr} {sl11 : Array (Option Value)} {oc11 kV11 dc11 pm11 cd11 ct11 : Value}
    {f12 : Addr} {od12 an12 : Option Addr} {sl12 : Array (Option Value)} {oc12 kV12 dc12 pm12 cd12 ct12 : Value}
    {f13 : Addr} {od13 an13 : Option Addr} {sl13 : Array (Option Value)} {oc13 kV13 dc13 pm13 cd13 ct13 : Value}
    {f14 : Addr} {od14 an14 : Option Addr} {sl14 : Array (Option Value)} {oc14 kV14 dc14 pm14 cd14 ct14 : Value}
    {f15 : Addr} {od15 an15 : Option Addr} {sl15 : Array (Option Value)} {oc15 kV15 dc15 pm15 cd15 ct15 : Value}
    {f16 : Addr} {od16 an16 : Option Addr} {sl16 : Array (Option Value)} {oc16 kV16 dc16 pm16 cd16 ct16 : Value}
    {f17 : Addr} {od17 an17 : Option Addr} {sl17 : Array (Option Value)} {oc17 kV17 dc17 pm17 cd17 ct17 : Value}
    {f18 : Addr} {od18 an18 : Option Addr} {sl18 : Array (Option Value)} {oc18 kV18 dc18 pm18 cd18 ct18 : Value}
    {f19 : Addr} {od19 an19 : Option Addr} {sl19 : Array (Option Value)} {oc19 kV19 dc19 pm19 cd19 ct19 : Value}
    {t_MOST_SIGNS : Tok}
    {t_SIGNS : Tok}
    {t_WIDEST_BLOCK : Tok}
    {C_Book : Addr}
    {C_BadBook : Addr}
    {C_LabelError : Addr}
    {nm_BadBook qn_BadBook : Str} {N_BadBook : Addr} {bs_BadBook : List Value} {sn_BadBook : List Str} {sub_BadBook : List Value} {ab_BadBook : Bool} {col_BadBook : Option Bool} {dd_BadBook : Option Addr} {m0_BadBook m1_BadBook m2_BadBook m3_BadBook m5_BadBook : Option Value}
    {fi_BadBook : Addr} {odi_BadBook ani_BadBook : Option Addr} {sli_BadBook : Array (Option Value)} {oci_BadBook kVi_BadBook dci_BadBook pmi_BadBook cdi_BadBook cti_BadBook : Value}
    (g_Book : PySem.W.nsIn K mainGlobals "Book" = some (some (.ref C_Book)))
    (g_BadBook : PySem.W.nsIn K mainGlobals "BadBook" = some (some (.ref C_BadBook)))
    (g_LabelError : PySem.W.nsIn K mainGlobals "LabelError" = some (some (.ref C_LabelError)))
    (a0 : PySem.W.nsIn K mainGlobals "_law_draw" = some (some (.ref f0)))
    (l0 : K.lookup f0 = some ⟨oc0, od0, .func (PySem.W.fnOf "_law_draw" "_law_draw" (defArgs s_law_draw) (defBody s_law_draw) (defScope s_law_draw) .none kV0 dc0 pm0 an0 cd0 ct0), sl0⟩)
    (c0 : PySem.W.codeIn K cd0 "_law_draw" = true)
    (k0 : PySem.W.keepIn K (.ref f0) = true)
    (a1 : PySem.W.nsIn K mainGlobals "_law_power" = some (some (.ref f1)))
    (l1 : K.lookup f1 = some ⟨oc1, od1, .func (PySem.W.fnOf "_law_power" "_law_power" (defArgs s_law_power) (defBody s_law_power) (defScope s_law_power) .none kV1 dc1 pm1 an1 cd1 ct1), sl1⟩)
    (c1 : PySem.W.codeIn K cd1 "_law_power" = true)
    (k1 : PySem.W.keepIn K (.ref f1) = true)
    (a2 : PySem.W.nsIn K mainGlobals "_law_row_of" = some (some (.ref f2)))
    (l2 : K.lookup f2 = some ⟨oc2, od2, .func (PySem.W.fnOf "_law_row_of" "_law_row_of" (defArgs s_law_row_of) (defBody s_law_row_of) (defScope s_law_row_of) .none kV2 dc2 pm2 an2 cd2 ct2), sl2⟩)
    (c2 : PySem.W.codeIn K cd2 "_law_row_of" = true)
    (k2 : PySem.W.keepIn K (.ref f2) = true)
    (a3 : PySem.W.nsIn K mainGlobals "_law_signs" = some (some (.ref f3)))
    (l3 : K.lookup f3 = some ⟨oc3, od3, .func (PySem.W.fnOf "_law_signs" "_law_signs" (defArgs s_law_signs) (defBody s_law_signs) (defScope s_law_signs) .none kV3 dc3 pm3 an3 cd3 ct3), sl3⟩)
    (c3 : PySem.W.codeIn K cd3 "_law_signs" = true)
    (k3 : PySem.W.keepIn K (.ref f3) = true)
    (a4 : PySem.W.nsIn K mainGlobals "_law_book_model" = some (some (.ref f4)))
    (l4 : K.lookup f4 = some ⟨oc4, od4, .func (PySem.W.fnOf "_law_book_model" "_law_book_model" (defArgs s_law_book_model) (defBody s_law_book_model) (defScope s_law_book_model) .none kV4 dc4 pm4 an4 cd4 ct4), sl4⟩)
    (c4 : PySem.W.codeIn K cd4 "_law_book_model" = true)
    (k4 : PySem.W.keepIn K (.ref f4) = true)
    (a5 : PySem.W.nsIn K mainGlobals "_law_drawn_book" = some (some (.ref f5)))
    (l5 : K.lookup f5 = some ⟨oc5, od5, .func (PySem.W.fnOf "_law_drawn_book" "_law_drawn_book" (defArgs s_law_drawn_book) (defBody s_law_drawn_book) (defScope s_law_drawn_book) .none kV5 dc5 pm5 an5 cd5 ct5), sl5⟩)
    (c5 : PySem.W.codeIn K cd5 "_law_drawn_book" = true)
    (k5 : PySem.W.keepIn K (.ref f5) = true)
    (a6 : PySem.W.nsIn K mainGlobals "_law_is_row" = some (some (.ref f6)))
    (l6 : K.lookup f6 = some ⟨oc6, od6, .func (PySem.W.fnOf "_law_is_row" "_law_is_row" (defArgs s_law_is_row) (defBody s_law_is_row) (defScope s_law_is_row) .none kV6 dc6 pm6 an6 cd6 ct6), sl6⟩)
    (c6 : PySem.W.codeIn K cd6 "_law_is_row" = true)
    (k6 : PySem.W.keepIn K (.ref f6) = true)
    (a7 : PySem.W.nsIn K mainGlobals "_law_is_sign" = some (some (.ref f7)))
    (l7 : K.lookup f7 = some ⟨oc7, od7, .func (PySem.W.fnOf "_law_is_sign" "_law_is_sign" (defArgs s_law_is_sign) (defBody s_law_is_sign) (defScope s_law_is_sign) .none kV7 dc7 pm7 an7 cd7 ct7), sl7⟩)
    (c7 : PySem.W.codeIn K cd7 "_law_is_sign" = true)
    (k7 : PySem.W.keepIn K (.ref f7) = true)
    (a8 : PySem.W.nsIn K mainGlobals "_law_due" = some (some (.ref f8)))
    (l8 : K.lookup f8 = some ⟨oc8, od8, .func (PySem.W.fnOf "_law_due" "_law_due" (defArgs s_law_due) (defBody s_law_due) (defScope s_law_due) .none kV8 dc8 pm8 an8 cd8 ct8), sl8⟩)
    (c8 : PySem.W.codeIn K cd8 "_law_due" = true)
    (k8 : PySem.W.keepIn K (.ref f8) = true)
    (a9 : PySem.W.nsIn K mainGlobals "_law_pool" = some (some (.ref f9)))
    (l9 : K.lookup f9 = some ⟨oc9, od9, .func (PySem.W.fnOf "_law_pool" "_law_pool" (defArgs s_law_pool) (defBody s_law_pool) (defScope s_law_pool) .none kV9 dc9 pm9 an9 cd9 ct9), sl9⟩)
    (c9 : PySem.W.codeIn K cd9 "_law_pool" = true)
    (k9 : PySem.W.keepIn K (.ref f9) = true)
    (a10 : PySem.W.nsIn K mainGlobals "is_integer" = some (some (.ref f10)))
    (l10 : K.lookup f10 = some ⟨oc10, od10, .func (PySem.W.fnOf "is_integer" "is_integer" (defArgs s_is_integer) (defBody s_is_integer) (defScope s_is_integer) .none kV10 dc10 pm10 an10 cd10 ct10), sl10⟩)
    (c10 : PySem.W.codeIn K cd10 "is_integer" = true)
    (k10 : PySem.W.keepIn K (.ref f10) = true)
    (a11 : PySem.W.nsIn K mainGlobals "is_between" = some (some (.ref f11)))
    (l11 : K.lookup f11 = some ⟨oc11, od11, .func (PySem.W.fnOf "is_between" "is_between" (defArgs s_is_between) (defBody s_is_between) (defScope s_is_between) .none kV11 dc11 pm11 an11 cd11 ct11), sl11⟩)
    (c11 : PySem.W.codeIn K cd11 "is_between" = true)
    (k11 : PySem.W.keepIn K (.ref f11) = true)
    (a12 : PySem.W.nsIn K mainGlobals "is_row" = some (some (.ref f12)))
    (l12 : K.lookup f12 = some ⟨oc12, od12, .func (PySem.W.fnOf "is_row" "is_row" (defArgs s_is_row) (defBody s_is_row) (defScope s_is_row) .none kV12 dc12 pm12 an12 cd12 ct12), sl12⟩)
    (c12 : PySem.W.codeIn K cd12 "is_row" = true)
    (k12 : PySem.W.keepIn K (.ref f12) = true)
    (a13 : PySem.W.nsIn K mainGlobals "is_sign" = some (some (.ref f13)))
    (l13 : K.lookup f13 = some ⟨oc13, od13, .func (PySem.W.fnOf "is_sign" "is_sign" (defArgs s_is_sign) (defBody s_is_sign) (defScope s_is_sign) .none kV13 dc13 pm13 an13 cd13 ct13), sl13⟩)
    (c13 : PySem.W.codeIn K cd13 "is_sign" = true)
    (k13 : PySem.W.keepIn K (.ref f13) = true)
    (a14 : PySem.W.nsIn K mainGlobals "are_patterns" = some (some (.ref f14)))
    (l14 : K.lookup f14 = some ⟨oc14, od14, .func (PySem.W.fnOf "are_patterns" "are_patterns" (defArgs s_are_patterns) (defBody s_are_patterns) (defScope s_are_patterns) .none kV14 dc14 pm14 an14 cd14 ct14), sl14⟩)
    (c14 : PySem.W.codeIn K cd14 "are_patterns" = true)
    (k14 : PySem.W.keepIn K (.ref f14) = true)
    (a15 : PySem.W.nsIn K mainGlobals "is_row_of" = some (some (.ref f15)))
    (l15 : K.lookup f15 = some ⟨oc15, od15, .func (PySem.W.fnOf "is_row_of" "is_row_of" (defArgs s_is_row_of) (defBody s_is_row_of) (defScope s_is_row_of) .none kV15 dc15 pm15 an15 cd15 ct15), sl15⟩)
    (c15 : PySem.W.codeIn K cd15 "is_row_of" = true)
    (k15 : PySem.W.keepIn K (.ref f15) = true)
    (a16 : PySem.W.findIn K (.ref C_Book) "__init__" = some (some (.ref f16)))
    (i16 : PySem.W.isFn K (.ref f16) = true)
    (l16 : K.lookup f16 = some ⟨oc16, od16, .func (PySem.W.fnOf "__init__" "Book.__init__" (defArgs s_Book___init__) (defBody s_Book___init__) (defScope s_Book___init__) .none kV16 dc16 pm16 an16 cd16 ct16), sl16⟩)
    (c16 : PySem.W.codeIn K cd16 "Book.__init__" = true)
    (k16 : PySem.W.keepIn K (.ref f16) = true)
    (a17 : PySem.W.nsIn K mainGlobals "_law_told" = some (some (.ref f17)))
    (l17 : K.lookup f17 = some ⟨oc17, od17, .func (PySem.W.fnOf "_law_told" "_law_told" (defArgs s_law_told) (defBody s_law_told) (defScope s_law_told) .none kV17 dc17 pm17 an17 cd17 ct17), sl17⟩)
    (c17 : PySem.W.codeIn K cd17 "_law_told" = true)
    (k17 : PySem.W.keepIn K (.ref f17) = true)
    (a18 : PySem.W.nsIn K mainGlobals "_law_wrong_row" = some (some (.ref f18)))
    (l18 : K.lookup f18 = some ⟨oc18, od18, .func (PySem.W.fnOf "_law_wrong_row" "_law_wrong_row" (defArgs s_law_wrong_row) (defBody s_law_wrong_row) (defScope s_law_wrong_row) .none kV18 dc18 pm18 an18 cd18 ct18), sl18⟩)
    (c18 : PySem.W.codeIn K cd18 "_law_wrong_row" = true)
    (k18 : PySem.W.keepIn K (.ref f18) = true)
    (a19 : PySem.W.nsIn K mainGlobals "law" = some (some (.ref f19)))
    (l19 : K.lookup f19 = some ⟨oc19, od19, .func (PySem.W.fnOf "law" "law" (defArgs s_law) (defBody s_law) (defScope s_law) .none kV19 dc19 pm19 an19 cd19 ct19), sl19⟩)
    (c19 : PySem.W.codeIn K cd19 "law" = true)
    (k19 : PySem.W.keepIn K (.ref f19) = true)
    (z_all : PySem.W.nsIn K mainGlobals "all" = some none)
    (z_bool : PySem.W.nsIn K mainGlobals "bool" = some none)
    (z_dict : PySem.W.nsIn K mainGlobals "dict" = some none)
    (z_int : PySem.W.nsIn K mainGlobals "int" = some none)
    (z_isinstance : PySem.W.nsIn K mainGlobals "isinstance" = some none)
    (z_len : PySem.W.nsIn K mainGlobals "len" = some none)
    (z_list : PySem.W.nsIn K mainGlobals "list" = some none)
    (z_max : PySem.W.nsIn K mainGlobals "max" = some none)
    (z_min : PySem.W.nsIn K mainGlobals "min" = some none)
    (z_range : PySem.W.nsIn K mainGlobals "range" = some none)
    (z_set : PySem.W.nsIn K mainGlobals "set" = some none)
    (z_sorted : PySem.W.nsIn K mainGlobals "sorted" = some none)
    (z_str : PySem.W.nsIn K mainGlobals "str" = some none)
    (z_tuple : PySem.W.nsIn K mainGlobals "tuple" = some none)
    (q_MOST_SIGNS : PySem.W.nsIn K mainGlobals "MOST_SIGNS" = some (some (.int 10 t_MOST_SIGNS)))
    (q_SIGNS : PySem.W.nsIn K mainGlobals "SIGNS" = some (some (.str "0123456789abcdefghijklmnopqrstuvwxyz" t_SIGNS)))
    (q_WIDEST_BLOCK : PySem.W.nsIn K mainGlobals "WIDEST_BLOCK" = some (some (.int 6 t_WIDEST_BLOCK)))
    (pg_Book : PySem.W.plainGet K C_Book Str.empty = true)
    (d_Book : PySem.W.hasDictIn K C_Book = true)
    (po_Book : PySem.W.plainOver K C_Book = true)
    (sa_Book : PySem.W.findIn K (.ref C_Book) "__setattr__" = some (some (.builtin "object.__setattr__")))
    (ha_Book : PySem.W.findIn K (.ref C_Book) "__class__" = some (some (.builtin "object.__class__")))
    (mo_Book : PySem.W.mroIn K C_Book (.type "object") = some true)
    (ic_Book : PySem.W.isClsIn K C_Book = true)
    (y_Book : PySem.W.typeIn K (.ref C_Book) = some (.type "type"))
    (mk_Book : PySem.W.makesIn K C_Book = true)
    (kc_Book : PySem.W.keepIn K (.ref C_Book) = true)
    (nf_Book__rows : PySem.W.findIn K (.ref C_Book) "_rows" = some none)
    (nf_Book_signs : PySem.W.findIn K (.ref C_Book) "signs" = some none)
    (nf_Book_start : PySem.W.findIn K (.ref C_Book) "start" = some none)
    (nf_Book_stop : PySem.W.findIn K (.ref C_Book) "stop" = some none)
    (nf_Book_width : PySem.W.findIn K (.ref C_Book) "width" = some none)
    (ocn : PySem.W.specialIn K (.builtin "object.__class__") "__get__" = some (some (.builtin "getset_descriptor.__get__")))
    (oct : PySem.W.takesIn K (.builtin "object.__class__") = some true)
    (e_BadBook : PySem.W.subIn K (.ref C_BadBook) (.type "BaseException") = some true)
    (y_BadBook : PySem.W.typeIn K (.ref C_BadBook) = some (.type "type"))
    (d_BadBook : PySem.W.hasDictIn K C_BadBook = true)
    (e_LabelError : PySem.W.subIn K (.ref C_LabelError) (.type "BaseException") = some true)
    (y_LabelError : PySem.W.typeIn K (.ref C_LabelError) = some (.type "type"))
    (d_LabelError : PySem.W.hasDictIn K C_LabelError = true)
    (x_BadBook : K.lookup C_BadBook = some (excClassObj nm_BadBook qn_BadBook C_BadBook N_BadBook bs_BadBook [.ref C_LabelError, .type "ValueError", .type "Exception", .type "BaseException", .type "object"] true sn_BadBook sub_BadBook ab_BadBook col_BadBook dd_BadBook m0_BadBook m1_BadBook m2_BadBook m3_BadBook m5_BadBook "ValueError.__new__"))
    (sa_BadBook : PySem.W.findIn K (.ref C_BadBook) "__setattr__" = some (some (.builtin "object.__setattr__")))
    (kC_BadBook : PySem.W.keepIn K (.ref C_BadBook) = true)
    (nb_BadBook_part : PySem.W.findIn K (.ref C_BadBook) "part" = some none)
    (ia_BadBook : PySem.W.findIn K (.ref C_BadBook) "__init__" = some (some (.ref fi_BadBook)))
    (it_BadBook : PySem.W.typeIn K (.ref fi_BadBook) = some (.type "function"))
    (il_BadBook : K.lookup fi_BadBook = some ⟨oci_BadBook, odi_BadBook, .func (PySem.W.fnOf "__init__" "BadBook.__init__" (defArgs s_init_BadBook) (defBody s_init_BadBook) (defScope s_init_BadBook) .none kVi_BadBook dci_BadBook pmi_BadBook ani_BadBook cdi_BadBook cti_BadBook), sli_BadBook⟩)
    (ic_BadBook : PySem.W.codeIn K cdi_BadBook "BadBook.__init__" = true)
    (ik_BadBook : PySem.W.keepIn K (.ref fi_BadBook) = true)
    (ga_BadBook : PySem.W.findIn K (.ref C_BadBook) "__getattribute__" = some (some (.builtin "BaseException.__getattribute__")))
    (gg_BadBook : PySem.W.findIn K (.ref C_BadBook) "__getattr__" = some none)
    (p_BadBook_BadBook : PySem.W.subIn K (.ref C_BadBook) (.ref C_BadBook) = some true)
    (p_BadBook_LabelError : PySem.W.subIn K (.ref C_BadBook) (.ref C_LabelError) = some true)
    : ∃ fd : FuncData, (∀ (s : Shared) (v : Value), BindsTo s fd ⟨[v], []⟩ [("_law_script", v)]) ∧ ∀ base : Heap, K.In base → base.Ns mainGlobals mg → FnOk l.prog w K mg base (L2.CX l.prog w) 8 fa fd ["_law_script"] (spLaw K) := by
  have e := hfa.symm.trans (PySem.W.mg_of X G a19)
  cases e
  have gg_BadBook_ := PySem.W.mg_of X G g_BadBook
  have gg_LabelError_ := PySem.W.mg_of X G g_LabelError
  have gg_Book_ := PySem.W.mg_of X G g_Book
  have xt : ExTOk K mg exT := exT_ok gg_BadBook_ gg_LabelError_ (PySem.W.exm_ref e_BadBook d_BadBook y_BadBook p_BadBook_BadBook) (PySem.W.exm_ref e_LabelError d_LabelError y_LabelError p_BadBook_LabelError)
  letI : HW := ⟨w⟩
  have T : ∀ base : Heap, Txt l.prog K mg base C_BadBook C_LabelError C_Book := fun base =>
    { n_all := PySem.W.mg_none_of X G z_all,
      n_bool := PySem.W.mg_none_of X G z_bool,
      n_dict := PySem.W.mg_none_of X G z_dict,
      n_int := PySem.W.mg_none_of X G z_int,
      n_isinstance := PySem.W.mg_none_of X G z_isinstance,
      n_len := PySem.W.mg_none_of X G z_len,
      n_list := PySem.W.mg_none_of X G z_list,
      n_max := PySem.W.mg_none_of X G z_max,
      n_min := PySem.W.mg_none_of X G z_min,
      n_range := PySem.W.mg_none_of X G z_range,
      n_set := PySem.W.mg_none_of X G z_set,
      n_sorted := PySem.W.mg_none_of X G z_sorted,
      n_str := PySem.W.mg_none_of X G z_str,
      n_tuple := PySem.W.mg_none_of X G z_tuple,
      c_MOST_SIGNS := ⟨_, PySem.W.mg_of X G q_MOST_SIGNS⟩,
      c_SIGNS := ⟨_, PySem.W.mg_of X G q_SIGNS⟩,
      c_WIDEST_BLOCK := ⟨_, PySem.W.mg_of X G q_WIDEST_BLOCK⟩,
      g_BadBook := gg_BadBook_,
      g_LabelError := gg_LabelError_,
      g_Book := gg_Book_,
      k_Book := ⟨⟨pg_Book, d_Book, po_Book, sa_Book⟩, ha_Book, ocn, oct, mo_Book, ic_Book, y_Book⟩,
      nf_Book__rows := nf_Book__rows,
      nf_Book_signs := nf_Book_signs,
      nf_Book_start := nf_Book_start,
      nf_Book_stop := nf_Book_stop,
      nf_Book_width := nf_Book_width,
      E_BadBook := ⟨⟨_, _, _, _, ⟨⟨_, _, _, _, _, _, _, _, _, _, _, _, _, _, _, x_BadBook, rfl⟩, sa_BadBook, e_BadBook, y_BadBook, kC_BadBook⟩, ia_BadBook, it_BadBook, init1 (fun_mk (st := s_init_BadBook) il_BadBook ic_BadBook ik_BadBook) ⟨rfl, rfl, rfl, by decide +kernel, rfl, by decide +kernel, by decide +kernel⟩ rfl ⟨⟨_, _, _, _, _, _, _, _, _, _, _, _, _, _, _, x_BadBook, rfl⟩, sa_BadBook, e_BadBook, y_BadBook, kC_BadBook⟩ nb_BadBook_part (by decide) (by decide), (fun_mk (st := s_init_BadBook) il_BadBook ic_BadBook ik_BadBook).binds (fun _ _ _ _ _ _ us hl => match us, hl with | [_, _], _ => rfl), gg_BadBook_⟩⟩,
      xf_BadBook := ⟨ga_BadBook, gg_BadBook, e_BadBook, d_BadBook⟩,
      xn_BadBook_part := nb_BadBook_part,
      ext := xt }
  have I0 := fun base => I_law_draw (T base) (fun_mk (st := s_law_draw) l0 c0 k0) (PySem.W.mg_of X G a0) ((fun_mk (st := s_law_draw) l0 c0 k0).binds (ps := ["_law_pool_here", "_law_many"]) fun _ _ _ _ _ _ us hl => match us, hl with | [_, _], _ => rfl)
  have I1 := fun base => I_law_power (T base) (fun_mk (st := s_law_power) l1 c1 k1) (PySem.W.mg_of X G a1) ((fun_mk (st := s_law_power) l1 c1 k1).binds (ps := ["_law_many"]) fun _ _ _ _ _ _ us hl => match us, hl with | [_], _ => rfl)
  have I2 := fun base => I_law_row_of (T base) (fun_mk (st := s_law_row_of) l2 c2 k2) (PySem.W.mg_of X G a2) ((fun_mk (st := s_law_row_of) l2 c2 k2).binds (ps := ["_law_number", "_law_width"]) fun _ _ _ _ _ _ us hl => match us, hl with | [_, _], _ => rfl)
  have I3 := fun base => I_law_signs (T base) (I0 base) (fun_mk (st := s_law_signs) l3 c3 k3) (PySem.W.mg_of X G a3) ((fun_mk (st := s_law_signs) l3 c3 k3).binds (ps := ["_law_pool_here", "_law_many"]) fun _ _ _ _ _ _ us hl => match us, hl with | [_, _], _ => rfl)
  have I4 := fun base => I_law_book_model (T base) (I0 base) (I1 base) (I2 base) (I3 base) (fun_mk (st := s_law_book_model) l4 c4 k4) (PySem.W.mg_of X G a4) ((fun_mk (st := s_law_book_model) l4 c4 k4).binds (ps := ["_law_pool_here", "_law_width", "_law_many"]) fun _ _ _ _ _ _ us hl => match us, hl with | [_, _, _], _ => rfl)
  have I5 := fun base => I_law_drawn_book (T base) (I4 base) (I0 base) (fun_mk (st := s_law_drawn_book) l5 c5 k5) (PySem.W.mg_of X G a5) ((fun_mk (st := s_law_drawn_book) l5 c5 k5).binds (ps := ["_law_pool_here"]) fun _ _ _ _ _ _ us hl => match us, hl with | [_], _ => rfl)
  have I6 := fun base => I_law_is_row (T base) (fun_mk (st := s_law_is_row) l6 c6 k6) (PySem.W.mg_of X G a6) ((fun_mk (st := s_law_is_row) l6 c6 k6).binds (ps := ["_law_thing", "_law_width"]) fun _ _ _ _ _ _ us hl => match us, hl with | [_, _], _ => rfl)
  have I7 := fun base => I_law_is_sign (T base) (fun_mk (st := s_law_is_sign) l7 c7 k7) (PySem.W.mg_of X G a7) ((fun_mk (st := s_law_is_sign) l7 c7 k7).binds (ps := ["_law_thing"]) fun _ _ _ _ _ _ us hl => match us, hl with | [_], _ => rfl)
  have I8 := fun base => I_law_due (T base) (I6 base) (I7 base) (fun_mk (st := s_law_due) l8 c8 k8) (PySem.W.mg_of X G a8) ((fun_mk (st := s_law_due) l8 c8 k8).binds (ps := ["_law_patterns", "_law_start", "_law_stop"]) fun _ _ _ _ _ _ us hl => match us, hl with | [_, _, _], _ => rfl)
  have I9 := fun base => I_law_pool (T base) (fun_mk (st := s_law_pool) l9 c9 k9) (PySem.W.mg_of X G a9) ((fun_mk (st := s_law_pool) l9 c9 k9).binds (ps := ["_law_script"]) fun _ _ _ _ _ _ us hl => match us, hl with | [_], _ => rfl)
  have I10 := fun base => I_is_integer (T base) (fun_mk (st := s_is_integer) l10 c10 k10) (PySem.W.mg_of X G a10) ((fun_mk (st := s_is_integer) l10 c10 k10).binds (ps := ["value"]) fun _ _ _ _ _ _ us hl => match us, hl with | [_], _ => rfl)
  have I11 := fun base => I_is_between (T base) (I10 base) (fun_mk (st := s_is_between) l11 c11 k11) (PySem.W.mg_of X G a11) ((fun_mk (st := s_is_between) l11 c11 k11).binds (ps := ["value", "low", "high"]) fun _ _ _ _ _ _ us hl => match us, hl with | [_, _, _], _ => rfl)
  have I12 := fun base => I_is_row (T base) (I11 base) (fun_mk (st := s_is_row) l12 c12 k12) (PySem.W.mg_of X G a12) ((fun_mk (st := s_is_row) l12 c12 k12).binds (ps := ["thing"]) fun _ _ _ _ _ _ us hl => match us, hl with | [_], _ => rfl)
  have I13 := fun base => I_is_sign (T base) (fun_mk (st := s_is_sign) l13 c13 k13) (PySem.W.mg_of X G a13) ((fun_mk (st := s_is_sign) l13 c13 k13).binds (ps := ["value"]) fun _ _ _ _ _ _ us hl => match us, hl with | [_], _ => rfl)
  have I14 := fun base => I_are_patterns (T base) (I12 base) (I13 base) (fun_mk (st := s_are_patterns) l14 c14 k14) (PySem.W.mg_of X G a14) ((fun_mk (st := s_are_patterns) l14 c14 k14).binds (ps := ["value"]) fun _ _ _ _ _ _ us hl => match us, hl with | [_], _ => rfl)
  have I15 := fun base => I_is_row_of (T base) (I12 base) (fun_mk (st := s_is_row_of) l15 c15 k15) (PySem.W.mg_of X G a15) ((fun_mk (st := s_is_row_of) l15 c15 k15).binds (ps := ["thing", "width"]) fun _ _ _ _ _ _ us hl => match us, hl with | [_, _], _ => rfl)
  have I16 := fun base => MK_Book (T base) (I14 base) (I15 base) (fun_mk (st := s_Book___init__) l16 c16 k16) ⟨mk_Book, a16, i16, kc_Book⟩ ((fun_mk (st := s_Book___init__) l16 c16 k16).binds (ps := ["self", "patterns", "start", "stop"]) fun _ _ _ _ _ _ us hl => match us, hl with | [_, _, _, _], _ => rfl)
  have I17 := fun base => I_law_told (T base) (I16 base) (fun_mk (st := s_law_told) l17 c17 k17) (PySem.W.mg_of X G a17) ((fun_mk (st := s_law_told) l17 c17 k17).binds (ps := ["_law_patterns", "_law_start", "_law_stop"]) fun _ _ _ _ _ _ us hl => match us, hl with | [_, _, _], _ => rfl)
  have I18 := fun base => I_law_wrong_row (T base) (I0 base) (fun_mk (st := s_law_wrong_row) l18 c18 k18) (PySem.W.mg_of X G a18) ((fun_mk (st := s_law_wrong_row) l18 c18 k18).binds (ps := ["_law_pool_here", "_law_row"]) fun _ _ _ _ _ _ us hl => match us, hl with | [_, _], _ => rfl)
  exact ⟨_, fun s v => .of_eq rfl, fun base _ _ => FnOk.imp (ok_law (T base) (I0 base) (I5 base) (I8 base) (I9 base) (I17 base) (I18 base) (fun_mk (st := s_law) l19 c19 k19)) (sp_law law_true)⟩
end SL
open PySem PySem.W PyProof.Rows
set_option maxRecDepth 100000 in
set_option maxHeartbeats 0 in
theorem PySem.Challenge.cw_surelabels_k04_wrong_books_holds : PySem.Challenge.rw_surelabels_k04_wrong_books.Holds := by
  w_on; o_law; k_head; (case hw => w_witness2)
  k_fill
  refine L2.walk_ofB (l := PySem.Challenge.rw_surelabels_k04_wrong_books) (n := 63) (k := 8) (x := "_law_script") (CX := fun w => L2.CX (PySem.Challenge.rw_surelabels_k04_wrong_books).prog w) (sp := fun w => SL.spLaw _) rfl (by decide) rfl ⟨rfl, by decide, by decide⟩ (fun w h Y => PySem.W.kIn_of Y) ?F (fun w H a ns h1 h2 _ hS => ⟨a, ns, rfl, hS, h1, h2, fun _ => rfl⟩) SL.cx_no
  case F =>
    intro w mg fa h KX G hmg
    refine' SL.all_mk KX G hmg ?g_Book ?g_BadBook ?g_LabelError ?a0 ?l0 ?c0 ?k0 ?a1 ?l1 ?c1 ?k1 ?a2 ?l2 ?c2 ?k2 ?a3 ?l3 ?c3 ?k3 ?a4 ?l4 ?c4 ?k4 ?a5 ?l5 ?c5 ?k5 ?a6 ?l6 ?c6 ?k6 ?a7 ?l7 ?c7 ?k7 ?a8 ?l8 ?c8 ?k8 ?a9 ?l9 ?c9 ?k9 ?a10 ?l10 ?c10 ?k10 ?a11 ?l11 ?c11 ?k11 ?a12 ?l12 ?c12 ?k12 ?a13 ?l13 ?c13 ?k13 ?a14 ?l14 ?c14 ?k14 ?a15 ?l15 ?c15 ?k15 ?a16 ?i16 ?l16 ?c16 ?k16 ?a17 ?l17 ?c17 ?k17 ?a18 ?l18 ?c18 ?k18 ?a19 ?l19 ?c19 ?k19 ?z_all ?z_bool ?z_dict ?z_int ?z_isinstance ?z_len ?z_list ?z_max ?z_min ?z_range ?z_set ?z_sorted ?z_str ?z_tuple ?q_MOST_SIGNS ?q_SIGNS ?q_WIDEST_BLOCK ?pg_Book ?d_Book ?po_Book ?sa_Book ?ha_Book ?mo_Book ?ic_Book ?y_Book ?mk_Book ?kc_Book ?nf_Book__rows ?nf_Book_signs ?nf_Book_start ?nf_Book_stop ?nf_Book_width ?ocn ?oct ?e_BadBook ?y_BadBook ?d_BadBook ?e_LabelError ?y_LabelError ?d_LabelError ?x_BadBook ?sa_BadBook ?kC_BadBook ?nb_BadBook_part ?ia_BadBook ?it_BadBook ?il_BadBook ?ic_BadBook ?ik_BadBook ?ga_BadBook ?gg_BadBook ?p_BadBook_BadBook ?p_BadBook_LabelError
    (case g_Book => k_is)
    (case g_BadBook => k_is)
    (case g_LabelError => k_is)
    (case a0 => k_is)
    (case l0 => k_is)
    (case c0 => k_is)
    (case k0 => k_is)
    (case a1 => k_is)
    (case l1 => k_is)
    (case c1 => k_is)
    (case k1 => k_is)
    (case a2 => k_is)
    (case l2 => k_is)
    (case c2 => k_is)
    (case k2 => k_is)
    (case a3 => k_is)
    (case l3 => k_is)
    (case c3 => k_is)
    (case k3 => k_is)
    (case a4 => k_is)
    (case l4 => k_is)
    (case c4 => k_is)
    (case k4 => k_is)
    (case a5 => k_is)
    (case l5 => k_is)
    (case c5 => k_is)
    (case k5 => k_is)
    (case a6 => k_is)
    (case l6 => k_is)
    (case c6 => k_is)
    (case k6 => k_is)
    (case a7 => k_is)
    (case l7 => k_is)
    (case c7 => k_is)
    (case k7 => k_is)
    (case a8 => k_is)
    (case l8 => k_is)
    (case c8 => k_is)
    (case k8 => k_is)
    (case a9 => k_is)
    (case l9 => k_is)
    (case c9 => k_is)
    (case k9 => k_is)
    (case a10 => k_is)
    (case l10 => k_is)
    (case c10 => k_is)
    (case k10 => k_is)
    (case a11 => k_is)
    (case l11 => k_is)
    (case c11 => k_is)
    (case k11 => k_is)
    (case a12 => k_is)
    (case l12 => k_is)
    (case c12 => k_is)
    (case k12 => k_is)
    (case a13 => k_is)
    (case l13 => k_is)
    (case c13 => k_is)
    (case k13 => k_is)
    (case a14 => k_is)
    (case l14 => k_is)
    (case c14 => k_is)
    (case k14 => k_is)
    (case a15 => k_is)
    (case l15 => k_is)
    (case c15 => k_is)
    (case k15 => k_is)
    (case a16 => k_is)
    (case i16 => k_is)
    (case l16 => k_is)
    (case c16 => k_is)
    (case k16 => k_is)
    (case a17 => k_is)
    (case l17 => k_is)
    (case c17 => k_is)
    (case k17 => k_is)
    (case a18 => k_is)
    (case l18 => k_is)
    (case c18 => k_is)
    (case k18 => k_is)
    (case a19 => k_is)
    (case l19 => k_is)
    (case c19 => k_is)
    (case k19 => k_is)
    (case z_all => k_is)
    (case z_bool => k_is)
    (case z_dict => k_is)
    (case z_int => k_is)
    (case z_isinstance => k_is)
    (case z_len => k_is)
    (case z_list => k_is)
    (case z_max => k_is)
    (case z_min => k_is)
    (case z_range => k_is)
    (case z_set => k_is)
    (case z_sorted => k_is)
    (case z_str => k_is)
    (case z_tuple => k_is)
    (case q_MOST_SIGNS => k_is)
    (case q_SIGNS => k_is)
    (case q_WIDEST_BLOCK => k_is)
    (case pg_Book => k_is)
    (case d_Book => k_is)
    (case po_Book => k_is)
    (case sa_Book => k_is)
    (case ha_Book => k_is)
    (case mo_Book => k_is)
    (case ic_Book => k_is)
    (case y_Book => k_is)
    (case mk_Book => k_is)
    (case kc_Book => k_is)
    (case nf_Book__rows => k_is)
    (case nf_Book_signs => k_is)
    (case nf_Book_start => k_is)
    (case nf_Book_stop => k_is)
    (case nf_Book_width => k_is)
    (case ocn => k_is)
    (case oct => k_is)
    (case e_BadBook => k_is)
    (case y_BadBook => k_is)
    (case d_BadBook => k_is)
    (case e_LabelError => k_is)
    (case y_LabelError => k_is)
    (case d_LabelError => k_is)
    (case x_BadBook => k_is)
    (case sa_BadBook => k_is)
    (case kC_BadBook => k_is)
    (case nb_BadBook_part => k_is)
    (case ia_BadBook => k_is)
    (case it_BadBook => k_is)
    (case il_BadBook => k_is)
    (case ic_BadBook => k_is)
    (case ik_BadBook => k_is)
    (case ga_BadBook => k_is)
    (case gg_BadBook => k_is)
    (case p_BadBook_BadBook => k_is)
    (case p_BadBook_LabelError => k_is)
